/- What the functions come to. Conditions: none. -/
import Derived.Test.YtfaiahlpefmgmaaDoorEvCon
set_option linter.unusedSimpArgs false
set_option linter.unusedVariables false
namespace Go.Ev
open Go
def inR (x a b:Int):Bool:=decide (a≤x)&&decide (x≤b)
def qcv (b:UInt8):Bool:=inR b.toNat 97 122
def qby (b:UInt8):Bool:=inR b.toNat 48 57
def qkr (first:Bool):Str→Bool | []=>true | b::r=>(qcv b||(!first&&(qby b||b==45)))&&qkr false r
def qbe (s:Str):Bool:=qkr true s&&inR s.length 1 10
theorem qmf (b:UInt8)(n:Nat)(h:n < 256):((b.toNat:Int)==(n:Int))=(b==UInt8.ofNat n):=by
 rw[Bool.eq_iff_iff]
 simp only[beq_iff_eq]
 constructor
 ·intro e
  apply UInt8.toNat_inj.1
  have:(UInt8.ofNat n).toNat=n:=by simp;omega
  omega
 ·intro e
  have:(UInt8.ofNat n).toNat=n:=by simp;omega
  rw[e,this]
theorem qdsc (b:UInt8)(n:Nat)(h:n < 256):((b.toNat:Int) != (n:Int))=(b != UInt8.ofNat n):=by
 simp only[bne,qmf b n h]
theorem u8_lt (b:UInt8):(b.toNat:Int) < 256:=by have:=b.toNat_lt;omega
theorem qepb (x a b:Int):out qag [.one (Cell.int x),.one (Cell.int a),.one (Cell.int b)]=some [.one (Cell.bool (inR x a b))]:=by
 refine qau (H:=[]) (qcib 0 ?_)
 simp only[fci,inR]
 by_cases h:a≤x
 ·rw[decide_eq_true (by omega:x≥a),cond_true,Bool.true_and]
 ·rw[decide_eq_false (by omega:¬ x≥a),cond_false,Bool.false_and]
theorem qnbb (x a b:Int):out qcr [.one (Cell.int x),.one (Cell.int a),.one (Cell.int b)]=some [.one (Cell.bool (inR x a b))]:=by
 refine qau (H:=[]) (qchb 0 ?_)
 simp only[faj,inR]
 by_cases h:a≤x
 ·rw[decide_eq_true (by omega:x≥a),cond_true,Bool.true_and]
 ·rw[decide_eq_false (by omega:¬ x≥a),cond_false,Bool.false_and]
theorem c_fcj (b:UInt8):out qgh [.one (.sc (.int .u8 (b.toNat:Int)))]=some [.one (Cell.bool (qcv b))]:=by
 have:=u8_lt b
 refine qau (H:=[]) (qarb 0 ?_)
 simp only[fcj,wrap_small (n:=(b.toNat:Int)) (by omega) (by omega),qepb,EV0,qcv]
theorem c_fch (b:UInt8):out qgc [.one (.sc (.int .u8 (b.toNat:Int)))]=some [.one (Cell.bool (qby b))]:=by
 have:=u8_lt b
 refine qau (H:=[]) (qbgb 0 ?_)
 simp only[fch,wrap_small (n:=(b.toNat:Int)) (by omega) (by omega),qepb,EV0,qby]
theorem qefc (b:UInt8):out qfk [.one (.sc (.int .u8 (b.toNat:Int)))]=some [.one (Cell.bool (qcv b))]:=by
 refine qau (H:=[]) (qegb 0 ?_)
 simp only[fap,qcv,inR]
 by_cases h:(97:Int)≤b.toNat
 ·rw[decide_eq_true (by omega:(b.toNat:Int)≥97),cond_true,Bool.true_and]
 ·rw[decide_eq_false (by omega:¬ (b.toNat:Int)≥97),cond_false,Bool.false_and]
theorem qdbc (b:UInt8):out qfl [.one (.sc (.int .u8 (b.toNat:Int)))]=some [.one (Cell.bool (qby b))]:=by
 refine qau (H:=[]) (qzv 0 ?_)
 simp only[fal,qby,inR]
 by_cases h:(48:Int)≤b.toNat
 ·rw[decide_eq_true (by omega:(b.toNat:Int)≥48),cond_true,Bool.true_and]
 ·rw[decide_eq_false (by omega:¬ (b.toNat:Int)≥48),cond_false,Bool.false_and]
theorem qngb (s:Str)(hs:s.length≤1073741824):out qcs [.one (Cell.str (bs s))]=some [.one (Cell.bool (qbe s))]:=by
 have hM:=qak
 have loop:∀ (r:Str) (i n:Nat),s.drop i=r→r.length < n→∀ k m,qmt k m n (bs s) i=some ([.one (Cell.bool (qkr (i==0) r&&inR s.length 1 10))],[]):=by
  intro r
  induction r with
  | nil=>
   intro i n hd hn k m
   obtain⟨n,rfl⟩:∃ j,n=j+1:=⟨n - 1,by omega⟩
   have:=drop_nil hd
   simp only[qmt,qbo]
   rw[decide_eq_false (by omega),cond_false]
   simp only[qepb,EV0,qkr]
  | cons b r ih=>
   intro i n hd hn k m
   obtain⟨n,rfl⟩:∃ j,n=j+1:=⟨n - 1,by omega⟩
   obtain⟨hlt,hg,hd'⟩:=qas hd
   simp only[List.length_cons] at hn
   have hz:((i:Int)==0)=(i==0):=by rw[Bool.eq_iff_iff];simp
   simp only[qmt,qei,hg,c_fcj,c_fch,EV0]
   rw[decide_eq_true (by omega),cond_true,qah (by omega),ih (i+1) n hd' (by omega)]
   have h45:((b.toNat:Int) != 45)=!(b==45):=qdsc b 45 (by omega)
   simp only[qkr,hz,show((i+1:Nat)==0)=false from rfl,h45]
   cases qcv b<;>cases qby b<;>cases (b==45)<;>cases (i==0)<;>rfl
 refine qau (H:=[]) (qbjb (s.length+1) ?_)
 have:=loop s 0 (s.length+1+1) rfl (by omega) (s.length+1+1) (s.length+1+1)
 simpa[fca,qbe] using this
theorem qxab (s:Str)(hs:s.length≤1073741824):out qek [.one (Cell.str (bs s))]=some [.one (Cell.bool (qbe s))]:=by
 have hM:=qak
 have loop:∀ (r:Str) (i n:Nat),s.drop i=r→r.length < n→∀ k m,qmi k m n (bs s) i=some ([.one (Cell.bool (qkr (i==0) r&&inR s.length 1 10))],[]):=by
  intro r
  induction r with
  | nil=>
   intro i n hd hn k m
   obtain⟨n,rfl⟩:∃ j,n=j+1:=⟨n - 1,by omega⟩
   have:=drop_nil hd
   simp only[qmi,qbo]
   rw[decide_eq_false (by omega),cond_false]
   simp only[qnbb,EV0,qkr]
  | cons b r ih=>
   intro i n hd hn k m
   obtain⟨n,rfl⟩:∃ j,n=j+1:=⟨n - 1,by omega⟩
   obtain⟨hlt,hg,hd'⟩:=qas hd
   simp only[List.length_cons] at hn
   have hz:((i:Int)==0)=(i==0):=by rw[Bool.eq_iff_iff];simp
   simp only[qmi,qei,hg,qefc,qdbc,EV0]
   rw[decide_eq_true (by omega),cond_true,qah (by omega),ih (i+1) n hd' (by omega)]
   have h45:((b.toNat:Int) != 45)=!(b==45):=qdsc b 45 (by omega)
   simp only[qkr,hz,show((i+1:Nat)==0)=false from rfl,h45]
   cases qcv b<;>cases qby b<;>cases (b==45)<;>cases (i==0)<;>rfl
 refine qau (H:=[]) (qadb (s.length+1) ?_)
 have:=loop s 0 (s.length+1+1) rfl (by omega) (s.length+1+1) (s.length+1+1)
 simpa[fab,qbe] using this
def qbz (c:UInt8)(cur:Str):Str→List Str | []=>[cur] | b::r=>if b=c then cur::qbz c [] r else qbz c (cur++[b]) r
def split (c:UInt8)(s:Str):List Str:=qbz c [] s
def ahead (c:UInt8)(s:Str):Str:=s.takeWhile (· != c)
def behind (c:UInt8)(s:Str):Str:=(s.dropWhile (· != c)).drop 1
theorem qge (c:UInt8):∀ (s cur:Str),(qbz c cur s).length≤s.length+1∧∀ x∈qbz c cur s,x.length≤cur.length+s.length:=by
 intro s
 induction s with
 | nil=>intro cur;simp[qbz]
 | cons b r ih=>
  intro cur
  simp only[qbz]
  split
  ·obtain⟨h1,h2⟩:=ih []
   refine⟨by simp;omega,fun x hx=>?_⟩
   rcases List.mem_cons.1 hx with rfl | hx
   ·simp
   ·have:=h2 x hx;simp at this;simp;omega
  ·obtain⟨h1,h2⟩:=ih (cur++[b])
   refine⟨by simp;omega,fun x hx=>?_⟩
   have:=h2 x hx;simp at this;simp;omega
theorem qyn {c:UInt8}:∀ {s:Str} (cur:Str),c∉s→qbz c cur s=[cur++s]:=by
 intro s
 induction s with
 | nil=>intro cur _;simp[qbz]
 | cons b r ih=>
  intro cur h
  simp only[List.mem_cons,not_or] at h
  simp only[qbz]
  rw[if_neg fun e=>h.1 e.symm,ih _ h.2]
  simp
theorem qxx {c:UInt8}:∀ {s:Str} (cur:Str),c∈s→qbz c cur s=(cur++ahead c s)::qbz c [] (behind c s):=by
 intro s
 induction s with
 | nil=>intro cur h;simp at h
 | cons b r ih=>
  intro cur h
  simp only[qbz]
  by_cases e:b=c
  ·subst e
   simp[ahead,behind]
  ·rw[if_neg e,ih _ (by simpa[Ne.symm e] using h)]
   simp[ahead,behind,e]
theorem qew {c:UInt8}{s:Str}(h:c∉s):split c s=[s]:=qyn [] h
theorem qex {c:UInt8}{s:Str}(h:c∈s):split c s=ahead c s::split c (behind c s):=qxx [] h
theorem qpt {c:UInt8}:∀ (s cur:Str),qbz c cur s≠[]:=by
 intro s
 induction s with
 | nil=>intro cur;simp[qbz]
 | cons b r ih=>intro cur;simp only[qbz];split<;>simp[ih]
theorem qre (c:UInt8)(s:Str):(ahead c s).length≤s.length:=by
 have:=(List.takeWhile_prefix (fun x=>x != c) (l:=s)).length_le
 exact this
theorem qnh (c:UInt8)(s:Str):(behind c s).length≤s.length:=by
 have:=(List.dropWhile_suffix (fun x=>x != c) (l:=s)).length_le
 simp only[behind,List.length_drop]
 omega
theorem qlob {c:UInt8}(s:Str):c∉ahead c s:=by
 induction s with
 | nil=>simp[ahead]
 | cons b r ih=>
  unfold ahead
  rw[List.takeWhile_cons]
  split
  ·rename_i h
   intro hm
   rcases List.mem_cons.1 hm with e | e
   ·rw[← e] at h;simp at h
   ·exact ih e
  ·simp
theorem qedb:∀ {s:Str} {f:Bool},qkr f s=true→∀ b∈s,qcv b=true∨qby b=true∨b=45:=by
 intro s
 induction s with
 | nil=>intro f _ b hb;simp at hb
 | cons c r ih=>
  intro f h b hb
  simp only[qkr,Bool.and_eq_true,Bool.or_eq_true,beq_iff_eq] at h
  rcases List.mem_cons.1 hb with rfl | hb
  ·rcases h.1 with h1 | h1
   ·exact .inl h1
   ·rcases h1.2 with h2 | h2
    ·exact .inr (.inl h2)
    ·exact .inr (.inr h2)
  ·exact ih h.2 b hb
theorem qgm {s:Str}(h:qbe s=true):(35:UInt8)∉s∧(94:UInt8)∉s:=by
 simp only[qbe,Bool.and_eq_true] at h
 constructor<;>intro hb<;>rcases qedb h.1 _ hb with h | h | h<;>revert h<;>decide
theorem c_fcd (s:Str)(c:UInt8)(hs:s.length≤1073741824):outL qfj [.one (Cell.str (bs s)),.one (.sc (.int .u8 (c.toNat:Int)))]=some [.one (qbt (split c s))]:=by
 have hM:=qak
 have loop:∀ (r:Str) (i from' n:Nat) (cur:Str) (cl:Cell) (H:List Entry) (done:List Str),s.drop i=r→from'≤i→i≤s.length→(s.take i).drop from'=cur→r.length+1 < n→Grow 1 cl H (done.map eStr)→done.length≤i→
   ∀ k m,∃ cl' H',qmu k m n (bs s) (c.toNat:Int) cl from' i H=some ([.one cl'],H')∧Grow 1 cl' H' ((done++qbz c cur r).map eStr):=by
  intro r
  induction r with
  | nil=>
   intro i from' n cur cl H done hd hf hi hc hn hg hdl k m
   obtain⟨n,rfl⟩:∃ j,n=j+2:=⟨n - 2,by omega⟩
   have hlen:=drop_nil hd
   have e:i=s.length:=by omega
   subst e
   obtain⟨p,hp,hgp⟩:=hg.app (by':=16) [eStr cur] (by simp[bound];omega) (by simp[bound];omega)
   refine⟨p.1,p.2,?_,by simpa[qbz] using hgp⟩
   simp only[qmu,qbo]
   rw[decide_eq_true (by omega),cond_true,show(((s.length:Nat):Int)==(s.length:Int))=true by simp,cond_true,qeh _ _ _ hf (Nat.le_refl _),hc]
   simp only[Option.bind_some]
   rw[show [[Cell.str (bs cur)]]=[eStr cur] from rfl,hp]
   simp only[Option.bind_some]
   rw[qah (by omega),decide_eq_false (by omega),cond_false]
  | cons b r ih=>
   intro i from' n cur cl H done hd hf hi hc hn hg hdl k m
   obtain⟨n,rfl⟩:∃ j,n=j+1:=⟨n - 1,by omega⟩
   obtain⟨hlt,hgx,hd'⟩:=qas hd
   simp only[List.length_cons] at hn
   simp only[qmu,qbo,qei,hgx,Option.map_some,Option.bind_some]
   rw[decide_eq_true (by omega),cond_true,show(((i:Nat):Int)==(s.length:Int))=false by simp;omega,cond_false,qah (by omega)]
   have hbc:((b.toNat:Int)==(c.toNat:Int))=decide (b=c):=by
    rw[Bool.eq_iff_iff]
    simp only[beq_iff_eq,decide_eq_true_eq]
    exact⟨fun h=>UInt8.toNat_inj.1 (by omega),fun h=>by rw[h]⟩
   rw[hbc]
   by_cases e:b=c
   ·rw[decide_eq_true e,cond_true,qeh _ _ _ hf (by omega),hc]
    simp only[Option.bind_some]
    obtain⟨p,hp,hgp⟩:=hg.app (by':=16) [eStr cur] (by simp[bound];omega) (by simp[bound];omega)
    rw[show [[Cell.str (bs cur)]]=[eStr cur] from rfl,hp]
    simp only[Option.bind_some]
    obtain⟨cl',H',h1,h2⟩:=ih (i+1) (i+1) n [] p.1 p.2 (done++[cur]) hd' (Nat.le_refl _) (by omega) (by simp) (by omega) (by simpa using hgp) (by simp;omega) k m
    refine⟨cl',H',h1,?_⟩
    simpa[qbz,e] using h2
   ·rw[decide_eq_false e,cond_false]
    obtain⟨cl',H',h1,h2⟩:=ih (i+1) from' n (cur++[b]) cl H done hd' (by omega) (by omega) (by
     rw[← hc,List.take_add_one,hgx]
     simp only[Option.toList_some]
     rw[List.drop_append_of_le_length (by simp;omega)]) (by omega) hg (by omega) k m
    refine⟨cl',H',h1,?_⟩
    simpa[qbz,e] using h2
 obtain⟨cl',H',h1,h2⟩:=loop s 0 0 (s.length+1+1) [] (.lst true 1 []) [] [] rfl (by omega) (by omega) rfl (by omega) (.nil 1) (by simp) (s.length+1+1) (s.length+1+1)
 refine qqv (qazb (s.length+1) (by simpa[fcd] using h1)) ?_
 exact h2.read
def qiyb (p s:Str):Str:=if p.isPrefixOf s then s.drop p.length else s
def onOk (s:Str):Bool:=if 35∈s then qbe (ahead 35 s)&&qbe (behind 35 s) else qbe (qiyb [94] s)
theorem qnk (b:UInt8)(r:Str):bytS (bs (b::r)) 0=some (b.toNat:Int):=by
 have:=qei (b::r) 0
 simpa using this
theorem qic (c:UInt8)(s:Str):Lib.indexByte s c=if c∈s then ((ahead c s).length:Int) else -1:=by
 induction s with
 | nil=>rfl
 | cons b r ih=>
  simp only[Lib.indexByte]
  by_cases e:b=c
  ·subst e
   simp[ahead]
  ·have e1:(b==c)=false:=by simpa using e
   simp only[e1,Bool.false_eq_true,if_false]
   have e2:ahead c (b::r)=b::ahead c r:=by simp[ahead,e]
   by_cases h:c∈r
   ·rw[if_pos h] at ih
    rw[ih,if_neg (by simp<;>omega),if_pos (List.mem_cons_of_mem _ h),e2]
    simp
   ·rw[if_neg h] at ih
    rw[ih,if_pos (by simp),if_neg]
    intro hm
    rcases List.mem_cons.1 hm with q | q
    ·exact e q.symm
    ·exact h q
theorem qjj (c:UInt8)(s:Str):s.take (ahead c s).length=ahead c s:=
 (List.prefix_iff_eq_take.1 (List.takeWhile_prefix _)).symm
theorem qsq {c:UInt8}{s:Str}(h:c∈s):(ahead c s).length < s.length:=by
 have h1:=qre c s
 rcases Nat.lt_or_ge (ahead c s).length s.length with h2 | h2
 ·exact h2
 ·have h3:=qjj c s
  rw[List.take_of_length_le h2] at h3
  rw[h3] at h
  exact absurd h (qlob s)
theorem qgr (c:UInt8)(s:Str):s.drop ((ahead c s).length+1)=behind c s:=by
 have h:s=ahead c s++s.dropWhile (· != c):=(List.takeWhile_append_dropWhile).symm
 have h2:s.drop (ahead c s).length=s.dropWhile (· != c):=by
  rw[congrArg (List.drop (ahead c s).length) h,List.drop_left]
 rw[← List.drop_drop,h2]
 rfl
theorem c_fbd (s:Str)(c:UInt8):out qlj [.one (Cell.str (bs s)),.one (.sc (.int .u8 (c.toNat:Int)))]=some [.one (Cell.int (Lib.indexByte s c))]:=by
 simp[out,qlj]
theorem c_fbc (s:Str)(c:UInt8):out qis [.one (Cell.str (bs s)),.one (Cell.str (bs [c]))]=some [.one (Cell.int (Lib.indexByte s c))]:=by
 refine qau (H:=[]) (qcfb 0 ?_)
 simp only[fbc,qnk,c_fbd,EV0]
 rw[show(((0+1:Nat):Int)==0)=false from rfl,show(((0+1:Nat):Int)==1)=true from rfl,cond_false,cond_true]
 by_cases h:[c]=s
 ·rw[← h]
  simp[Lib.indexByte]
 ·rw[show([c]==s)=false by simpa using h,cond_false]
def cutV (c:UInt8)(s:Str):List AV:=if c∈s then [.one (Cell.str (bs (ahead c s))),.one (Cell.str (bs (behind c s))),.one (Cell.bool true)] else [.one (Cell.str (bs s)),.one (Cell.str (bs [])),.one (Cell.bool false)]
theorem c_fba (s:Str)(c:UInt8)(hs:s.length≤1073741824):out qom [.one (Cell.str (bs s)),.one (Cell.str (bs [c]))]=some (cutV c s):=by
 refine qau (H:=[]) (qaib 0 ?_)
 simp only[fba,c_fbc,EV0]
 rw[qic]
 unfold cutV
 by_cases h:c∈s
 ·have h1:=qsq h
  rw[if_pos h,if_pos h,decide_eq_true (by omega),cond_true]
  have e1:=qeh s 0 (ahead c s).length (by omega) (by omega)
  simp only[Int.natCast_zero,List.drop_zero,qjj] at e1
  rw[e1]
  simp only[Option.bind_some]
  rw[show(((ahead c s).length:Int)+((0+1:Nat):Int))=(((ahead c s).length+1:Nat):Int) by omega,wrap_small (by omega) (by omega),qeh s _ _ (by omega) (Nat.le_refl _),List.take_length,qgr]
  rfl
 ·rw[if_neg h,if_neg h,decide_eq_false (by omega),cond_false]
theorem c_fct (s:Str)(c:UInt8)(hs:s.length≤1073741824):out qqs [.one (Cell.str (bs s)),.one (Cell.str (bs [c]))]=some (cutV c s):=by
 refine qau (H:=[]) (qcab 0 ?_)
 simp only[fct,c_fba s c hs,EV0]
 unfold cutV
 by_cases h:c∈s
 ·simp only[if_pos h,EV0]
 ·simp only[if_neg h,EV0]
theorem c_fbb (s p:Str):out qif [.one (Cell.str (bs s)),.one (Cell.str (bs p))]=some [.one (Cell.bool (p.isPrefixOf s))]:=by
 refine qau (H:=[]) (qcmb 0 ?_)
 simp only[fbb,EV0]
 by_cases h:p.length≤s.length
 ·have e1:=qeh s 0 p.length (by omega) h
  simp only[Int.natCast_zero,List.drop_zero] at e1
  rw[decide_eq_true (by omega),cond_true,e1]
  simp only[EV0]
  congr 5
  rw[Bool.eq_iff_iff,List.isPrefixOf_iff_prefix,List.prefix_iff_eq_take,beq_iff_eq]
  exact eq_comm
 ·rw[decide_eq_false (by omega),cond_false]
  congr 5
  symm
  rw[← Bool.not_eq_true,List.isPrefixOf_iff_prefix]
  exact fun hp=>h hp.length_le
theorem c_fbe (s p:Str):out qps [.one (Cell.str (bs s)),.one (Cell.str (bs p))]=some [.one (Cell.str (bs (qiyb p s)))]:=by
 refine qau (H:=[]) (qdjb 0 ?_)
 simp only[fbe,c_fbb,EV0]
 unfold qiyb
 cases h:p.isPrefixOf s with
 | true=>
  have hl:=(List.isPrefixOf_iff_prefix.1 h).length_le
  rw[cond_true,qeh s _ _ hl (Nat.le_refl _),List.take_length]
  rfl
 | false=>rfl
theorem c_fcx (s p:Str):out qqm [.one (Cell.str (bs s)),.one (Cell.str (bs p))]=some [.one (Cell.str (bs (qiyb p s)))]:=by
 refine qau (H:=[]) (qzt 0 ?_)
 simp only[fcx,c_fbe,EV0]
theorem c_fac (s:Str)(hs:s.length≤1073741824):out qpd [.one (Cell.str (bs s))]=some [.one (Cell.bool (onOk s))]:=by
 have l1:=qre 35 s
 have l2:=qnh 35 s
 have l3:(qiyb [94] s).length≤s.length:=by
  unfold qiyb
  split<;>simp
 refine qau (H:=[]) (qcub 0 ?_)
 simp only[fac,c_fct s 35 hs,c_fcx,qxab _ (Nat.le_trans l3 hs),EV0]
 unfold cutV onOk
 by_cases h:(35:UInt8)∈s
 ·simp only[if_pos h,qxab _ (Nat.le_trans l1 hs),qxab _ (Nat.le_trans l2 hs),EV0]
  cases qbe (ahead 35 s)<;>rfl
 ·simp only[if_neg h,EV0]
theorem qtvb {r:Str}:onOk (94::r)=qbe r:=by
 unfold onOk
 by_cases h:(35:UInt8)∈r
 ·rw[if_pos (by simp[h])]
  have e1:ahead 35 (94::r)=94::ahead 35 r:=by simp[ahead]
  have e2:qbe (ahead 35 (94::r))=false:=by
   cases e:qbe (ahead 35 (94::r)) with
   | false=>rfl
   | true=>exact absurd (by rw[e1];simp) (qgm e).2
  have e3:qbe r=false:=by
   cases e:qbe r with
   | false=>rfl
   | true=>exact absurd h (qgm e).1
  rw[e2,e3,Bool.false_and]
 ·rw[if_neg (by simpa using h)]
  simp[qiyb]
theorem qjrb {s:Str}(hh:s.head?≠some 94):onOk s=if (split 35 s).length=2 then qbe (ahead 35 s)&&qbe (behind 35 s) else qbe s:=by
 have ht:qiyb [94] s=s:=by
  unfold qiyb
  rw[if_neg]
  cases s with
  | nil=>simp
  | cons b r=>simp at hh;simp[Ne.symm hh]
 unfold onOk
 by_cases h:(35:UInt8)∈s
 ·rw[if_pos h,qex h]
  by_cases h2:(35:UInt8)∈behind 35 s
  ·rw[qex h2]
   have hn:(split 35 (behind 35 (behind 35 s))).length≠0:=fun e=>qpt _ _ (List.length_eq_zero_iff.1 e)
   rw[if_neg (by simp only[List.length_cons];omega)]
   have e2:qbe (behind 35 s)=false:=by
    cases e:qbe (behind 35 s) with
    | false=>rfl
    | true=>exact absurd h2 (qgm e).1
   have e3:qbe s=false:=by
    cases e:qbe s with
    | false=>rfl
    | true=>exact absurd h (qgm e).1
   rw[e2,e3,Bool.and_false]
  ·rw[qew h2]
   exact(if_pos (by rfl)).symm
 ·rw[if_neg h,qew h,if_neg (by simp),ht]
theorem c_fcb (s:Str)(hs:s.length≤1073741824):out qpw [.one (Cell.str (bs s))]=some [.one (Cell.bool (onOk s))]:=by
 have l1:=qre 35 s
 have l2:=qnh 35 s
 refine qau (H:=[]) (qbrb 0 ?_)
 have e35:(35:Int)=((35:UInt8).toNat:Int):=rfl
 have z0:∀ (x:Str) (r:List Str),idxA 1 (qbt (x::r)) 0=some (.ref (eStr x) 0):=fun x r=>by
  have:=qar 1 eStr (x::r) 0
  simpa using this
 have z1:∀ (x y:Str) (r:List Str),idxA 1 (qbt (x::y::r)) 1=some (.ref (eStr y) 0):=fun x y r=>by
  have:=qar 1 eStr (x::y::r) 1
  simpa using this
 have hsp:=c_fcd s 35 hs
 rw[← e35] at hsp
 have rest:s.head?≠some 94→((outL qfj [.one (Cell.str (bs s)),.one (.sc (.int .u8 35))]).map fun xs=>(xs,([]:List Entry)))=some ([.one (qbt (split 35 s))],[]):=fun _=>by rw[hsp];rfl
 cases s with
 | nil=>
  have hn:split 35 ([]:Str)=[[]]:=rfl
  rw[hn] at hsp
  simp only[fcb,hsp,EV0]
  rw[show decide (((0:Nat):Int) > 0)=false from rfl,show(((0+1:Nat):Int)==2)=false from rfl,cond_false,cond_false]
  simp only[qngb [] (by simp),EV0]
  rfl
 | cons b r=>
  simp only[fcb,qnk,EV0]
  rw[decide_eq_true (by omega),cond_true]
  have hb:=qmf b 94 (by omega)
  have hb:((b.toNat:Int)==94)=(b==94):=hb
  rw[hb]
  by_cases e:b=94
  ·subst e
   simp only[beq_self_eq_true,cond_true]
   have e1:=qeh (94::r) 1 (r.length+1) (by omega) (by simp)
   simp only[List.length_cons] at hs
   simp only[Int.natCast_one,List.take_succ_cons,List.take_length,List.drop_succ_cons,List.drop_zero] at e1
   rw[e1]
   simp only[qngb r (by omega),EV0,qtvb]
  ·rw[show(b==94)=false by simpa using e,cond_false,qjrb (by simpa using e)]
   simp only[hsp,EV0]
   by_cases h:(35:UInt8)∈(b::r)
   ·rw[qex h]
    by_cases h2:(35:UInt8)∈behind 35 (b::r)
    ·have hn:(split 35 (behind 35 (b::r))).length≠1:=by
      rw[qex h2]
      have hn:(split 35 (behind 35 (behind 35 (b::r)))).length≠0:=fun e=>qpt _ _ (List.length_eq_zero_iff.1 e)
      simp only[List.length_cons];omega
     rw[if_neg (by simp only[List.length_cons];omega)]
     simp only[List.length_cons]
     rw[show((((split 35 (behind 35 (b::r))).length+1:Nat):Int)==2)=false by simp;omega,cond_false]
     simp only[qngb _ hs,EV0]
    ·rw[qew h2,if_pos (show([ahead 35 (b::r),behind 35 (b::r)]:List Str).length=2 from rfl)]
     simp only[List.length_cons,List.length_nil]
     rw[show(((0+1+1:Nat):Int)==2)=true from rfl,cond_true]
     simp only[z0,z1,eStr,qngb _ (Nat.le_trans l1 hs),qngb _ (Nat.le_trans l2 hs),EV0]
     cases qbe (ahead 35 (b::r))<;>rfl
   ·rw[qew h,if_neg (by simp)]
    simp only[List.length_cons,List.length_nil]
    rw[show(((0+1:Nat):Int)==2)=false from rfl,cond_false]
    simp only[qngb _ hs,EV0]
def lt (a b:Str):Bool:=Op.bytesLess a b
theorem lt_not:∀ (a b:Str),(lt a b||a==b)=!lt b a:=by
 unfold lt
 intro a
 induction a with
 | nil=>intro b;cases b<;>rfl
 | cons x a ih=>
  intro b
  cases b with
  | nil=>rfl
  | cons y b=>
   have h:=ih b
   simp only[Op.bytesLess]
   have e:((x::a)==(y::b))=(x==y&&a==b):=rfl
   rw[e]
   rcases Nat.lt_trichotomy x.toNat y.toNat with h1 | h1 | h1
   ·have e1:decide (x < y)=true:=by simpa[UInt8.lt_iff_toNat_lt] using h1
    have e2:decide (y < x)=false:=by simp[UInt8.lt_iff_toNat_lt];omega
    have e3:(y==x)=false:=by simp;intro e;rw[e] at h1;omega
    simp[e1,e2,e3]
   ·have e0:=UInt8.toNat_inj.1 h1
    subst e0
    have e1:decide (x < x)=false:=by simp
    simp only[e1,Bool.false_or,beq_self_eq_true,Bool.true_and,h]
   ·have e1:decide (y < x)=true:=by simpa[UInt8.lt_iff_toNat_lt] using h1
    have e2:decide (x < y)=false:=by simp[UInt8.lt_iff_toNat_lt];omega
    have e3:(x==y)=false:=by simp;intro e;rw[e] at h1;omega
    simp[e1,e2,e3]
theorem bl_eq (a b:Str):Op.bytesLess a b=lt a b:=rfl
def asc:List Str→Bool | []=>true | [_]=>true | a::b::r=>lt a b&&asc (b::r)
theorem qng {i:Nat}(h:i < Go.maxLen):IntKind.i64.wrap (((i+1:Nat):Int) - 1)=(i:Int):=by
 have:=qak
 rw[wrap_small (by omega) (by omega)]
 omega
theorem c_fak (xs:List Str)(hx:xs.length≤1073741824):out qlf [.one (qbt xs)]=some [.one (Cell.bool (asc xs))]:=by
 have hM:=qak
 have loop:∀ (r:List Str) (p:Str) (i n:Nat),xs[i]?=some p→xs.drop (i+1)=r→r.length < n→∀ k m,qqb k m n (qbt xs) ((i+1:Nat):Int)=some ([.one (Cell.bool (asc (p::r)))],[]):=by
  intro r
  induction r with
  | nil=>
   intro p i n hp hd hn k m
   obtain⟨n,rfl⟩:∃ j,n=j+1:=⟨n - 1,by omega⟩
   have:=drop_nil hd
   simp only[qqb,qae,Option.bind_some]
   rw[decide_eq_false (by omega),cond_false]
   rfl
  | cons b r ih=>
   intro p i n hp hd hn k m
   obtain⟨n,rfl⟩:∃ j,n=j+1:=⟨n - 1,by omega⟩
   obtain⟨hlt,hg,hd'⟩:=qas hd
   simp only[List.length_cons] at hn
   simp only[qqb,qae,Option.bind_some]
   rw[decide_eq_true (by omega),cond_true,qng (by omega),qah (by omega)]
   simp only[qar,hp,hg,eStr,bl_eq,EV0]
   rw[ih b (i+1) n hg hd' (by omega)]
   simp only[asc,lt_not]
   cases lt p b<;>rfl
 refine qau (H:=[]) (qaeb (xs.length+1) ?_)
 cases xs with
 | nil=>
  simp only[fak,qqb,qae,Option.bind_some]
  rw[decide_eq_false (by simp),cond_false]
  rfl
 | cons a r=>
  have:=loop r a 0 (r.length+1+1+1) rfl rfl (by omega) (r.length+1+1+1) (r.length+1+1+1)
  simpa[fak] using this
open Classical in
theorem c_fcv (s:Str)(c:UInt8)(hs:s.length≤1073741824):out qnn [.one (Cell.str (bs s)),.one (Cell.str (bs [c]))]=some [.one (Cell.int (Lib.indexByte s c))]:=by
 refine qau (H:=[]) (qcyb 0 ?_)
 simp only[fcv,c_fbc,EV0]
theorem c_fcs (s:Str)(c:UInt8):out qvx [.one (Cell.str (bs s)),.one (Cell.str (bs [c]))]=some [.one (Cell.int ((s.count c:Nat):Int))]:=by
 refine qau (H:=[]) ?_
 show qfw _ _=_
 simp only[qfw,qnv]
 rfl
theorem qui {c:UInt8}{s:Str}(h:c∈s):s.count c=(behind c s).count c+1:=by
 induction s with
 | nil=>simp at h
 | cons b r ih=>
  by_cases e:b=c
  ·subst e
   simp[behind,List.dropWhile_cons]
  ·have hr:c∈r:=by
    rcases List.mem_cons.1 h with h | h
    ·exact absurd h.symm e
    ·exact h
   have hb:behind c (b::r)=behind c r:=by
    have:(b != c)=true:=by simpa using e
    simp[behind,List.dropWhile_cons,this]
   rw[hb,List.count_cons,ih hr]
   simp[e]
theorem qvi {c:UInt8}{s:Str}(h:c∉s):s.count c=0:=List.count_eq_zero.2 h
theorem qtn (c:UInt8):∀ (n:Nat) (s:Str),s.length≤n→(split c s).length=s.count c+1:=by
 intro n
 induction n with
 | zero=>
  intro s h
  have:s=[]:=List.eq_nil_of_length_eq_zero (by omega)
  subst this
  rfl
 | succ n ih=>
  intro s h
  by_cases hc:c∈s
  ·have hl:(behind c s).length < s.length:=by
    have:=qsq hc
    have h2:=qgr c s
    rw[← h2,List.length_drop]
    omega
   rw[qex hc,List.length_cons,ih _ (by omega),qui hc]
  ·rw[qew hc,qvi hc]
   rfl
theorem r_fcz (s:Str)(c:UInt8)(hs:s.length≤1073741824):qmg [.one (Cell.str (bs s)),.one (Cell.str (bs [c])),.one (Cell.int 0),.one (Cell.int (-1))] []=some ([.one (.vs 0 1 0 (s.count c+1) 0)],[Entry.mk 1 ((split c s).map eStr) 0 false]):=by
 have hM:=qak
 have hct:s.count c≤s.length:=List.count_le_length
 have hsl:=qtn c s.length s (Nat.le_refl _)
 have hput:∀ (rows:List (List Cell)) (i:Nat) (row:List Cell) (y:Str),rows[i]?=some row→row.length=1→qbl [Entry.mk 1 rows 0 false] (.ptr 0 1 i 0 0) [Cell.str (bs y)]=some [Entry.mk 1 (rows.set i (eStr y)) 0 false]:=by
  intro rows i row y h hr
  simp only[qbl,entry?,List.getElem?_cons_zero,if_true,h]
  rw[if_pos ⟨trivial,by simp,trivial⟩]
  simp[splice,eStr,hr,List.drop_eq_nil_of_le]
 have loop:∀ (d:Nat) (r:Str) (done:List Str) (n:Nat),r.count c=d→done.length+d=s.count c→r.length≤s.length→split c s=done++split c r→d < n→∀ k m,
   qnp k m n (bs r) (bs [c]) 0 ((s.count c:Nat):Int) (.vs 0 1 0 (s.count c+1) 0) ((done.length:Nat):Int) [Entry.mk 1 (done.map eStr++List.replicate (d+1) [Cell.str (bs [])]) 0 false]=
    some ([.one (.vs 0 1 0 (s.count c+1) 0)],[Entry.mk 1 ((split c s).map eStr) 0 false]):=by
  intro d
  induction d with
  | zero=>
   intro r done n hc hd hr hsp hn k m
   obtain⟨n,rfl⟩:∃ j,n=j+1:=⟨n - 1,by omega⟩
   have hnc:c∉r:=List.count_eq_zero.1 hc
   simp only[qnp]
   rw[decide_eq_false (by omega),cond_false]
   have hrow:(done.map eStr++List.replicate (0+1) [Cell.str (bs [])])[done.length]?=some [Cell.str (bs [])]:=by simp
   simp only[qou 0 1 (s.count c+1) 0 done.length (by omega),Option.bind_some,hput _ _ _ r hrow rfl]
   have hset:(done.map eStr++List.replicate (0+1) [Cell.str (bs [])]).set done.length (eStr r)=(split c s).map eStr:=by
    rw[hsp,qew hnc,List.set_append_right _ _ (by simp)]
    simp
   rw[hset,show IntKind.i64.wrap ((done.length:Int)+1)=((s.count c+1:Nat):Int) by rw[qah (by omega)];omega]
   have hsl':slcC 1 (.vs 0 1 0 (s.count c+1) 0) 0 (some ((s.count c+1:Nat):Int)) none=some (.vs 0 1 0 (s.count c+1) 0):=by
    simp only[slcC,Option.getD_some,Option.getD_none,if_true]
    rw[if_pos ⟨by omega,by omega,by omega,by omega⟩,if_pos (.inl trivial)]
    simp
   rw[hsl']
   rfl
  | succ d ih=>
   intro r done n hc hd hr hsp hn k m
   obtain⟨n,rfl⟩:∃ j,n=j+1:=⟨n - 1,by omega⟩
   have hmem:c∈r:=by
    rcases Classical.em (c∈r) with h | h
    ·exact h
    ·have:=qvi h;omega
   have hal:=qsq hmem
   have hbl:=qnh c r
   simp only[qnp]
   rw[decide_eq_true (by omega),cond_true]
   have e0:Lib.indexByte r c=((ahead c r).length:Int):=by rw[qic,if_pos hmem]
   simp only[c_fcv r c (by omega),e0,EV0]
   rw[decide_eq_false (by omega),cond_false]
   have e1:=qeh r 0 (ahead c r).length (by omega) (by omega)
   simp only[Int.natCast_zero,List.drop_zero,qjj] at e1
   rw[show IntKind.i64.wrap (((ahead c r).length:Int)+0)=((ahead c r).length:Int) by rw[Int.add_zero];exact wrap_small (by omega) (by omega),e1]
   have hrow:(done.map eStr++List.replicate (d+1+1) [Cell.str (bs [])])[done.length]?=some [Cell.str (bs [])]:=by simp
   simp only[Option.bind_some,qou 0 1 (s.count c+1) 0 done.length (by omega),hput _ _ _ (ahead c r) hrow rfl]
   have e2:=qeh r ((ahead c r).length+1) r.length (by omega) (Nat.le_refl _)
   rw[List.take_length,qgr] at e2
   rw[show IntKind.i64.wrap (((ahead c r).length:Int)+((0+1:Nat):Int))=(((ahead c r).length+1:Nat):Int) by rw[wrap_small (by omega) (by omega)];omega,e2,qah (by omega)]
   simp only[Option.bind_some]
   have hset:(done.map eStr++List.replicate (d+1+1) [Cell.str (bs [])]).set done.length (eStr (ahead c r))=(done++[ahead c r]).map eStr++List.replicate (d+1) [Cell.str (bs [])]:=by
    rw[List.set_append_right _ _ (by simp)]
    simp[List.replicate_succ]
   rw[hset]
   have:=ih (behind c r) (done++[ahead c r]) n (by have:=qui hmem;omega) (by simp;omega) (by omega) (by rw[hsp,qex hmem];simp) (by omega) k m
   rw[show(done++[ahead c r]).length=done.length+1 by simp] at this
   exact this
 have hmin:(if IntKind.i64.wrap ((s.length:Int)+1) < IntKind.i64.wrap (((s.count c:Nat):Int)+1) then IntKind.i64.wrap ((s.length:Int)+1) else IntKind.i64.wrap (((s.count c:Nat):Int)+1))=((s.count c+1:Nat):Int):=by
  rw[qah (by omega),qah (by omega),if_neg (by omega)]
 have z:=loop (s.count c) s [] (s.count c+1+1) rfl (by simp) (Nat.le_refl _) (by simp) (by omega) (s.count c+1+1) (s.count c+1+1)
 refine qzo (s.count c+1) ?_
 ·simp only[fcz]
  rw[show((-1:Int)==0)=false from rfl,cond_false]
  simp only[qbq]
  rw[show(([c]:Str)==[])=false from rfl,cond_false,show decide ((-1:Int) < 0)=true from rfl,cond_true]
  simp only[c_fcs,EV0,hmin]
  rw[if_pos ⟨by omega,by omega,by unfold bound;omega,by unfold bound;omega⟩]
  rw[show IntKind.i64.wrap (((s.count c+1:Nat):Int) - 1)=((s.count c:Nat):Int) from qng (by omega)]
  simpa[qbr] using z
theorem f_fcz (s:Str)(c:UInt8)(hs:s.length≤1073741824):Fresh qmg true 2 [.one (Cell.str (bs s)),.one (Cell.str (bs [c])),.one (Cell.int 0),.one (Cell.int (-1))] [.one (trL 1 qcm (split c s))]:=by
 have hg:GrowAt ([]:List Entry).length 1 (.vs 0 1 0 (s.count c+1) 0) [Entry.mk 1 ((split c s).map eStr) 0 false] ((split c s).map eStr):=.inr ⟨0,by rw[List.length_map,qtn c s.length s (Nat.le_refl _)];rfl,rfl⟩
 obtain⟨ids,r1,r2,_⟩:=hg.list
 exact Fresh.one (r_fcz s c hs) r1 r2
theorem f_fcw (s:Str)(c:UInt8)(hs:s.length≤1073741824):Fresh qoy true 2 [.one (Cell.str (bs s)),.one (Cell.str (bs [c]))] [.one (trL 1 qcm (split c s))]:=by
 refine Fresh.tailO (f_fcz s c hs) [] (qbh _ _ _) fun c' E hc=>qzu 0 ?_
 simp only[fcw,hc,EV0]
def qjp (b:UInt8):Bool:=qcv b||(qby b||(b==46||(b==45||b==95)))
theorem c_fcn (b:UInt8):out qpg [.one (.sc (.int .u8 (b.toNat:Int)))]=some [.one (Cell.bool (qjp b))]:=by
 refine qau (H:=[]) (qavb 0 ?_)
 simp only[fcn,c_fcj,c_fch,EV0]
 rw[show((b.toNat:Int)==46)=(b==46) from qmf b 46 (by omega),show((b.toNat:Int)==45)=(b==45) from qmf b 45 (by omega),show((b.toNat:Int)==95)=(b==95) from qmf b 95 (by omega)]
 unfold qjp
 cases qcv b<;>cases qby b<;>cases b==46<;>cases b==45<;>cases b==95<;>rfl
theorem c_fan (b:UInt8):out qoq [.one (.sc (.int .u8 (b.toNat:Int)))]=some [.one (Cell.bool (qjp b))]:=by
 refine qau (H:=[]) (qcrb 0 ?_)
 simp only[fan,qefc,qdbc,EV0]
 rw[show((b.toNat:Int)==46)=(b==46) from qmf b 46 (by omega),show((b.toNat:Int)==45)=(b==45) from qmf b 45 (by omega),show((b.toNat:Int)==95)=(b==95) from qmf b 95 (by omega)]
 unfold qjp
 cases qcv b<;>cases qby b<;>cases b==46<;>cases b==45<;>cases b==95<;>rfl
theorem qanb {n k:Nat}(h:k≤n)(hn:n≤1073741824+1):IntKind.i64.wrap ((n:Int) - (k:Int))=((n - k:Nat):Int):=by
 rw[wrap_small (by omega) (by omega)]
 omega
theorem n_le (n k:Nat):decide ((n:Int)≤(k:Int))=decide (n≤k):=by rw[decide_eq_decide];omega
def isAl (b:UInt8):Bool:=qcv b||qby b
def qhq:Str→Nat→Option Nat | [],_=>none | b::r,c=>bif isAl b then (qhq r (c+1)).map (·+1) else bif inR c 1 5&&b==93 then some 1 else none
theorem qjg (b:UInt8)(r:Str)(c:Nat):qhq (b::r) c=bif isAl b then (qhq r (c+1)).map (·+1) else bif inR c 1 5&&b==93 then some 1 else none:=rfl
def qhj:Str→Nat | []=>0 | b::t=>bif b==91 then (match t with | []=>0 | d::t'=>bif d==33 then (match qhq t' 0 with | some n=>n+2 | none=>0) else (match qhq (d::t') 0 with | some n=>n+1 | none=>0)) else bif qjp b||(b==63||b==42) then 1 else 0
def qen:Nat→Str→Nat→Bool | _,[],c=>inR c 1 12 | 0,_::_,_=>false | n+1,b::t,c=>bif qhj (b::t)==0 then false else qen n ((b::t).drop (qhj (b::t))) (c+1)
def qgi (s:Str):Bool:=qen s.length s 0
def qsb (s:Str):Bool:=(split 47 s).all qgi&&decide ((split 47 s).length≤4)
theorem qbwb:∀ (r:Str) (c n:Nat),qhq r c=some n→1≤n∧n≤r.length:=by
 intro r
 induction r with
 | nil=>intro c n h;simp[qhq] at h
 | cons b r ih=>
  intro c n h
  unfold qhq at h
  cases hb:isAl b with
  | true=>
   rw[hb,cond_true,Option.map_eq_some_iff] at h
   obtain⟨j,h1,rfl⟩:=h
   obtain⟨h2,h3⟩:=ih _ _ h1
   simp
   omega
  | false=>
   rw[hb,cond_false] at h
   cases hc:inR (c:Int) 1 5&&b==93 with
   | true=>rw[hc,cond_true] at h;simp only[Option.some.injEq] at h;simp;omega
   | false=>rw[hc,cond_false] at h;simp at h
theorem qcpb (s:Str):qhj s≤s.length:=by
 cases s with
 | nil=>simp[qhj]
 | cons b t=>
  cases hb:b==91 with
  | true=>
   cases t with
   | nil=>simp only[qhj,hb,cond_true];omega
   | cons d t'=>
    cases hd:d==33 with
    | true=>
     simp only[qhj,hb,hd,cond_true]
     split
     ·rename_i n h
      have:=(qbwb _ _ _ h).2
      simp
      omega
     ·omega
    | false=>
     simp only[qhj,hb,hd,cond_true,cond_false]
     split
     ·rename_i n h
      have:=(qbwb _ _ _ h).2
      simp at this ⊢
      omega
     ·omega
  | false=>
   simp only[qhj,hb,cond_false]
   cases qjp b||(b==63||b==42)<;>simp
theorem c_fco (s:Str)(hs:s.length≤1073741824)(i:Nat)(b:UInt8)(t:Str)(hd:s.drop i=b::t)(hb:b=91):out qoi [.one (Cell.str (bs s)),.one (Cell.int i)]=some [.one (Cell.int (if qhj (b::t)=0 then -1 else ((i+qhj (b::t):Nat):Int)))]:=by
 have hM:=qak
 have loop:∀ (r:Str) (j c n:Nat),s.drop j=r→j≤s.length→c≤j→r.length < n→∀ k m,qko k m n (bs s) j c=some ([.one (Cell.int (match qhq r c with | some q=>((j+q:Nat):Int) | none=>-1))],[]):=by
  intro r
  induction r with
  | nil=>
   intro j c n hd hj hc hn k m
   obtain⟨n,rfl⟩:∃ q,n=q+1:=⟨n - 1,by omega⟩
   have:=drop_nil hd
   simp only[qko,qbo]
   rw[decide_eq_false (by omega),cond_false]
   simp only[qepb,EV0]
   rw[decide_eq_true (by omega)]
   cases inR (c:Int) 1 5<;>rfl
  | cons x r ih=>
   intro j c n hd hj hc hn k m
   obtain⟨n,rfl⟩:∃ q,n=q+1:=⟨n - 1,by omega⟩
   obtain⟨hlt,hg,hd'⟩:=qas hd
   simp only[List.length_cons] at hn
   have z:=ih (j+1) (c+1) n hd' (by omega) (by omega) (by omega) k m
   have hz:(match qhq r (c+1) with | some q=>((j+1+q:Nat):Int) | none=>-1)=(match (qhq r (c+1)).map (·+1) with | some q=>((j+q:Nat):Int) | none=>-1):=by
    cases qhq r (c+1) with
    | none=>rfl
    | some q=>simp only[Option.map_some];congr 1;omega
   simp only[qko,qbo,qei,hg,Option.map_some,c_fcj,c_fch,qepb,EV0]
   rw[decide_eq_true (by omega),cond_true,qah (by omega),qah (by omega),z,hz]
   rw[show((x.toNat:Int) != 93)=!(x==93) from congrArg not (qmf x 93 (by omega))]
   rw[qjg]
   unfold isAl
   cases qcv x with
   | true=>rfl
   | false=>
    cases qby x with
    | true=>rfl
    | false=>
     rw[decide_eq_false (p:=(j:Int)≥(s.length:Int)) (by omega)]
     cases inR (c:Int) 1 5<;>cases x==93<;>rfl
 subst hb
 obtain⟨hlt,hg,hd'⟩:=qas hd
 refine qau (H:=[]) (qdpb (s.length+1) ?_)
 have hun:∀ (o:Option Nat) (j:Nat) (p:Nat),(if (match o with | some n=>n+p | none=>0)=0 then (-1:Int) else ((i+(match o with | some n=>n+p | none=>0):Nat):Int))=(match o with | some q=>((i+p+q:Nat):Int) | none=>-1)∨p=0:=by
  intro o j p
  cases o with
  | none=>exact .inl rfl
  | some n=>
   by_cases hp:p=0
   ·exact .inr hp
   ·refine .inl ?_
    simp only
    rw[if_neg (by omega)]
    congr 1
    omega
 cases t with
 | nil=>
  have:=drop_nil hd'
  simp only[fco,qbo]
  rw[qah (by omega),decide_eq_false (by omega),cond_false]
  have z:=loop [] (i+1) 0 (s.length+1+1) hd' (by omega) (by omega) (by simp) (s.length+1+1) (s.length+1+1)
  exact z
 | cons d t'=>
  obtain⟨hlt2,hg2,hd2⟩:=qas hd'
  simp only[fco,qbo]
  rw[qah (by omega),decide_eq_true (by omega),cond_true]
  simp only[qei,hg2,Option.map_some,Option.bind_some]
  rw[show((d.toNat:Int)==33)=(d==33) from qmf d 33 (by omega),qah (by omega)]
  unfold qhj
  simp only[show((91:UInt8)==91)=true from rfl,cond_true]
  cases d==33 with
  | true=>
   simp only[cond_true]
   have z:=loop t' (i+1+1) 0 (s.length+1+1) hd2 (by omega) (by omega) (by rw[← hd2];simp;omega) (s.length+1+1) (s.length+1+1)
   rcases hun (qhq t' 0) 0 2 with h | h
   ·rw[h];exact z
   ·omega
  | false=>
   simp only[cond_false]
   have z:=loop (d::t') (i+1) 0 (s.length+1+1) hd' (by omega) (by omega) (by rw[← hd'];simp;omega) (s.length+1+1) (s.length+1+1)
   rcases hun (qhq (d::t') 0) 0 1 with h | h
   ·rw[h];exact z
   ·omega
theorem c_fcp (s:Str)(hs:s.length≤1073741824):out qod [.one (Cell.str (bs s))]=some [.one (Cell.bool (qgi s))]:=by
 have hM:=qak
 have loop:∀ (d:Nat) (r:Str) (i c n:Nat),r.length≤d→s.drop i=r→i≤s.length→c≤i→d < n→∀ k m,qkf k m n (bs s) c i=some ([.one (Cell.bool (qen d r c))],[]):=by
  intro d
  induction d with
  | zero=>
   intro r i c n hr hd hi hc hn k m
   obtain⟨n,rfl⟩:∃ q,n=q+1:=⟨n - 1,by omega⟩
   have:r=[]:=List.eq_nil_of_length_eq_zero (by omega)
   subst this
   have:=drop_nil hd
   simp only[qkf,qbo]
   rw[decide_eq_false (by omega),cond_false]
   simp only[qepb,EV0,qen]
  | succ d ih=>
   intro r i c n hr hd hi hc hn k m
   obtain⟨n,rfl⟩:∃ q,n=q+1:=⟨n - 1,by omega⟩
   cases r with
   | nil=>
    have:=drop_nil hd
    simp only[qkf,qbo]
    rw[decide_eq_false (by omega),cond_false]
    simp only[qepb,EV0,qen]
   | cons b t=>
    obtain⟨hlt,hg,hd'⟩:=qas hd
    have hul:=qcpb (b::t)
    have hrl:(b::t).length=s.length - i:=by rw[← hd];simp
    simp only[qkf,qbo,qei,hg,Option.map_some,c_fcn,EV0]
    rw[decide_eq_true (by omega),cond_true,qah (by omega),qah (by omega)]
    rw[show((b.toNat:Int)==91)=(b==91) from qmf b 91 (by omega),show((b.toNat:Int)==63)=(b==63) from qmf b 63 (by omega),show((b.toNat:Int)==42)=(b==42) from qmf b 42 (by omega)]
    cases hb:b==91 with
    | true=>
     have hb':b=91:=by simpa using hb
     simp only[cond_true,c_fco s hs i b t hd hb',EV0]
     unfold qen
     by_cases hu:qhj (b::t)=0
     ·rw[if_pos hu,hu]
      rfl
     ·rw[if_neg hu,decide_eq_false (by omega),cond_false,show(qhj (b::t)==0)=false by simpa using hu,cond_false]
      exact ih _ (i+qhj (b::t)) (c+1) n (by rw[List.length_drop];omega) (by rw[← List.drop_drop,hd]) (by omega) (by omega) (by omega) k m
    | false=>
     have hun:qhj (b::t)=bif qjp b||(b==63||b==42) then 1 else 0:=by
      simp only[qhj,hb,cond_false]
     have z:=ih t (i+1) (c+1) n (by simp at hr;omega) hd' (by omega) (by omega) (by omega) k m
     unfold qen
     rw[hun]
     simp only[cond_false]
     cases qjp b with
     | true=>simp only[cond_true,Bool.true_or,show((1:Nat)==0)=false from rfl,cond_false,List.drop_succ_cons,List.drop_zero];exact z
     | false=>
      cases b==63 with
      | true=>simp only[cond_true,cond_false,Bool.true_or,Bool.false_or,show((1:Nat)==0)=false from rfl,List.drop_succ_cons,List.drop_zero];exact z
      | false=>
       cases b==42 with
       | true=>simp only[cond_true,cond_false,Bool.or_true,Bool.false_or,show((1:Nat)==0)=false from rfl,List.drop_succ_cons,List.drop_zero];exact z
       | false=>rfl
 refine qau (H:=[]) (qdsb (s.length+1) ?_)
 have z:=loop s.length s 0 0 (s.length+1+1) (Nat.le_refl _) rfl (by omega) (by omega) (by omega) (s.length+1+1) (s.length+1+1)
 simpa[fcp,qgi] using z
theorem c_fbz (s:Str)(hs:s.length≤1073741823):out qqf [.one (Cell.str (bs s))]=some [.one (Cell.bool (qsb s))]:=by
 have hM:=qak
 have e0:outL qfj [.one (Cell.str (bs s)),.one (.sc (.int .u8 47))]=some [.one (qbt (split 47 s))]:=c_fcd s 47 (by omega)
 have hl:=qge 47 s []
 have hlen:∀ x∈split 47 s,x.length≤1073741824:=fun x hx=>Nat.le_trans (hl.2 x hx) (by simp;omega)
 have hll:(split 47 s).length≤s.length+1:=hl.1
 unfold qsb
 generalize split 47 s=W at*
 refine qau (H:=[]) (qacb (W.length+1) ?_)
 simp only[fbz,e0,EV0]
 rw[qdi W (fun n i=>qqo (W.length+1+1) (W.length+1+1) n (qbt W) i []) qgi (some ([.one (Cell.bool (decide (W.length≤4)))],[])) (some ([.one (Cell.bool false)],[])) ?_ ?_ _ (by omega)]
 ·exact qjeb _ _ _
 ·intro n i x hx hlt
  simp only[qqo,qae,qar,hx,eStr,c_fcp x (hlen x (List.mem_of_getElem? hx)),EV0]
  rw[decide_eq_true (by omega),cond_true,qah (by omega)]
  cases hx2:x==[42,42] with
  | true=>
   have:x=[42,42]:=by simpa using hx2
   subst this
   rfl
  | false=>cases qgi x<;>rfl
 ·intro n
  simp only[qqo,qae,EV0]
  rw[decide_eq_false (by omega),cond_false,show decide ((W.length:Int)≤4)=decide (W.length≤4) from n_le W.length 4]
theorem c_fcu (s p:Str):out qpz [.one (Cell.str (bs s)),.one (Cell.str (bs p))]=some [.one (Cell.bool (p.isPrefixOf s))]:=by
 refine qau (H:=[]) (qzr 0 ?_)
 simp only[fcu,c_fbb,EV0]
theorem qecb (s:Str)(hs:s.length≤1073741824):∀ (r:Str) (j n:Nat),s.drop j=r→j≤s.length→1≤j→r.length < n→∀ k m,qqt k m n (bs s) j=some ([.one (Cell.int (match qhq r (j - 1) with | some q=>((j+q:Nat):Int) | none=>0))],[]):=by
 have hM:=qak
 intro r
 induction r with
 | nil=>
  intro j n hd hj hf hn k m
  obtain⟨n,rfl⟩:∃ q,n=q+1:=⟨n - 1,by omega⟩
  have:=drop_nil hd
  obtain rfl:j=s.length:=by omega
  simp only[qqt,qbo]
  rw[decide_eq_false (by omega),cond_false]
  simp only[qnbb,EV0]
  cases inR (IntKind.i64.wrap ((s.length:Int) - 1)) 1 5<;>rfl
 | cons x r ih=>
  intro j n hd hj hf hn k m
  obtain⟨n,rfl⟩:∃ q,n=q+1:=⟨n - 1,by omega⟩
  obtain⟨hlt,hg,hd'⟩:=qas hd
  simp only[List.length_cons] at hn
  have z:=ih (j+1) n hd' (by omega) (by omega) (by omega) k m
  rw[show j+1 - 1=j - 1+1 by omega] at z
  have hz:(match qhq r (j - 1+1) with | some q=>((j+1+q:Nat):Int) | none=>0)=(match (qhq r (j - 1+1)).map (·+1) with | some q=>((j+q:Nat):Int) | none=>0):=by
   cases qhq r (j - 1+1) with
   | none=>rfl
   | some q=>simp only[Option.map_some];congr 1;omega
  simp only[qqt,qbo,qei,hg,Option.map_some,qefc,qdbc,qnbb,EV0]
  rw[decide_eq_true (by omega),cond_true,qah (by omega),z,hz,show IntKind.i64.wrap ((j:Int) - 1)=((j - 1:Nat):Int) from qanb (n:=j) (k:=1) (by omega) (by omega)]
  rw[show((x.toNat:Int) != 93)=!(x==93) from congrArg not (qmf x 93 (by omega)),show((j:Int)==(s.length:Int))=false by simp;omega]
  rw[qjg]
  unfold isAl
  cases qcv x with
  | true=>rfl
  | false=>
   cases qby x with
   | true=>rfl
   | false=>cases inR ((j - 1:Nat):Int) 1 5<;>cases x==93<;>rfl
theorem qrhb (s:Str)(hs:s.length≤1073741824):∀ (r:Str) (j n:Nat),s.drop j=r→j≤s.length→2≤j→r.length < n→∀ k m,qob k m n (bs s) j=some ([.one (Cell.int (match qhq r (j - 2) with | some q=>((j+q:Nat):Int) | none=>0))],[]):=by
 have hM:=qak
 intro r
 induction r with
 | nil=>
  intro j n hd hj hf hn k m
  obtain⟨n,rfl⟩:∃ q,n=q+1:=⟨n - 1,by omega⟩
  have:=drop_nil hd
  obtain rfl:j=s.length:=by omega
  simp only[qob,qbo]
  rw[decide_eq_false (by omega),cond_false]
  simp only[qnbb,EV0]
  cases inR (IntKind.i64.wrap ((s.length:Int) - 2)) 1 5<;>rfl
 | cons x r ih=>
  intro j n hd hj hf hn k m
  obtain⟨n,rfl⟩:∃ q,n=q+1:=⟨n - 1,by omega⟩
  obtain⟨hlt,hg,hd'⟩:=qas hd
  simp only[List.length_cons] at hn
  have z:=ih (j+1) n hd' (by omega) (by omega) (by omega) k m
  rw[show j+1 - 2=j - 2+1 by omega] at z
  have hz:(match qhq r (j - 2+1) with | some q=>((j+1+q:Nat):Int) | none=>0)=(match (qhq r (j - 2+1)).map (·+1) with | some q=>((j+q:Nat):Int) | none=>0):=by
   cases qhq r (j - 2+1) with
   | none=>rfl
   | some q=>simp only[Option.map_some];congr 1;omega
  simp only[qob,qbo,qei,hg,Option.map_some,qefc,qdbc,qnbb,EV0]
  rw[decide_eq_true (by omega),cond_true,qah (by omega),z,hz,show IntKind.i64.wrap ((j:Int) - 2)=((j - 2:Nat):Int) from qanb (n:=j) (k:=2) (by omega) (by omega)]
  rw[show((x.toNat:Int) != 93)=!(x==93) from congrArg not (qmf x 93 (by omega)),show((j:Int)==(s.length:Int))=false by simp;omega]
  rw[qjg]
  unfold isAl
  cases qcv x with
  | true=>rfl
  | false=>
   cases qby x with
   | true=>rfl
   | false=>cases inR ((j - 2:Nat):Int) 1 5<;>cases x==93<;>rfl
theorem c_fav (b:UInt8)(t:Str)(hs:t.length≤1073741823):out qpx [.one (Cell.str (bs (b::t)))]=some [.one (Cell.int ((qhj (b::t):Nat):Int))]:=by
  have hM := qak
  refine qau (H := []) (qctb (t.length + 2) ?_)
  have e1 := qeh (b :: t) 1 (b :: t).length (by simp) (Nat.le_refl _)
  rw [List.take_length, List.drop_succ_cons, List.drop_zero] at e1
  have e1' : subS (bs (b :: t)) 1 (((b :: t).length : Nat) : Int) = some (bs t) := e1
  simp only [fav, qnk, c_fan, qbo, EV0]
  rw [show ((b.toNat : Int) == 63) = (b == 63) from qmf b 63 (by omega), show ((b.toNat : Int) == 42) = (b == 42) from qmf b 42 (by omega), show ((b.toNat : Int) != 91) = !(b == 91) from congrArg not (qmf b 91 (by omega))]
  cases hb : b == 91 with
  | false =>
    have hun : qhj (b :: t) = bif qjp b || (b == 63 || b == 42) then 1 else 0 := by
      simp only [qhj, hb, cond_false]
    rw [hun]
    cases qjp b <;> cases b == 63 <;> cases b == 42 <;> rfl
  | true =>
    have hb' : b = 91 := by simpa using hb
    subst hb'
    rw [show qjp 91 = false from rfl, show ((91 : UInt8) == 63) = false from rfl, show ((91 : UInt8) == 42) = false from rfl]
    simp only [Bool.not_true, cond_false]
    simp only [List.length_cons] at e1'
    simp only [e1', c_fcu, EV0]
    unfold qhj
    simp only [show ((91 : UInt8) == 91) = true from rfl, cond_true]
    have hun : ∀ (o : Option Nat) (p : Nat), (((match o with | some n => n + p | none => 0 : Nat)) : Int) = (match o with | some q => ((p + q : Nat) : Int) | none => 0) := by
      intro o p
      cases o with
      | none => rfl
      | some n => simp only; congr 1; omega
    cases t with
    | nil =>
      simp only [show List.isPrefixOf [33] ([] : Str) = false from rfl, cond_false]
      have z := qecb [91] (by simp) [] 1 (([] : Str).length + 2 + 1) rfl (by simp) (by omega) (by simp) (([] : Str).length + 2 + 1) (([] : Str).length + 2 + 1)
      exact z
    | cons d t' =>
      rw [show List.isPrefixOf [33] (d :: t') = (d == 33) by
        simp only [List.isPrefixOf, Bool.and_true]
        cases h : d == 33 with
        | true => have : d = 33 := by simpa using h
                  subst this; rfl
        | false => rw [Bool.eq_false_iff]; intro h2; have : 33 = d := by simpa using h2
                   subst this; simp at h]
      cases hd : d == 33 with
      | true =>
        simp only [hd, cond_true]
        rw [hun (qhq t' 0) 2]
        exact qrhb (91 :: d :: t') (by simp at hs ⊢; omega) t' 2 ((d :: t').length + 2 + 1) rfl (by simp) (by omega) (by simp; omega) ((d :: t').length + 2 + 1) ((d :: t').length + 2 + 1)
      | false =>
        simp only [hd, cond_false]
        rw [hun (qhq (d :: t') 0) 1]
        exact qecb (91 :: d :: t') (by simp at hs ⊢; omega) (d :: t') 1 ((d :: t').length + 2 + 1) rfl (by simp) (by omega) (by simp) ((d :: t').length + 2 + 1) ((d :: t').length + 2 + 1)
theorem c_fas (s:Str)(hs:s.length≤1073741824):out qqg [.one (Cell.str (bs s))]=some [.one (Cell.bool (qgi s))]:=by
 have hM:=qak
 have loop:∀ (d:Nat) (r:Str) (c n:Nat),r.length≤d→d≤1073741824→c+d≤1073741824→d < n→∀ k m,qpf k m n c (bs r)=some ([.one (Cell.bool (qen d r c))],[]):=by
  intro d
  induction d with
  | zero=>
   intro r c n hr hd hc hn k m
   obtain⟨n,rfl⟩:∃ q,n=q+1:=⟨n - 1,by omega⟩
   have:r=[]:=List.eq_nil_of_length_eq_zero (by omega)
   subst this
   simp only[qpf,qnbb,EV0,qen]
   rfl
  | succ d ih=>
   intro r c n hr hd hc hn k m
   obtain⟨n,rfl⟩:∃ q,n=q+1:=⟨n - 1,by omega⟩
   cases r with
   | nil=>
    simp only[qpf,qnbb,EV0,qen]
    rfl
   | cons b t=>
    have hul:=qcpb (b::t)
    simp only[List.length_cons] at hr hul
    simp only[qpf,c_fav b t (by omega),EV0]
    rw[show(!((b::t:Str)==[]))=true from rfl,cond_true]
    unfold qen
    by_cases hu:qhj (b::t)=0
    ·rw[hu]
     rfl
    ·have e1:=qeh (b::t) (qhj (b::t)) (b::t).length (by simp;omega) (Nat.le_refl _)
     rw[List.take_length] at e1
     simp only[List.length_cons] at e1
     rw[show(((qhj (b::t):Nat):Int)==0)=false by simp;omega,cond_false,show(qhj (b::t)==0)=false by simpa using hu,cond_false,e1,qah (by omega)]
     simp only[Option.bind_some]
     exact ih _ (c+1) n (by rw[List.length_drop];simp;omega) (by omega) (by omega) (by omega) k m
 refine qau (H:=[]) (qdib (s.length+1) ?_)
 have z:=loop s.length s 0 (s.length+1+1) (Nat.le_refl _) hs (by omega) (by omega) (s.length+1+1) (s.length+1+1)
 simpa[fas,qgi] using z
theorem c_faa (s:Str)(hs:s.length≤1073741823):out qnu [.one (Cell.str (bs s))]=some [.one (Cell.bool (qsb s))]:=by
 have hM:=qak
 have hl:=qge 47 s []
 have hlen:∀ x∈split 47 s,x.length≤1073741824:=fun x hx=>Nat.le_trans (hl.2 x hx) (by simp;omega)
 have hll:(split 47 s).length≤s.length+1:=hl.1
 obtain⟨c3,A,ids,e1,r1,w1,_⟩:=qqwb (f_fcw s 47 (by omega)) ([]:List Entry) (qbh [.one (Cell.str (bs s)),.one (Cell.str (bs [47]))] _ _)
 generalize ([]:List Entry)++A=H at e1 r1
 have hm:=qki.of (n:=2) r1
 clear hl r1 w1
 unfold qsb
 generalize split 47 s=W at*
 refine qau (H:=H) (qczb (W.length+1) ?_)
 simp only[faa,e1,hm.len,EV0]
 rw[qdi W (fun n i=>qsk (W.length+1+1) (W.length+1+1) n c3 c3 W.length i H) qgi (some ([.one (Cell.bool (decide (W.length≤4)))],H)) (some ([.one (Cell.bool false)],H)) ?_ ?_ _ (by omega)]
 ·exact qjeb _ _ _
 ·intro n i x hx hlt
  obtain⟨a,row,off,t1,t2,t3⟩:=hm.at hx
  simp only[qsk,t1,t2,t3,c_fas x (hlen x (List.mem_of_getElem? hx)),EV0]
  rw[decide_eq_true (by omega),cond_true,qah (by omega)]
  cases qgi x<;>rfl
 ·intro n
  simp only[qsk,hm.len,EV0]
  rw[decide_eq_false (by omega),cond_false,show decide ((W.length:Int)≤4)=decide (W.length≤4) from n_le W.length 4]
theorem c_fcq (l:List Str)(hl:bdL 1048576 (bdS 1048576) l):out qqx [.one (qbt l)]=some [.one (Cell.bool (l.all qbe))]:=by
 have hM:=qak
 have hxl:=hl.1
 refine qau (H:=[]) (qdob (l.length+1) ?_)
 simp only[fcq]
 rw[qdi l (fun n i=>qso (l.length+1+1) (l.length+1+1) n (qbt l) i) qbe (some ([.one (Cell.bool true)],[])) (some ([.one (Cell.bool false)],[])) ?_ ?_ _ (by omega)]
 ·cases l.all qbe<;>rfl
 ·intro n i x hx hlt
  have hb:x.length≤1048576:=hl.2 x (List.mem_of_getElem? hx)
  simp only[qso,qae,qar,hx,eStr,qngb x (by omega),EV0]
  rw[decide_eq_true (by omega),cond_true,qah (by omega)]
  cases qbe x<;>rfl
 ·intro n
  simp only[qso,qae,EV0]
  rw[decide_eq_false (by omega),cond_false]
theorem c_far (l:List Str)(hl:bdL 1048576 (bdS 1048576) l)(c:Nat):out qls [.one (qbt l),.one (Cell.int c)]=some [.one (Cell.bool (l.all qbe&&decide (l.length≤c)))]:=by
 have hM:=qak
 have hxl:=hl.1
 refine qau (H:=[]) (qcob (l.length+1) ?_)
 simp only[far,qae,Option.bind_some]
 rw[qdi l (fun n i=>qsf (l.length+1+1) (l.length+1+1) n (qbt l) c (qbt l) l.length i) qbe (some ([.one (Cell.bool (decide (l.length≤c)))],[])) (some ([.one (Cell.bool false)],[])) ?_ ?_ _ (by omega)]
 ·exact qjeb _ _ _
 ·intro n i x hx hlt
  have hb:x.length≤1048576:=hl.2 x (List.mem_of_getElem? hx)
  simp only[qsf,qae,qar,hx,eStr,qxab x (by omega),EV0]
  rw[decide_eq_true (by omega),cond_true,qah (by omega)]
  cases qbe x<;>rfl
 ·intro n
  simp only[qsf,qae,EV0]
  rw[decide_eq_false (by omega),cond_false,show decide ((l.length:Int)≤(c:Int))=decide (l.length≤c) from n_le l.length c]
def qlhb (s:Str):Bool:=qsb s&&decide (s.length≤60)
def qkm (r:MRule):Bool:=r.On.all onOk&&(r.Ins.all qlhb&&(qbe r.Task&&(decide (r.On.length≤4)&&(decide (r.Ins.length≤4)&&(decide (r.Envs.length≤3)&&r.Envs.all qbe)))))
theorem c_fcg (r:MRule)(hr:r.Bd 1048576):out qlv [.agg [Cell.str (bs r.Task),qbt r.On,qbt r.Ins,qbt r.Envs,Cell.bool r.Keep]]=some [.one (Cell.bool (qkm r))]:=by
 have hM:=qak
 obtain⟨b0,b1,b2,b3,-⟩:=hr
 have hx1:=b1.1
 have hx2:=b2.1
 have hx0:r.Task.length≤1048576:=b0
 refine qau (H:=[]) (qbyb (r.On.length+r.Ins.length+1) ?_)
 have z:qoo (r.On.length+r.Ins.length+1+1) (r.On.length+r.Ins.length+1+1) (r.On.length+r.Ins.length+1+1) 0 (bs r.Task) (qbt r.On) (qbt r.Ins) (qbt r.Envs) r.Keep=some ([.one (Cell.bool (r.Ins.all qlhb&&(qbe r.Task&&(decide (r.On.length≤4)&&(decide (r.Ins.length≤4)&&(decide (r.Envs.length≤3)&&r.Envs.all qbe))))))],[]):=by
  rw[qdi r.Ins (fun n i=>qoo (r.On.length+r.Ins.length+1+1) (r.On.length+r.Ins.length+1+1) n i (bs r.Task) (qbt r.On) (qbt r.Ins) (qbt r.Envs) r.Keep) qlhb (some ([.one (Cell.bool (qbe r.Task&&(decide (r.On.length≤4)&&(decide (r.Ins.length≤4)&&(decide (r.Envs.length≤3)&&r.Envs.all qbe)))))],[])) (some ([.one (Cell.bool false)],[])) ?_ ?_ _ (by omega)]
  ·exact qjeb _ _ _
  ·intro n i x hx hlt
   have hb:x.length≤1048576:=b2.2 x (List.mem_of_getElem? hx)
   simp only[qoo,qae,qar,hx,eStr,c_fbz x (by omega),EV0]
   rw[decide_eq_true (by omega),cond_true,qah (by omega),show decide ((x.length:Int) > 60)=!decide (x.length≤60) from by
    rw[show decide ((x.length:Int) > 60)=decide (60 < x.length) from by rw[decide_eq_decide];omega,← decide_not,decide_eq_decide]
    omega]
   unfold qlhb
   cases qsb x<;>cases decide (x.length≤60)<;>rfl
  ·intro n
   simp only[qoo,qae,qngb r.Task (by omega),c_fcq r.Envs b3,EV0]
   rw[decide_eq_false (by omega),cond_false,show decide ((r.On.length:Int)≤4)=decide (r.On.length≤4) from n_le _ 4,show decide ((r.Ins.length:Int)≤4)=decide (r.Ins.length≤4) from n_le _ 4,show decide ((r.Envs.length:Int)≤3)=decide (r.Envs.length≤3) from n_le _ 3]
   cases qbe r.Task<;>cases decide (r.On.length≤4)<;>cases decide (r.Ins.length≤4)<;>cases decide (r.Envs.length≤3)<;>rfl
 unfold qkm
 simp only[fcg,qae,Option.bind_some]
 rw[qdi r.On (fun n i=>qrr (r.On.length+r.Ins.length+1+1) (r.On.length+r.Ins.length+1+1) n i (bs r.Task) (qbt r.On) (qbt r.Ins) (qbt r.Envs) r.Keep) onOk (some ([.one (Cell.bool (r.Ins.all qlhb&&(qbe r.Task&&(decide (r.On.length≤4)&&(decide (r.Ins.length≤4)&&(decide (r.Envs.length≤3)&&r.Envs.all qbe))))))],[])) (some ([.one (Cell.bool false)],[])) ?_ ?_ _ (by omega)]
 ·exact qjeb _ _ _
 ·intro n i x hx hlt
  have hb:x.length≤1048576:=b1.2 x (List.mem_of_getElem? hx)
  simp only[qrr,qae,qar,hx,eStr,c_fcb x (by omega),EV0]
  rw[decide_eq_true (by omega),cond_true,qah (by omega)]
  cases onOk x<;>rfl
 ·intro n
  simp only[qrr,qae,EV0]
  rw[decide_eq_false (by omega),cond_false]
  exact z
theorem c_fat (r:MRule)(hr:r.Bd 1048576):out qli [.agg [Cell.str (bs r.Task),qbt r.On,qbt r.Ins,qbt r.Envs,Cell.bool r.Keep]]=some [.one (Cell.bool (qkm r))]:=by
 have hM:=qak
 obtain⟨b0,b1,b2,b3,-⟩:=hr
 have hx1:=b1.1
 have hx2:=b2.1
 have hx0:r.Task.length≤1048576:=b0
 refine qau (H:=[]) (qeob (r.On.length+r.Ins.length+1) ?_)
 have z:qpv (r.On.length+r.Ins.length+1+1) (r.On.length+r.Ins.length+1+1) (r.On.length+r.Ins.length+1+1) (qbt r.Ins) r.Ins.length 0 (bs r.Task) (qbt r.On) (qbt r.Ins) (qbt r.Envs) r.Keep=some ([.one (Cell.bool (r.Ins.all qlhb&&(qbe r.Task&&(decide (r.On.length≤4)&&(decide (r.Ins.length≤4)&&(decide (r.Envs.length≤3)&&r.Envs.all qbe))))))],[]):=by
  rw[qdi r.Ins (fun n i=>qpv (r.On.length+r.Ins.length+1+1) (r.On.length+r.Ins.length+1+1) n (qbt r.Ins) r.Ins.length i (bs r.Task) (qbt r.On) (qbt r.Ins) (qbt r.Envs) r.Keep) qlhb (some ([.one (Cell.bool (qbe r.Task&&(decide (r.On.length≤4)&&(decide (r.Ins.length≤4)&&(decide (r.Envs.length≤3)&&r.Envs.all qbe)))))],[])) (some ([.one (Cell.bool false)],[])) ?_ ?_ _ (by omega)]
  ·exact qjeb _ _ _
  ·intro n i x hx hlt
   have hb:x.length≤1048576:=b2.2 x (List.mem_of_getElem? hx)
   simp only[qpv,qae,qar,hx,eStr,c_faa x (by omega),EV0]
   rw[decide_eq_true (by omega),cond_true,qah (by omega),show decide ((x.length:Int) > 60)=!decide (x.length≤60) from by
    rw[show decide ((x.length:Int) > 60)=decide (60 < x.length) from by rw[decide_eq_decide];omega,← decide_not,decide_eq_decide]
    omega]
   unfold qlhb
   cases qsb x<;>cases decide (x.length≤60)<;>rfl
  ·intro n
   simp only[qpv,qae,qxab r.Task (by omega),show out qls [.one (qbt r.Envs),.one (Cell.int 3)]=_ from c_far r.Envs b3 3,EV0]
   rw[decide_eq_false (by omega),cond_false,show decide ((r.On.length:Int)≤4)=decide (r.On.length≤4) from n_le _ 4,show decide ((r.Ins.length:Int)≤4)=decide (r.Ins.length≤4) from n_le _ 4]
   cases qbe r.Task<;>cases decide (r.On.length≤4)<;>cases decide (r.Ins.length≤4)<;>simp[Bool.and_comm]
 unfold qkm
 simp only[fat,qae,Option.bind_some]
 rw[qdi r.On (fun n i=>qrj (r.On.length+r.Ins.length+1+1) (r.On.length+r.Ins.length+1+1) n (qbt r.On) r.On.length i (bs r.Task) (qbt r.On) (qbt r.Ins) (qbt r.Envs) r.Keep) onOk (some ([.one (Cell.bool (r.Ins.all qlhb&&(qbe r.Task&&(decide (r.On.length≤4)&&(decide (r.Ins.length≤4)&&(decide (r.Envs.length≤3)&&r.Envs.all qbe))))))],[])) (some ([.one (Cell.bool false)],[])) ?_ ?_ _ (by omega)]
 ·exact qjeb _ _ _
 ·intro n i x hx hlt
  have hb:x.length≤1048576:=b1.2 x (List.mem_of_getElem? hx)
  simp only[qrj,qae,qar,hx,eStr,c_fac x (by omega),EV0]
  rw[decide_eq_true (by omega),cond_true,qah (by omega)]
  cases onOk x<;>rfl
 ·intro n
  simp only[qrj,qae,EV0]
  rw[decide_eq_false (by omega),cond_false]
  exact z
structure MVal where
 K:Int
 N:Int
 S:Str
 L:List MVal
 Keys:List Str
noncomputable instance:DecidableEq MVal:=fun a b=>Classical.propDecidable (a=b)
mutual
def MVal.enc:MVal→List Cell
 | ⟨K,N,S,L,Keys⟩=>[Cell.int K,Cell.int N,Cell.str (bs S),.lst false 5 (encVs L),encL 1 eStr Keys]
def encVs:List MVal→List (List Cell)
 | []=>[]
 | x::xs=>x.enc::encVs xs
end
mutual
def MVal.tr:MVal→List Tr
 | ⟨K,N,S,L,Keys⟩=>[.leaf (.int .i64 K),.leaf (.int .i64 N),.leaf (.string (bs S)),.list 5 (trVs L),trL 1 qcm Keys]
def trVs:List MVal→List (List Tr)
 | []=>[]
 | x::xs=>x.tr::trVs xs
end
mutual
def MVal.Bd (N:Nat):MVal→Prop
 | ⟨_,_,S,L,Keys⟩=>bdS N S∧(L.length≤N∧bdVs N L)∧bdL N (bdS N) Keys
def bdVs (N:Nat):List MVal→Prop
 | []=>True
 | x::xs=>x.Bd N∧bdVs N xs
end
mutual
def MVal.cntR:MVal→Nat
 | ⟨_,_,_,L,Keys⟩=>3+cntVs L+cntL one1 Keys
def cntVs:List MVal→Nat
 | []=>0
 | x::xs=>x.cntR+cntVs xs
end
mutual
def MVal.mkR:MVal→Nat→MVal
 | ⟨_,_,_,L,Keys⟩,k=>⟨(k:Int),((k+1:Nat):Int),qetb (k+2),mkVs L (k+3),mkL qqr one1 Keys (k+3+cntVs L)⟩
def mkVs:List MVal→Nat→List MVal
 | [],_=>[]
 | x::xs,k=>x.mkR k::mkVs xs (k+x.cntR)
end
mutual
def MVal.fu:MVal→Nat
 | ⟨_,_,_,L,_⟩=>fuVs L
def fuVs:List MVal→Nat
 | []=>0
 | x::xs=>x.fu+fuVs xs+1
end
def MVal.cntA (x:MVal):Nat:=cntL MVal.cntR x.L+cntL one1 x.Keys
def MVal.mkA (x:MVal)(k:Nat):MVal:=⟨x.K,x.N,x.S,mkL MVal.mkR MVal.cntR x.L k,mkL qqr one1 x.Keys (k+cntL MVal.cntR x.L)⟩
theorem qbub:∀ xs,encVs xs=xs.map MVal.enc
 | []=>rfl
 | x::xs=>by rw[encVs,qbub xs];rfl
theorem qmrb:∀ xs,trVs xs=xs.map MVal.tr
 | []=>rfl
 | x::xs=>by rw[trVs,qmrb xs];rfl
theorem qmr:∀ xs,cntVs xs=cntL MVal.cntR xs
 | []=>rfl
 | x::xs=>by rw[cntVs,qmr xs,qfa]
theorem qndb:∀ xs k,mkVs xs k=mkL MVal.mkR MVal.cntR xs k
 | [],_=>rfl
 | x::xs,k=>by rw[mkVs,qndb xs];rfl
theorem qcjb {N:Nat}:∀ {xs:List MVal},bdVs N xs↔∀ x∈xs,x.Bd N
 | []=>by simp[bdVs]
 | x::xs=>by rw[bdVs,qcjb (xs:=xs)];simp
theorem enc_V (x:MVal):x.enc=[Cell.int x.K,Cell.int x.N,Cell.str (bs x.S),encL 5 MVal.enc x.L,encL 1 eStr x.Keys]:=by
 obtain⟨K,N,S,L,Keys⟩:=x
 rw[MVal.enc,qbub]
 rfl
theorem tr_V (x:MVal):x.tr=[.leaf (.int .i64 x.K),.leaf (.int .i64 x.N),.leaf (.string (bs x.S)),trL 5 MVal.tr x.L,trL 1 qcm x.Keys]:=by
 obtain⟨K,N,S,L,Keys⟩:=x
 rw[MVal.tr,qmrb]
 rfl
theorem bd_V {N:Nat}(x:MVal):x.Bd N↔bdS N x.S∧bdL N (MVal.Bd N) x.L∧bdL N (bdS N) x.Keys:=by
 obtain⟨K,N',S,L,Keys⟩:=x
 rw[MVal.Bd,qcjb]
 exact Iff.rfl
theorem qbsc (x:MVal):x.cntR=3+cntL MVal.cntR x.L+cntL one1 x.Keys:=by
 obtain⟨K,N,S,L,Keys⟩:=x
 rw[MVal.cntR,qmr]
theorem mkR_V (x:MVal)(k:Nat):x.mkR k=⟨(k:Int),((k+1:Nat):Int),qetb (k+2),mkL MVal.mkR MVal.cntR x.L (k+3),mkL qqr one1 x.Keys (k+3+cntL MVal.cntR x.L)⟩:=by
 obtain⟨K,N,S,L,Keys⟩:=x
 rw[MVal.mkR,qndb,qmr]
theorem fu_V (x:MVal):x.fu=fuVs x.L:=by
 obtain⟨K,N,S,L,Keys⟩:=x
 rw[MVal.fu]
theorem qfp:∀ xs:List MVal,xs.length≤fuVs xs
 | []=>by simp[fuVs]
 | x::xs=>by have:=qfp xs;simp only[fuVs,List.length_cons];omega
theorem qdv:∀ {xs:List MVal} {x:MVal},x∈xs→fuVs x.L+1≤fuVs xs
 | y::xs,x,h=>by
  rw[fuVs]
  rcases List.mem_cons.1 h with rfl | h
  ·rw[fu_V];omega
  ·have:=qdv h;omega
mutual
theorem canonV:∀ x:MVal,qgg x.enc
 | ⟨K,N,S,L,Keys⟩=>by
  rw[MVal.enc]
  exact .cons inferInstance (.cons inferInstance (.cons inferInstance (.cons (quq (canonVs L)) (.cons inferInstance .nil))))
theorem canonVs:∀ xs:List MVal,∀ r∈encVs xs,qgg r
 | []=>by simp[encVs]
 | x::xs=>by
  intro r hr
  rw[encVs] at hr
  rcases List.mem_cons.1 hr with rfl | hr
  ·exact canonV x
  ·exact canonVs xs r hr
end
instance:CanonE MVal.enc:=⟨canonV⟩
mutual
theorem trE_V:∀ x:MVal,x.tr.map Tr.cell=x.enc
 | ⟨K,N,S,L,Keys⟩=>by
  rw[MVal.enc,MVal.tr]
  simp only[List.map_cons,List.map_nil,qbp,qbv]
  rw[Tr.cell,Tr.rowsC_eq,trE_Vs L]
theorem trE_Vs:∀ xs:List MVal,(trVs xs).map (List.map Tr.cell)=encVs xs
 | []=>rfl
 | x::xs=>by rw[trVs,encVs,List.map_cons,trE_V x,trE_Vs xs]
end
instance:TrE MVal.tr MVal.enc:=⟨trE_V⟩
theorem MVal.open {H:List Entry}{w q:Bool}{n:Nat}{ids:List Nat}{cs:List Cell}{x:MVal}(h0:Sp (Rep H w q n) ids cs x.tr):∃ c3 c4,cs=[Cell.int x.K,Cell.int x.N,Cell.str (bs x.S),c3,c4]:=by
 rw[tr_V] at h0
 obtain⟨cs,rfl,h1⟩:=Sp.leaf_inv h0
 obtain⟨cs,rfl,h2⟩:=Sp.leaf_inv h1
 obtain⟨cs,rfl,h3⟩:=Sp.leaf_inv h2
 obtain⟨c3,cs,rfl,_,h4⟩:=Sp.list_inv h3
 obtain⟨c4,cs,rfl,_,h5⟩:=Sp.list_inv h4
 obtain⟨_,rfl⟩:=h5.nil_inv
 exact⟨c3,c4,rfl⟩
abbrev avV (x:MVal):AV:=.agg [Cell.int x.K,Cell.int x.N,Cell.str (bs x.S),encL 5 MVal.enc x.L,encL 1 eStr x.Keys]
theorem Fresh.outL {run:Run}{w:Bool}{n:Nat}{args:List AV}{ts:List AT}(h:Fresh run w n args ts)(hn:n≤4194304:=by omega):Ev.outL run args=some (ts.map AT.av):=by
 obtain⟨_,xs,E,ids,h1,h2,_⟩:=h
 exact qqv h1 (qud hn h2 fun h=>by simp at h)
theorem qalb (F:Nat)(hS:∀ xs:List MVal,fuVs xs≤F→bdL 1048576 (MVal.Bd 1048576) xs→∀ k,2*F+1≤k→evF qkv (k+2) qqu [.one (encL 5 MVal.enc xs),.one (encL 5 MVal.enc xs)] []=some ([.one (Cell.bool true)],[]))
  (x:MVal) (hf:fuVs x.L≤F) (hx:x.Bd 1048576) (k:Nat) (hk:2*F+2≤k):evF qkv (k+2) qhf [avV x,avV x] []=some ([.one (Cell.bool true)],[]):=by
 obtain⟨b2,b3,b4⟩:=(bd_V x).1 hx
 obtain⟨k,rfl⟩:∃ j,k=j+1:=⟨k - 1,by omega⟩
 have e1:out (evF qkv (k+1+1) qqu) [.one (encL 5 MVal.enc x.L),.one (encL 5 MVal.enc x.L)]=some [.one (Cell.bool true)]:=qau (hS x.L hf b3 k (by omega))
 rw[fbi_eq]
 simp only[fbi,e1,qdjc _ _ b4 b4,bne_self_eq_false,decide_true,Bool.not_true,EV0]
theorem q_fbj:∀ (F:Nat) (xs:List MVal),fuVs xs≤F→bdL 1048576 (MVal.Bd 1048576) xs→∀ k,2*F+1≤k→evF qkv (k+2) qqu [.one (encL 5 MVal.enc xs),.one (encL 5 MVal.enc xs)] []=some ([.one (Cell.bool true)],[]):=by
 intro F
 induction F using Nat.strongRecOn with
 | ind F ih=>
 intro xs hf hx R hR
 have hM:=qak
 have hxl:=hx.1
 have hlen:=qfp xs
 have loop:∀ (r:List MVal) (i n:Nat),xs.drop i=r→r.length < n→∀ m,qsg (R+1) m n (encL 5 MVal.enc xs) (encL 5 MVal.enc xs) i=some ([.one (Cell.bool true)],[]):=by
  intro r
  induction r with
  | nil=>
   intro i n hd hn m
   obtain⟨n,rfl⟩:∃ j,n=j+1:=⟨n - 1,by omega⟩
   have:=drop_nil hd
   simp only[qsg,qae,Option.bind_some]
   rw[decide_eq_false (by omega),cond_false]
  | cons x r ihr=>
   intro i n hd hn m
   obtain⟨n,rfl⟩:∃ j,n=j+1:=⟨n - 1,by omega⟩
   obtain⟨hlt,hg,hd'⟩:=qas hd
   simp only[List.length_cons] at hn
   have hm:=List.mem_of_getElem? hg
   have hfx:=qdv hm
   obtain⟨R',rfl⟩:∃ j,R=j+1:=⟨R - 1,by omega⟩
   have e1:out (evF qkv (R'+1+1) qhf) [avV x,avV x]=some [.one (Cell.bool true)]:=qau (qalb (fuVs x.L) (fun ys h1 h2 k h3=>ih (fuVs x.L) (by omega) ys h1 h2 k h3) x (Nat.le_refl _) (hx.2 x hm) R' (by omega))
   simp only[avV] at e1
   simp only[qsg,qae,qar,hg,enc_V x,e1,Nat.zero_add,Nat.reduceAdd,Bool.not_true,EV0]
   rw[decide_eq_true (by omega),cond_true,qah (by omega)]
   exact ihr (i+1) n hd' (by omega) m
 rw[fbj_eq]
 simp only[fbj,qae,bne_self_eq_false,EV0]
 exact loop xs 0 (R+1) rfl (by omega) _
theorem c_fbi (x y:MVal)(hx:x.Bd 1048576)(hy:y.Bd 1048576)(e:x=y:=by rfl):out qop [.agg [Cell.int x.K,Cell.int x.N,Cell.str (bs x.S),encL 5 MVal.enc x.L,encL 1 eStr x.Keys],.agg [Cell.int y.K,Cell.int y.N,Cell.str (bs y.S),encL 5 MVal.enc y.L,encL 1 eStr y.Keys]]=some [.one (Cell.bool (decide (x=y)))]:=by
 subst e
 rw[show decide (x=x)=true by simp]
 exact qau (qap (qalb (fuVs x.L) (q_fbj (fuVs x.L)) x (Nat.le_refl _) hx (2*fuVs x.L+2) (Nat.le_refl _)))
theorem q_fbq:∀ (F:Nat) (xs:List MVal),fuVs xs≤F→bdL maxLen (MVal.Bd maxLen) xs→∀ (R:Nat),F≤R→∀ {H:List Entry} {w:Bool} {n:Nat} {ids:List Nat} {c:Cell} (k:Nat),Rep H w true n ids c (trL 5 MVal.tr xs)→ids.Nodup→k+cntL MVal.cntR xs≤qbu→
  ∃ H',evF qxi (R+2) qhb [.one c,.one (Cell.int (k:Int))] H=some ([.one (Cell.int ((k+cntL MVal.cntR xs:Nat):Int))],H')∧Upd ids H H'∧Rep H' w true n ids c (trL 5 MVal.tr (mkL MVal.mkR MVal.cntR xs k)):=by
 intro F
 induction F using Nat.strongRecOn with
 | ind F ihF=>
 intro xs hf hx R hR H w n ids c k h hn hk
 cases n with
 | zero=>exact h.elim
 | succ n=>
 have hM:=qak
 have hlen:=h.lenC
 rw[List.length_map] at hlen
 have hxl:xs.length≤maxLen:=hx.1
 have hlx:=qfp xs
 obtain⟨H',e1,u,r⟩:=qtw (sz:=5) (c:=c) MVal.tr MVal.mkR MVal.cntR xs (fun m k i H=>qrs (R+1) (R+1) m c k i H) (by
  intro m i k x H trs hi hm hr hl hk h
  have h0:Rep H w true (n+1) ids c (.list 5 (trs.set i [.leaf (.int .i64 x.K),.leaf (.int .i64 x.N),.leaf (.string (bs x.S)),trL 5 MVal.tr x.L,trL 1 qcm x.Keys])):=by rw[← tr_V x,qrw hr];exact h
  have hi':i < trs.length:=by omega
  obtain⟨hb2,hb3,hb4⟩:=(bd_V x).1 (hx.2 x hm)
  have hfx:=qdv hm
  obtain⟨R',rfl⟩:∃ j,R=j+1:=⟨R - 1,by omega⟩
  have hk0:=hk
  rw[qbsc] at hk
  obtain⟨id0,p0,q0,row0,a0,d0,st0,sb0⟩:=h0.idxR hn hi'
  obtain⟨H0,s0,u0,h1⟩:=st0 0 _ (.int .i64 ((k:Nat):Int)) rfl
  have y0:IntKind.i64.wrap (((k:Nat):Int)+1)=((k+1:Nat):Int):=qchc (by omega)
  obtain⟨id1,p1,q1,row1,a1,d1,st1,sb1⟩:=h1.idxR hn hi'
  obtain⟨rfl,rfl,rfl⟩:=qms a0 a1
  obtain⟨H1,s1,u1,h2⟩:=st1 1 _ (.int .i64 (((k+1):Nat):Int)) rfl
  have y1:IntKind.i64.wrap ((((k+1):Nat):Int)+1)=(((k+1)+1:Nat):Int):=qchc (by omega)
  obtain⟨id2,p2,q2,row2,a2,d2,st2,sb2⟩:=h2.idxR hn hi'
  obtain⟨rfl,rfl,rfl⟩:=qms a0 a2
  obtain⟨H2,s2,u2,h3⟩:=st2 2 _ (.string (bs (qetb ((k+1)+1)))) rfl
  have y2:IntKind.i64.wrap (((((k+1)+1):Nat):Int)+1)=((((k+1)+1)+1:Nat):Int):=qchc (by omega)
  obtain⟨id3,p3,q3,row3,a3,d3,st3,sb3⟩:=h3.idxR hn hi'
  obtain⟨rfl,rfl,rfl⟩:=qms a0 a3
  obtain⟨cc3,sub3,g3,r3,nd3,bk3⟩:=sb3 3 _ rfl
  obtain⟨H3,s3,v3,z3⟩:=ihF (fuVs x.L) (by omega) x.L (Nat.le_refl _) hb3 R' (by omega) (((k+1)+1)+1) r3 nd3 (by omega)
  have s3:evF qxi (R'+1+1) qhb [.one cc3,.one (Cell.int ((((k+1)+1)+1:Nat):Int))] H2=_:=s3
  obtain⟨u3,h4⟩:=bk3 _ _ v3 z3
  obtain⟨id4,p4,q4,row4,a4,d4,st4,sb4⟩:=h4.idxR hn hi'
  obtain⟨rfl,rfl,rfl⟩:=qms a0 a4
  obtain⟨cc4,sub4,g4,r4,nd4,bk4⟩:=sb4 4 _ rfl
  obtain⟨H4,s4,v4,z4⟩:=qxjb (x.Keys) ((((k+1)+1)+1)+cntL MVal.cntR x.L) hb4 r4 nd4 (by omega)
  obtain⟨u4,h5⟩:=bk4 _ _ v4 z4
  have ek:k+MVal.cntR x=(((((k+1)+1)+1)+cntL MVal.cntR x.L)+cntL one1 x.Keys):=by rw[qbsc];omega
  have em:MVal.tr (MVal.mkR x k)=[.leaf (.int .i64 ((k:Nat):Int)),.leaf (.int .i64 (((k+1):Nat):Int)),.leaf (.string (bs (qetb ((k+1)+1)))),trL 5 MVal.tr (mkL MVal.mkR MVal.cntR x.L (((k+1)+1)+1)),trL 1 qcm (mkL qqr one1 x.Keys ((((k+1)+1)+1)+cntL MVal.cntR x.L))]:=by rw[tr_V,mkR_V]
  refine⟨H4,?_,u0.trans (u1.trans (u2.trans (u3.trans (u4)))),by rw[em];exact h5⟩
  rw[ek]
  simp only[qrs,hlen,Option.bind_some]
  rw[decide_eq_true (by omega),cond_true]
  simp only[a0,s0,y0,a1,s1,y1,a2,s2,c_fbo ((k+1)+1) (by omega),y2,a3,d3,g3,s3,a4,d4,g4,s4,qmm,Nat.zero_add,Nat.reduceAdd,wrap_u8,EV0]
  rw[qah (by omega)]) (by
  intro m k H
  simp only[qrs,hlen,Option.bind_some]
  rw[decide_eq_false (by omega),cond_false]) (R+1) k H (by omega) hk h
 refine⟨H',?_,u,r⟩
 rw[fbq_eq]
 simp only[fbq]
 exact e1
theorem k_fbq {H:List Entry}{w:Bool}{n:Nat}{ids:List Nat}{c:Cell}(xs:List MVal)(k:Nat)(hx:bdL maxLen (MVal.Bd maxLen) xs)(h:Rep H w true n ids c (trL 5 MVal.tr xs))(hn:ids.Nodup)(hk:k+cntL MVal.cntR xs≤qbu):
  ∃ H',qvm [.one c,.one (Cell.int (k:Int))] H=some ([.one (Cell.int ((k+cntL MVal.cntR xs:Nat):Int))],H')∧Upd ids H H'∧Rep H' w true n ids c (trL 5 MVal.tr (mkL MVal.mkR MVal.cntR xs k)):=by
 obtain⟨H',e,u,r⟩:=q_fbq (fuVs xs) xs (Nat.le_refl _) hx (fuVs xs) (Nat.le_refl _) k h hn hk
 exact⟨H',qap e,u,r⟩
theorem k_fbp {H:List Entry}{w:Bool}{n:Nat}{ids:List Nat}{cs:List Cell}(x:MVal)(k:Nat)(hx:x.Bd maxLen)(h0:Sp (Rep H w true n) ids cs x.tr)(hn:ids.Nodup)(hk:k+x.cntA≤qbu):
  ∃ H',qlg [.agg cs,.one (Cell.int (k:Int))] H=some ([.one (Cell.int ((k+x.cntA:Nat):Int))],H')∧Upd ids H H'∧Sp (Rep H' w true n) ids cs (x.mkA k).tr:=by
 obtain⟨c3,c4,rfl⟩:=MVal.open h0
 obtain⟨hb2,hb3,hb4⟩:=(bd_V x).1 hx
 have hk0:=hk
 simp only[MVal.cntA] at hk
 rw[tr_V] at h0
 obtain⟨sub0,r0,nd0,bk0⟩:=Sp.field h0 hn 3 (cc:=c3) rfl rfl
 obtain⟨H0,s0,v0,z0⟩:=k_fbq (x.L) k hb3 r0 nd0 (by omega)
 obtain⟨u0,h1⟩:=bk0 _ _ v0 z0
 obtain⟨sub1,r1,nd1,bk1⟩:=Sp.field h1 hn 4 (cc:=c4) rfl rfl
 obtain⟨H1,s1,v1,z1⟩:=qxjb (x.Keys) (k+cntL MVal.cntR x.L) hb4 r1 nd1 (by omega)
 obtain⟨u1,h2⟩:=bk1 _ _ v1 z1
 have ek:k+x.cntA=((k+cntL MVal.cntR x.L)+cntL one1 x.Keys):=by simp only[MVal.cntA]<;>omega
 have em:(x.mkA k).tr=[.leaf (.int .i64 x.K),.leaf (.int .i64 x.N),.leaf (.string (bs x.S)),trL 5 MVal.tr (mkL MVal.mkR MVal.cntR x.L k),trL 1 qcm (mkL qqr one1 x.Keys (k+cntL MVal.cntR x.L))]:=tr_V _
 refine⟨H1,qdgb 0 ?_,u0.trans (u1),by rw[em];exact h2⟩
 rw[ek]
 simp only[fbp,s0,s1,EV0]
mutual
def MVal.wt:MVal→Nat
 | ⟨_,_,S,L,Keys⟩=>wtS S+(L.length+wtVs L)+wtL wtS Keys
def wtVs:List MVal→Nat
 | []=>0
 | x::xs=>x.wt+wtVs xs
end
theorem qth:∀ xs,wtVs xs=(xs.map MVal.wt).sum
 | []=>rfl
 | x::xs=>by rw[wtVs,qth xs];simp
theorem wt_V (x:MVal):x.wt=wtS x.S+wtL MVal.wt x.L+wtL wtS x.Keys:=by
 obtain⟨K,N,S,L,Keys⟩:=x
 rw[MVal.wt,qth]
 rfl
mutual
theorem fu_wt:∀ x:MVal,x.fu≤x.wt
 | ⟨K,N,S,L,Keys⟩=>by
  have:=fuVs_wt L
  rw[MVal.fu,MVal.wt]
  omega
theorem fuVs_wt:∀ xs:List MVal,fuVs xs≤xs.length+wtVs xs
 | []=>by simp[fuVs]
 | x::xs=>by
  have h1:=fu_wt x
  have h2:=fuVs_wt xs
  rw[fuVs,wtVs,List.length_cons]
  omega
end
theorem qogb (xs:List MVal):fuVs xs≤wtL MVal.wt xs:=by
 have:=fuVs_wt xs
 rw[qth] at this
 exact this
mutual
theorem cntR_wt:∀ x:MVal,x.cntR≤8+8*x.wt
 | ⟨K,N,S,L,Keys⟩=>by
  have h1:=cntVs_wt L
  have h2:=qql (w:=wtS) qnq Keys
  rw[MVal.cntR,MVal.wt]
  omega
theorem cntVs_wt:∀ xs:List MVal,cntVs xs≤8*(xs.length+wtVs xs)
 | []=>by simp[cntVs]
 | x::xs=>by
  have h1:=cntR_wt x
  have h2:=cntVs_wt xs
  rw[cntVs,wtVs,List.length_cons]
  omega
end
theorem MVal.cntA_le (x:MVal):x.cntA≤8*x.wt:=by
 have h1:=cntVs_wt x.L
 have h2:=qql (w:=wtS) qnq x.Keys
 rw[qmr,qth] at h1
 rw[MVal.cntA,wt_V]
 unfold wtL at h2 ⊢
 omega
theorem qbzc {N M:Nat}:∀ (F:Nat) (x:MVal),fuVs x.L≤F→x.Bd M→x.wt≤N→x.Bd N:=by
 intro F
 induction F with
 | zero=>
  intro x hf hx hw
  rw[bd_V] at hx ⊢
  rw[wt_V] at hw
  obtain⟨h1,⟨h2,h3⟩,h4⟩:=hx
  refine⟨(by unfold bdS;unfold wtS at hw;omega),⟨by unfold wtL at hw;omega,fun y hy=>?_⟩,qbnb (w:=wtS) h4 (by omega) (fun y h hw=>hw)⟩
  have:=qdv hy
  omega
 | succ F ih=>
  intro x hf hx hw
  rw[bd_V] at hx ⊢
  rw[wt_V] at hw
  obtain⟨h1,h2,h4⟩:=hx
  refine⟨(by unfold bdS;unfold wtS at hw;omega),⟨by unfold wtL at hw;omega,fun y hy=>?_⟩,qbnb (w:=wtS) h4 (by omega) (fun y h hw=>hw)⟩
  have hs:y.wt≤(x.L.map MVal.wt).sum:=qmvb hy
  exact ih y (by have:=qdv hy;omega) (h2.2 y hy) (by unfold wtL at hw;omega)
theorem MVal.bd_wt {N M:Nat}{x:MVal}(h:x.Bd M)(hw:x.wt≤N):x.Bd N:=qbzc _ x (Nat.le_refl _) h hw
theorem qwy {α:Type}{e0:α→List Cell}{b:α→Prop}{Γ:Ctx}{n:Nat}{t e:TypeId}{cs:List Cell}{r q:Ty}(h:WT Γ n t cs)(hr:Γ.ty t=some r)(hk:r.kd=.slice e)(hq:Γ.ty e=some q)
  (hh:∀ (m:Nat) (row:List Cell),m < n→WT Γ m e row→∃ x:α,row=e0 x∧b x):∃ xs:List α,cs=[encL q.size e0 xs]∧bdL Go.maxLen b xs:=by
 obtain⟨n,rfl⟩:=qph h
 simp only[WT,hr,hk] at h
 obtain⟨q',rows,h1,h2,h3,h4⟩:=h
 rw[hq] at h2
 simp only[Option.some.injEq] at h2
 subst h2
 obtain⟨xs,hxs,hb⟩:∃ xs:List α,rows=xs.map e0∧∀ x∈xs,b x:=by
  clear h1 h3
  induction rows with
  | nil=>exact⟨[],rfl,by simp⟩
  | cons row rows ih=>
   obtain⟨x,hx,hbx⟩:=hh n row (by omega) (h4 row (by simp))
   obtain⟨xs,h1,h2⟩:=ih fun r hr=>h4 r (by simp[hr])
   exact⟨x::xs,by rw[List.map_cons,hx,h1],fun y hy=>by
    rcases List.mem_cons.1 hy with rfl | hy
    ·exact hbx
    ·exact h2 y hy⟩
 subst hxs
 exact⟨xs,h1,by simpa using h3,hb⟩
theorem MVal.of_wt:∀ (n:Nat) (cs:List Cell),WT Γ0 n 25 cs→∃ x:MVal,cs=x.enc∧x.Bd maxLen:=by
 intro n
 induction n using Nat.strongRecOn with
 | ind n ih=>
 intro cs h
 obtain⟨n,rfl⟩:=qph h
 have h:=qhrb h (by kernel_rfl:Γ0.ty 25=some ty25) rfl
 simp only[List.map_cons,List.map_nil,WTs] at h
 obtain⟨a0,b0,e0,h0,a1,b1,e1,h1,a2,b2,e2,h2,a3,b3,e3,h3,a4,b4,e4,h4,e5⟩:=h
 obtain⟨x0,f0,g0⟩:=qbxc h0 (by kernel_rfl:Γ0.ty 3=some ty3) rfl
 obtain⟨x1,f1,g1⟩:=qbxc h1 (by kernel_rfl:Γ0.ty 3=some ty3) rfl
 obtain⟨x2,f2,g2⟩:=WT_str h2 (by kernel_rfl:Γ0.ty 9=some ty9) rfl
 obtain⟨x3,f3,g3⟩:=qwy (e0:=MVal.enc) (b:=(MVal.Bd maxLen)) h3 (by kernel_rfl:Γ0.ty 22=some ty22) rfl (by kernel_rfl:Γ0.ty 25=some ty25) (fun m r hm h=>ih m (by omega) r h)
 obtain⟨x4,f4,g4⟩:=qovb (e0:=eStr) (b:=(bdS maxLen)) h4 (by kernel_rfl:Γ0.ty 23=some ty23) rfl (by kernel_rfl:Γ0.ty 9=some ty9) (fun n r h=>WT_str h (by kernel_rfl:Γ0.ty 9=some ty9) rfl)
 refine⟨⟨x0,x1,x2,x3,x4⟩,?_,(bd_V _).2 ⟨g2,g3,g4⟩⟩
 rw[enc_V]
 subst f0 f1 f2 f3 f4
 rw[e0,e1,e2,e3,e4,e5]
 rfl
theorem qcqb (F:Nat)(hS:∀ xs:List MVal,fuVs xs≤F→bdL maxLen (MVal.Bd maxLen) xs→∀ (l:Int),0≤l→l≤1099511627776→∀ k,2*F+1≤k→evF qkw (k+2) qpc [.one (encL 5 MVal.enc xs),.one (Cell.int l)] []=some ([.one (Cell.int (szI (wtL MVal.wt xs) l))],[]))
  (x:MVal) (hf:fuVs x.L≤F) (hx:x.Bd maxLen) (l:Int) (h0:0≤l) (h1:l≤1099511627776) (k:Nat) (hk:2*F+2≤k):evF qkw (k+2) qhc [avV x,.one (Cell.int l)] []=some ([.one (Cell.int (szI x.wt l))],[]):=by
 obtain⟨b2,b3,b4⟩:=(bd_V x).1 hx
 have hM:=qak
 have k0:x.S.length≤maxLen:=b2
 obtain⟨k,rfl⟩:∃ j,k=j+1:=⟨k - 1,by omega⟩
 rw[fbs_eq]
 have q0:wtS x.S=x.S.length:=rfl
 simp only[fbs,wt_V x,EV0]
 rw[wrap_small (by omega) (by omega)]
 by_cases g0:(x.S.length:Int)≤l
 ·rw[decide_eq_false (by omega),cond_false]
  have e1:out (evF qkw (k+1+1) qpc) [.one (encL 5 MVal.enc x.L),.one (Cell.int (l - (x.S.length:Int)))]=some [.one (Cell.int (szI (wtL MVal.wt x.L) (l - (x.S.length:Int))))]:=qau (hS x.L hf b3 _ (by omega) (by omega) k (by omega))
  simp only[e1,EV0]
  by_cases g1:((wtL MVal.wt x.L:Nat):Int)≤l - (x.S.length:Int)
  ·rw[qpk g1,decide_eq_false (by omega),cond_false,c_fbr _ _ b4 (by omega) (by omega)]
   simp only[EV0,qptb]
   by_cases g2:((wtL wtS x.Keys:Nat):Int)≤l - (x.S.length:Int) - ((wtL MVal.wt x.L:Nat):Int)
   ·rw[if_pos g2,qpk g2,qpk (by omega)]
    congr 5
    omega
   ·rw[if_neg g2,qlr (by omega)]
  ·rw[qlr g1,decide_eq_true (by omega),cond_true,qlr (by omega)]
 ·rw[decide_eq_true (by omega),cond_true,qlr (by omega)]
theorem q_fbt:∀ (F:Nat) (xs:List MVal),fuVs xs≤F→bdL maxLen (MVal.Bd maxLen) xs→∀ (l:Int),0≤l→l≤1099511627776→∀ k,2*F+1≤k→evF qkw (k+2) qpc [.one (encL 5 MVal.enc xs),.one (Cell.int l)] []=some ([.one (Cell.int (szI (wtL MVal.wt xs) l))],[]):=by
 intro F
 induction F using Nat.strongRecOn with
 | ind F ih=>
 intro xs hf hx l h0 h1 R hR
 have hM:=qak
 have hxl:=hx.1
 have hlen:=qfp xs
 have loop:∀ (ys:List MVal) (i n:Nat) (l:Int),xs.drop i=ys→ys.length < n→0≤l→l≤1099511627776→∀ m,qrq (R+1) m n (encL 5 MVal.enc xs) l i=some ([.one (Cell.int (szI (ys.map MVal.wt).sum l))],[]):=by
  intro ys
  induction ys with
  | nil=>
   intro i n l hd hn h0 h1 m
   obtain⟨n,rfl⟩:∃ j,n=j+1:=⟨n - 1,by omega⟩
   have:=drop_nil hd
   simp only[qrq,qae,Option.bind_some]
   rw[decide_eq_false (by omega)]
   simp only[List.map_nil,List.sum_nil]
   rw[qzy h0,cond_false]
  | cons x ys ihy=>
   intro i n l hd hn h0 h1 m
   obtain⟨n,rfl⟩:∃ j,n=j+1:=⟨n - 1,by omega⟩
   obtain⟨hlt,hg,hd'⟩:=qas hd
   have hm:=List.mem_of_getElem? hg
   have hfx:=qdv hm
   obtain⟨R',rfl⟩:∃ j,R=j+1:=⟨R - 1,by omega⟩
   have e1:out (evF qkw (R'+1+1) qhc) [avV x,.one (Cell.int l)]=some [.one (Cell.int (szI x.wt l))]:=qau (qcqb (fuVs x.L) (fun ys h1 h2 l h3 h4 k h5=>ih (fuVs x.L) (by omega) ys h1 h2 l h3 h4 k h5) x (Nat.le_refl _) (hx.2 x hm) l h0 h1 R' (by omega))
   simp only[avV] at e1
   simp only[qrq,qae,qar,hg,enc_V x,e1,Nat.zero_add,Nat.reduceAdd,EV0]
   rw[decide_eq_true (by omega),cond_true]
   rw[qah (by omega)]
   simp only[List.map_cons,List.sum_cons]
   simp only[List.length_cons] at hn
   by_cases g:(((MVal.wt x):Nat):Int)≤l
   ·rw[qpk g,decide_eq_false (by omega),cond_false,ihy _ _ _ hd' (by omega) (by omega) (by omega),qtd g]
   ·rw[qlr g,decide_eq_true (by omega),cond_true,qmp g]
 rw[fbt_eq]
 simp only[fbt,qae,Option.bind_some]
 rw[wrap_small (by omega) (by omega)]
 by_cases g:(xs.length:Int)≤l
 ·rw[decide_eq_false (by omega),cond_false]
  have:=loop xs 0 (R+1) (l - xs.length) rfl (by omega) (by omega) (by omega) (R+1)
  simp only[Int.natCast_zero] at this
  rw[this,qtd g]
  rfl
 ·rw[decide_eq_true (by omega),cond_true]
  have:szI (wtL MVal.wt xs) l=-1:=qmp g
  rw[this]
theorem c_fbs (x:MVal)(l:Int)(hx:x.Bd maxLen)(h0:0≤l)(h1:l≤1099511627776):out qwh [.agg [Cell.int x.K,Cell.int x.N,Cell.str (bs x.S),encL 5 MVal.enc x.L,encL 1 eStr x.Keys],.one (Cell.int l)]=some [.one (Cell.int (szI x.wt l))]:=
 qau (qap (qcqb (fuVs x.L) (q_fbt (fuVs x.L)) x (Nat.le_refl _) hx l h0 h1 (2*fuVs x.L+2) (Nat.le_refl _)))
theorem Fresh.more {run:Run}{w:Bool}{n m:Nat}{args:List AV}{ts:List AT}(h:Fresh run w n args ts)(hm:n≤m)(h8:m≤4194306:=by omega):Fresh run w m args ts:=by
 obtain⟨_,xs,E,ids,h1,h2,h3⟩:=h
 refine⟨h8,xs,E,ids,h1,h2.mono fun i x t _ h=>?_,h3⟩
 cases x<;>cases t<;>first | exact h.elim | exact Rep.more h hm | exact Rep.more2 h hm
theorem qdhb (F:Nat)(hF:F≤1048576)(hS:∀ xs:List MVal,fuVs xs≤F→bdL 1048576 (MVal.Bd 1048576) xs→∀ R,2*F+1≤R→Fresh (evF qkp (R+2) qqh) true (F+2) [.one (encL 5 MVal.enc xs)] [.one (trL 5 MVal.tr xs)])
  (x:MVal) (hf:fuVs x.L≤F) (hx:x.Bd 1048576) (R:Nat) (hR:2*F+2≤R):Fresh (evF qkp (R+2) qhd) true (F+2) [avV x] [.agg x.tr]:=by
 obtain⟨b2,b3,b4⟩:=(bd_V x).1 hx
 obtain⟨R,rfl⟩:∃ j,R=j+1:=⟨R - 1,by omega⟩
 obtain⟨c1,E1,i1,e1,r1,w1,g1⟩:=qqwb (hS x.L hf b3 R (by omega)) ([]:List Entry) (qbh [.one (encL 5 MVal.enc x.L)] _ _)
 obtain⟨c2,E2,i2,e2,r2,w2,g2⟩:=qqwb (f_fbu x.Keys b4) (([]:List Entry)++E1) (qbh [.one (encL 1 eStr x.Keys)] _ _)
 have hs:Sp (Rep (([]:List Entry)++E1++E2) true true (F+2)) (i1++(i2++([]:List Nat))) [Cell.int x.K,Cell.int x.N,Cell.str (bs x.S),c1,c2] x.tr:=by
  rw[tr_V]
  exact(Sp.append (Sp.leafD (H:=([]:List Entry)++E1++E2) (w:=true) (q:=true) (n:=F+2) (by omega) (.int .i64 x.K)) (Sp.append (Sp.leafD (by omega) (.int .i64 x.N)) (Sp.append (Sp.leafD (by omega) (.string (bs x.S))) (Sp.append (Sp.one1 (Rep.app E2 r1)) (Sp.append (Sp.one1 (Rep.more (m:=F+2) r2 (by omega))) Sp.nil)))) :)
 have hw:Mine 0 (([]:List Entry)++E1++E2).length (i1++(i2++([]:List Nat))):=Mine.app w1 (Mine.app w2 (Mine.nil (Nat.le_refl _)))
 refine Fresh.agg ?_ hs hw.nd
 rw[fbv_eq]
 have e1:qdy (evF qkp (R+1+1) qqh) [.one (encL 5 MVal.enc x.L)] []=some ([.one c1],[]++E1):=e1
 simp only[fbv,e1,e2,EV0]
theorem q_fbw:∀ (F:Nat),F≤1048576→∀ (xs:List MVal),fuVs xs≤F→bdL 1048576 (MVal.Bd 1048576) xs→∀ R,2*F+1≤R→Fresh (evF qkp (R+2) qqh) true (F+2) [.one (encL 5 MVal.enc xs)] [.one (trL 5 MVal.tr xs)]:=by
 intro F
 induction F using Nat.strongRecOn with
 | ind F ih=>
 intro hF xs hf hb R hR
 have hxl:xs.length≤1048576:=hb.1
 have hM:=qak
 have hlen:=qfp xs
 refine qqk (sz:=5) (n:=F+1) (z:=[Cell.int 0,Cell.int 0,Cell.str (bs []),.lst true 5 [],.lst true 1 []]) rfl (by intro c hc;simp only[List.mem_cons,List.not_mem_nil,or_false] at hc;rcases hc with rfl | rfl | rfl | rfl | rfl<;>rfl) MVal.tr xs (fun m i H=>qsh (R+1) (R+1) m (encL 5 MVal.enc xs) (.vs 0 5 0 xs.length 0) i H) ?_ ?_ (R+1) (by omega) ?_
 ·intro m i x H hi hm hx hg
  have hfx:=qdv hm
  obtain⟨R',rfl⟩:∃ j,R=j+1:=⟨R - 1,by omega⟩
  obtain⟨cs,E,ids,e0,r0,w0,g0⟩:=qenb (qdhb (fuVs x.L) (by omega) (fun ys h1 h2 k h3=>ih (fuVs x.L) (by omega) (by omega) ys h1 h2 k h3) x (Nat.le_refl _) (hb.2 x hm) R' (by omega)) H (qbh [avV x] _ _)
  obtain⟨c3,c4,rfl⟩:=MVal.open r0
  have e0:qdy (evF qkp (R'+1+1) qhd) [.agg [Cell.int x.K,Cell.int x.N,Cell.str (bs x.S),encL 5 MVal.enc x.L,encL 1 eStr x.Keys]] H=_:=e0
  refine⟨_,E,ids,?_,rfl,Rep.more2 r0 (by omega),w0,g0 hg⟩
  simp only[qsh,qae,Option.bind_some,qar,hx,Option.map_some]
  rw[decide_eq_true (by omega),cond_true]
  simp only[qgk,Option.bind_some]
  rw[enc_V x]
  simp only[quu,qwn,qut,qll,qvc,qwk,Option.bind_some,Nat.zero_add]
  rw[e0]
  simp only[Option.bind_some]
  refine qbc rfl ?_
  simp only[qnb,qmv,quu,qwn,qut,qll,qvc,qwk,Option.bind_some]
  rw[qou _ _ _ _ _ hi,qah (by omega),Option.bind_some]
 ·intro m H
  simp only[qsh,qae,Option.bind_some]
  rw[decide_eq_false (by omega),cond_false]
 ·intro r hr
  rw[fbw_eq]
  simp only[fbw,qae,Option.bind_some]
  rw[if_pos (by unfold bound;refine⟨?_,?_,?_,?_⟩<;>omega)]
  exact hr
theorem qdmc (x:MVal)(hx:x.Bd 1048576)(hw:x.wt≤1048576):Fresh qjh true 2097152 [.agg [Cell.int x.K,Cell.int x.N,Cell.str (bs x.S),encL 5 MVal.enc x.L,encL 1 eStr x.Keys]] [.agg x.tr]:=by
 have hF:fuVs x.L≤1048576:=by
  have h1:=qogb x.L
  rw[wt_V] at hw
  omega
 have h:=qdhb (fuVs x.L) hF (fun ys h1 h2 R h3=>q_fbw (fuVs x.L) hF ys h1 h2 R h3) x (Nat.le_refl _) hx (2*fuVs x.L+2) (Nat.le_refl _)
 obtain⟨h8,xs,E,ids,h1,h2,h3⟩:=h
 exact Fresh.more ⟨h8,xs,E,ids,qap h1,h2,h3⟩ (by omega)
def quub (b:UInt8):Bool:=inR b.toNat 32 126||(b==10||b==9)
def qkj (s:Str):Bool:=s.all quub&&decide (s.length≤60)
def qlt (x:MVal):Bool:=x.L.length==0&&x.Keys.length==0
def qjq (x:MVal):Bool:=cond (x.K==0) (qlt x&&(x.N==0&&x.S==[])) (cond (x.K==1) (qlt x&&(inR x.N 0 1&&x.S==[])) (cond (x.K==2) (qlt x&&(inR x.N (-999999) 999999&&x.S==[])) (cond (x.K==3) (qlt x&&(x.N==0&&qkj x.S)) (cond (x.K==4) (x.N==0&&(x.S==[]&&x.Keys.length==0)) (cond (x.K==5) (x.N==0&&(x.S==[]&&(x.Keys.length==x.L.length&&(asc x.Keys&&x.Keys.all qkj)))) false)))))
theorem qks (b:UInt8):out qqc [.one (.sc (.int .u8 (b.toNat:Int)))]=some [.one (Cell.bool (inR b.toNat 32 126))]:=by
 refine qau (H:=[]) (qemb 0 ?_)
 simp only[fao,inR]
 by_cases h:(32:Int)≤b.toNat
 ·rw[decide_eq_true (by omega:(b.toNat:Int)≥32),cond_true,Bool.true_and]
 ·rw[decide_eq_false (by omega:¬ (b.toNat:Int)≥32),cond_false,Bool.false_and]
theorem c_faq (b:UInt8):out qol [.one (.sc (.int .u8 (b.toNat:Int)))]=some [.one (Cell.bool (quub b))]:=by
 have h1:=qmf b 10 (by omega)
 have h2:=qmf b 9 (by omega)
 rw[show((10:Nat):Int)=10 from rfl] at h1
 rw[show((9:Nat):Int)=9 from rfl] at h2
 refine qau (H:=[]) (qcvb 0 ?_)
 simp only[faq,qks,h1,h2,EV0]
 unfold quub
 have h3:(UInt8.ofNat 10)=10:=rfl
 have h4:(UInt8.ofNat 9)=9:=rfl
 rw[h3,h4]
 cases inR (b.toNat:Int) 32 126<;>cases b==10<;>cases b==9<;>rfl
theorem c_faw (s:Str)(hs:s.length≤1073741824):out qjw [.one (Cell.str (bs s))]=some [.one (Cell.bool (qkj s))]:=by
 have hM:=qak
 refine qau (H:=[]) (qdub (s.length+1) ?_)
 unfold qkj
 simp only[faw]
 rw[qdi s (fun n i=>qrb (s.length+1+1) (s.length+1+1) n (bs s) i) quub (some ([.one (Cell.bool (decide (s.length≤60)))],[])) (some ([.one (Cell.bool false)],[])) ?_ ?_ _ (by omega)]
 ·exact qjeb _ _ _
 ·intro n i x hx hlt
  simp only[qrb,qei,hx,c_faq,EV0]
  rw[decide_eq_true (by omega),cond_true,qah (by omega)]
  cases quub x<;>rfl
 ·intro n
  simp only[qrb,qbo]
  rw[decide_eq_false (by omega),cond_false,show decide ((s.length:Int)≤60)=decide (s.length≤60) from n_le s.length 60]
theorem c_fcm (s:Str)(hs:s.length≤1073741824):out qat [.one (Cell.str (bs s))]=some [.one (Cell.bool (qkj s))]:=by
 have hM:=qak
 refine qau (H:=[]) (qzj (s.length+1) ?_)
 unfold qkj
 simp only[fcm]
 rw[qdi s (fun n i=>qnm (s.length+1+1) (s.length+1+1) n (bs s) i) quub (some ([.one (Cell.bool (decide (s.length≤60)))],[])) (some ([.one (Cell.bool false)],[])) ?_ ?_ _ (by omega)]
 ·exact qjeb _ _ _
 ·intro n i x hx hlt
  have hu:=u8_lt x
  have h1:=qdsc x 10 (by omega)
  have h2:=qdsc x 9 (by omega)
  rw[show((10:Nat):Int)=10 from rfl] at h1
  rw[show((9:Nat):Int)=9 from rfl] at h2
  have h3:(UInt8.ofNat 10)=10:=rfl
  have h4:(UInt8.ofNat 9)=9:=rfl
  rw[h3] at h1
  rw[h4] at h2
  simp only[qnm,qei,hx,wrap_small (n:=(x.toNat:Int)) (by omega) (by omega),qepb,h1,h2,EV0]
  rw[decide_eq_true (by omega),cond_true,qah (by omega)]
  unfold quub
  simp only[bne]
  cases inR (x.toNat:Int) 32 126<;>cases x==10<;>cases x==9<;>rfl
 ·intro n
  simp only[qnm,qbo]
  rw[decide_eq_false (by omega),cond_false,show decide ((s.length:Int)≤60)=decide (s.length≤60) from n_le s.length 60]
theorem c_fam (s:Str)(hs:s.length≤1073741824):out qio [.one (Cell.str (bs s))]=some [.one (Cell.bool (!qkj s))]:=by
 refine qau (H:=[]) (qbeb 0 ?_)
 simp only[fam,c_faw s hs,EV0]
theorem qnzb (xs:List Str)(hx:bdL 1048576 (bdS 1048576) xs):qld [.one (qbt xs),.one (.fn qco [] [])] []=some ([.one (Cell.bool (!xs.all qkj))],[]):=by
 have hM:=qak
 have hxl:=hx.1
 have loop:∀ (r:List Str) (i n:Nat),xs.drop i=r→r.length < n→∀ k m,∃ j:Int,qal k m n (qbt xs) xs.length i []=some ([.one (Cell.int j)],[])∧decide (j≥0)=!r.all qkj:=by
  intro r
  induction r with
  | nil=>
   intro i n hd hn k m
   obtain⟨n,rfl⟩:∃ j,n=j+1:=⟨n - 1,by omega⟩
   have:=drop_nil hd
   refine⟨-1,?_,rfl⟩
   simp only[qal]
   rw[decide_eq_false (by omega),cond_false]
  | cons x r ih=>
   intro i n hd hn k m
   obtain⟨n,rfl⟩:∃ j,n=j+1:=⟨n - 1,by omega⟩
   obtain⟨hlt,hg,hd'⟩:=qas hd
   simp only[List.length_cons] at hn
   have hb:x.length≤1048576:=hx.2 x (List.mem_of_getElem? hg)
   simp only[qal]
   rw[decide_eq_true (by omega),cond_true]
   simp only[qar,hg,eStr,c_fam x (by omega),qah (show i < maxLen by omega),List.all_cons,EV0]
   cases hv:qkj x with
   | true=>exact ih (i+1) n hd' (by omega) k m
   | false=>exact⟨i,rfl,by rw[decide_eq_true (by omega)];rfl⟩
 obtain⟨j,h1,h2⟩:=loop xs 0 (xs.length+1+1) rfl (by omega) (xs.length+1+1) (xs.length+1+1)
 have e1:qon [.one (qbt xs),.one (.fn qco [] [])] []=some ([.one (Cell.int j)],[]):=by
  refine qcd (xs.length+1) ?_
  simp only[qaw,qae,Option.bind_some]
  exact h1
 refine qbw 0 ?_
 simp only[qba,e1,h2,EV0]
theorem qgj (a b:Nat):(((a:Nat):Int)==((b:Nat):Int))=(a==b):=by
 rw[Bool.eq_iff_iff]
 simp only[beq_iff_eq]
 omega
theorem qyo (a:Nat):(((a:Nat):Int)==0)=(a==0):=qgj a 0
theorem c_fai (x:MVal)(hx:x.Bd 1048576):out qpe [avV x]=some [.one (Cell.bool (qjq x))]:=by
 obtain⟨b2,b3,b4⟩:=(bd_V x).1 hx
 have hsl:x.S.length≤1048576:=b2
 have hkl:=b4.1
 refine qau (H:=[]) (qdlb 0 ?_)
 simp only[fai,qae,Option.bind_some,qyo,qgj,qbq]
 unfold qjq qlt
 have e1:=c_faw x.S (by omega)
 have e2:=c_fak x.Keys (by omega)
 have e3:=qnzb x.Keys b4
 have nn:∀ b:Bool,(!!b)=b:=Bool.not_not
 cases a0:(x.L.length==0)<;>cases h0:(x.K==0)<;>try (cases h1:(x.K==1)<;>try (cases h2:(x.K==2)<;>try (cases h3:(x.K==3)<;>try (cases h4:(x.K==4)<;>try cases h5:(x.K==5)))))
 all_goals simp only[cond_true,cond_false,e1,e2,e3,qnbb,nn,Bool.false_and,Bool.true_and,EV0]
 all_goals first | rfl | skip
 all_goals (cases (x.Keys.length==0)<;>cases (x.N==0)<;>cases (x.S==[])<;>first | rfl | skip)
 all_goals first | (cases (inR x.N 0 1)<;>rfl) | (cases (inR x.N (-999999) 999999)<;>rfl) | (cases (qkj x.S)<;>rfl) | (cases (x.Keys.length==x.L.length)<;>cases (asc x.Keys)<;>cases (x.Keys.all qkj)<;>rfl)
def qkc:Option Str→List Str→Bool | _,[]=>true | p,k::r=>qkj k&&((match p with | none=>true | some p=>lt p k)&&qkc (some k) r)
theorem qyi:∀ (r:List Str) (p:Str),qkc (some p) r=(asc (p::r)&&r.all qkj):=by
 intro r
 induction r with
 | nil=>intro p;rfl
 | cons k r ih=>
  intro p
  simp only[qkc,ih,asc,List.all_cons]
  cases qkj k<;>cases lt p k<;>cases asc (k::r)<;>rfl
theorem qwr (r:List Str):qkc none r=(asc r&&r.all qkj):=by
 cases r with
 | nil=>rfl
 | cons k r=>
  simp only[qkc,qyi,List.all_cons]
  cases qkj k<;>cases asc (k::r)<;>rfl
theorem qhy (x:MVal)(hx:x.Bd 1048576)(K:Int):∀ (r:List Str) (i n:Nat),x.Keys.drop i=r→r.length < n→∀ k m,qbf k m n i K x.N (bs x.S) (encL 5 MVal.enc x.L) (qbt x.Keys)=some ([.one (Cell.bool (qkc (if i=0 then none else x.Keys[i - 1]?) r&&(x.N==0&&x.Keys.length==x.L.length)))],[]):=by
 obtain⟨b2,b3,b4⟩:=(bd_V x).1 hx
 have hM:=qak
 have hkl:=b4.1
 intro r
 induction r with
 | nil=>
  intro i n hd hn k m
  obtain⟨n,rfl⟩:∃ j,n=j+1:=⟨n - 1,by omega⟩
  have:=drop_nil hd
  simp only[qbf,qae,Option.bind_some,qgj,qkc,Bool.true_and]
  rw[decide_eq_false (by omega),cond_false]
  cases x.N==0<;>rfl
 | cons s r ih=>
  intro i n hd hn k m
  obtain⟨n,rfl⟩:∃ j,n=j+1:=⟨n - 1,by omega⟩
  obtain⟨hlt,hg,hd'⟩:=qas hd
  simp only[List.length_cons] at hn
  have hb:s.length≤1048576:=b4.2 s (List.mem_of_getElem? hg)
  have hih:=ih (i+1) n hd' (by omega) k m
  rw[if_neg (by omega),Nat.add_sub_cancel,hg] at hih
  simp only[qbf,qae,qar,hg,eStr,c_fcm s (by omega),qah (show i < maxLen by omega),EV0]
  rw[decide_eq_true (by omega),cond_true,hih]
  cases i with
  | zero=>
   rw[decide_eq_false (by omega),cond_false]
   simp only[qkc,if_true]
   cases qkj s<;>cases qkc (some s) r<;>rfl
  | succ i=>
   obtain⟨p,hp⟩:∃ p,x.Keys[i]?=some p:=⟨x.Keys[i]'(by omega),List.getElem?_eq_getElem _⟩
   rw[decide_eq_true (by omega),cond_true,qng (by omega),if_neg (by omega),Nat.add_sub_cancel,hp]
   simp only[qar,hp,eStr,bl_eq,EV0,qkc]
   cases qkj s<;>cases lt p s<;>cases qkc (some s) r<;>rfl
theorem c_fcl (x:MVal)(hx:x.Bd 1048576):out qof [avV x]=some [.one (Cell.bool (qjq x))]:=by
 have hb:=(bd_V x).1 hx
 obtain⟨b2,b3,b4⟩:=hb
 have hsl:x.S.length≤1048576:=b2
 refine qau (H:=[]) (qclb (x.Keys.length+1) ?_)
 have q1:=c_fcm x.S (by omega)
 have q2:=qhy x hx x.K x.Keys 0 (x.Keys.length+1+1) rfl (by omega) (x.Keys.length+1+1) (x.Keys.length+1+1)
 rw[if_pos rfl,qwr] at q2
 have g1:∀ a:Nat,decide (((a:Nat):Int) > 0)=!(a==0):=fun a=>by
  rw[Bool.eq_iff_iff]
  simp only[decide_eq_true_eq,Bool.not_eq_true',beq_eq_false_iff_ne]
  omega
 have hv:(x.S==[])=true→qkj x.S=true:=fun h=>by
  rw[show x.S=[] by simpa using h]
  rfl
 have q2':qbf (x.Keys.length+1+1) (x.Keys.length+1+1) (x.Keys.length+1+1) 0 x.K x.N (bs x.S) (encL 5 MVal.enc x.L) (qbt x.Keys)=_:=q2
 unfold qjq qlt
 by_cases h0:x.K=0
 ·rw[h0] at q2' ⊢
  simp only[fcl,Int.reduceBEq,Int.reduceBNe,g1,q1,EV0]
  cases hs:x.S==[]<;>cases x.Keys.length==0<;>cases x.L.length==0<;>cases x.N==0<;>first | rfl | (rw[hv hs];rfl)
 by_cases h1:x.K=1
 ·rw[h1] at q2' ⊢
  simp only[fcl,Int.reduceBEq,Int.reduceBNe,g1,qepb,EV0]
  cases hs:x.S==[]<;>cases x.Keys.length==0<;>cases x.L.length==0<;>cases inR x.N 0 1<;>rfl
 by_cases h2:x.K=2
 ·rw[h2] at q2' ⊢
  simp only[fcl,Int.reduceBEq,Int.reduceBNe,g1,qepb,EV0]
  cases hs:x.S==[]<;>cases x.Keys.length==0<;>cases x.L.length==0<;>cases inR x.N (-999999) 999999<;>rfl
 by_cases h3:x.K=3
 ·rw[h3] at q2' ⊢
  simp only[fcl,Int.reduceBEq,Int.reduceBNe,g1,q1,EV0]
  cases x.Keys.length==0<;>cases x.L.length==0<;>cases x.N==0<;>cases qkj x.S<;>rfl
 by_cases h4:x.K=4
 ·rw[h4] at q2' ⊢
  simp only[fcl,Int.reduceBEq,Int.reduceBNe,g1,q1,EV0]
  cases hs:x.S==[]<;>cases x.Keys.length==0<;>cases x.N==0<;>first | rfl | (rw[hv hs];rfl)
 by_cases h5:x.K=5
 ·rw[h5] at q2' ⊢
  simp only[fcl,Int.reduceBEq,Int.reduceBNe,g1,q2',EV0]
  cases hs:x.S==[]<;>cases x.N==0<;>cases x.Keys.length==x.L.length<;>cases asc x.Keys<;>cases x.Keys.all qkj<;>rfl
 ·have k0:(x.K==0)=false:=by simpa using h0
  have k1:(x.K==1)=false:=by simpa using h1
  have k2:(x.K==2)=false:=by simpa using h2
  have k3:(x.K==3)=false:=by simpa using h3
  have k4:(x.K==4)=false:=by simpa using h4
  have k5:(x.K==5)=false:=by simpa using h5
  simp only[fcl,bne,k0,k1,k2,k3,k4,k5,Bool.not_false,g1,EV0]
  cases hs:x.S==[]<;>cases x.Keys.length==0<;>cases x.L.length==0<;>rfl
mutual
def MVal.meas:MVal→Nat→Nat
 | ⟨K,N,S,L,Keys⟩,d=>if 6 < d then 81 else if qjq ⟨K,N,S,L,Keys⟩=true then measVs L (d+1) 1 else 81
def measVs:List MVal→Nat→Nat→Nat
 | [],_,n=>n
 | x::xs,d,n=>if 80 < n+x.meas d then 81 else measVs xs d (n+x.meas d)
end
theorem qkfb (x:MVal)(d:Nat):x.meas d=if 6 < d then 81 else if qjq x=true then measVs x.L (d+1) 1 else 81:=by
 obtain⟨K,N,S,L,Keys⟩:=x
 rw[MVal.meas]
theorem qmcb:∀ (xs:List MVal) (d n:Nat),n≤81→measVs xs d n≤81:=by
 intro xs
 induction xs with
 | nil=>intro d n h;rw[measVs];exact h
 | cons x xs ih=>
  intro d n h
  rw[measVs]
  split
  ·omega
  ·exact ih d _ (by omega)
theorem qccc (x:MVal)(d:Nat):x.meas d≤81:=by
 rw[qkfb]
 split
 ·omega
 ·split
  ·exact qmcb _ _ _ (by omega)
  ·omega
def qeqb (x:MVal):Bool:=decide (x.meas 1≤80)
theorem qmj:∀ (F:Nat) (x:MVal),fuVs x.L≤F→x.Bd 1048576→∀ (d:Nat),d≤7→∀ R,F≤R→evF qzb (R+2) qgx [avV x,.one (Cell.int d)] []=some ([.one (Cell.int (x.meas d))],[]):=by
 intro F
 induction F using Nat.strongRecOn with
 | ind F ihF=>
 intro x hf hx d hd R hR
 have hM:=qak
 obtain⟨b2,b3,b4⟩:=(bd_V x).1 hx
 have hxl:=b3.1
 have hlen:=qfp x.L
 have e1:=c_fai x hx
 rw[fah_eq,qkfb]
 by_cases h6:6 < d
 ·rw[if_pos h6]
  simp only[fah]
  rw[decide_eq_true (by omega),cond_true]
  rfl
 rw[if_neg h6]
 simp only[fah]
 rw[decide_eq_false (by omega),cond_false]
 simp only[avV] at e1
 simp only[e1,qae,EV0]
 cases hp:qjq x with
 | false=>rfl
 | true=>
  rw[Bool.not_true,cond_false,if_pos rfl]
  have loop:∀ (r:List MVal) (i n c:Nat),x.L.drop i=r→r.length < n→c≤80→∀ m,qrd (R+1) m n d c (encL 5 MVal.enc x.L) x.L.length i=some ([.one (Cell.int (measVs r (d+1) c))],[]):=by
   intro r
   induction r with
   | nil=>
    intro i n c hdr hn hc m
    obtain⟨n,rfl⟩:∃ j,n=j+1:=⟨n - 1,by omega⟩
    have:=drop_nil hdr
    simp only[qrd]
    rw[decide_eq_false (by omega),cond_false,measVs]
   | cons y r ih=>
    intro i n c hdr hn hc m
    obtain⟨n,rfl⟩:∃ j,n=j+1:=⟨n - 1,by omega⟩
    obtain⟨hlt,hg,hd'⟩:=qas hdr
    simp only[List.length_cons] at hn
    have hm:=List.mem_of_getElem? hg
    have hfy:=qdv hm
    have hle:=qccc y (d+1)
    obtain⟨R',rfl⟩:∃ j,R=j+1:=⟨R - 1,by omega⟩
    have e2:out (evF qzb (R'+1+1) qgx) [avV y,.one (Cell.int ((d+1:Nat):Int))]=some [.one (Cell.int (y.meas (d+1)))]:=qau (ihF (fuVs y.L) (by omega) y (Nat.le_refl _) (b3.2 y hm) (d+1) (by omega) R' (by omega))
    simp only[avV] at e2
    simp only[qrd]
    rw[decide_eq_true (by omega),cond_true]
    simp only[qar,hg,enc_V y,qah (show d < maxLen by omega),e2,Nat.zero_add,Nat.reduceAdd,EV0]
    rw[wrap_small (n:=(c:Int)+(y.meas (d+1):Int)) (by omega) (by omega),measVs]
    by_cases h80:80 < c+y.meas (d+1)
    ·rw[decide_eq_true (by omega),cond_true,if_pos h80]
     rfl
    ·rw[decide_eq_false (by omega),cond_false,if_neg h80,qah (by omega)]
     have:=ih (i+1) n (c+y.meas (d+1)) hd' (by omega) (by omega) m
     rw[← this]
     rfl
  have:=loop x.L 0 (R+1) 1 rfl (by omega) (by omega) (R+1)
  exact this
theorem c_faf (x:MVal)(hx:x.Bd 1048576):out qpq [avV x]=some [.one (Cell.bool (qeqb x))]:=by
 have e1:out qur [avV x,.one (Cell.int 1)]=some [.one (Cell.int (x.meas 1))]:=qau (qap (qmj (fuVs x.L) x (Nat.le_refl _) hx 1 (by omega) (fuVs x.L) (Nat.le_refl _)))
 refine qau (H:=[]) (qbqb 0 ?_)
 simp only[avV] at e1
 simp only[faf,e1,EV0]
 rw[show decide (((x.meas 1:Nat):Int)≤80)=decide (x.meas 1≤80) from n_le _ 80]
 rfl
def qmnb (v m:Nat):Prop:=(v≤80∧v=m)∨(80 < v∧m=81)
theorem q_fck:∀ (F:Nat) (x:MVal),fuVs x.L≤F→x.Bd 1048576→∀ (d:Nat),d≤7→∀ R,F≤R→∃ v:Nat,evF qxu (R+2) qha [avV x,.one (Cell.int d)] []=some ([.one (Cell.int v)],[])∧qmnb v (x.meas d)∧v≤100+80*(7 - d):=by
 intro F
 induction F using Nat.strongRecOn with
 | ind F ihF=>
 intro x hf hx d hd R hR
 have hM:=qak
 obtain⟨b2,b3,b4⟩:=(bd_V x).1 hx
 have hxl:=b3.1
 have hlen:=qfp x.L
 have e1:=c_fcl x hx
 rw[fck_eq,qkfb]
 by_cases h6:6 < d
 ·rw[if_pos h6]
  refine⟨100,?_,.inr ⟨by omega,rfl⟩,by omega⟩
  simp only[fck]
  rw[decide_eq_true (by omega),cond_true]
  rfl
 rw[if_neg h6]
 simp only[fck]
 rw[decide_eq_false (by omega),cond_false]
 simp only[avV] at e1
 simp only[e1,EV0]
 cases hp:qjq x with
 | false=>exact⟨100,rfl,.inr ⟨by omega,rfl⟩,by omega⟩
 | true=>
  rw[Bool.not_true,cond_false,if_pos rfl]
  have loop:∀ (r:List MVal) (i n c:Nat),x.L.drop i=r→r.length < n→c≤80→∀ m,∃ v:Nat,qjv (R+1) m n d c i x.K x.N (bs x.S) (encL 5 MVal.enc x.L) (encL 1 eStr x.Keys)=some ([.one (Cell.int v)],[])∧qmnb v (measVs r (d+1) c)∧v≤100+80*(7 - d):=by
   intro r
   induction r with
   | nil=>
    intro i n c hdr hn hc m
    obtain⟨n,rfl⟩:∃ j,n=j+1:=⟨n - 1,by omega⟩
    have:=drop_nil hdr
    refine⟨c,?_,.inl ⟨hc,by rw[measVs]⟩,by omega⟩
    simp only[qjv,qae,Option.bind_some]
    rw[decide_eq_false (by omega),cond_false]
   | cons y r ih=>
    intro i n c hdr hn hc m
    obtain⟨n,rfl⟩:∃ j,n=j+1:=⟨n - 1,by omega⟩
    obtain⟨hlt,hg,hd'⟩:=qas hdr
    simp only[List.length_cons] at hn
    have hm:=List.mem_of_getElem? hg
    have hfy:=qdv hm
    obtain⟨R',rfl⟩:∃ j,R=j+1:=⟨R - 1,by omega⟩
    obtain⟨v,z1,z2,z3⟩:=ihF (fuVs y.L) (by omega) y (Nat.le_refl _) (b3.2 y hm) (d+1) (by omega) R' (by omega)
    have e2:out (evF qxu (R'+1+1) qha) [avV y,.one (Cell.int ((d+1:Nat):Int))]=some [.one (Cell.int v)]:=qau z1
    simp only[avV] at e2
    have hstep:∀ v',qjv (R'+1+1) m n d ((c+v:Nat):Int) ((i+1:Nat):Int) x.K x.N (bs x.S) (encL 5 MVal.enc x.L) (encL 1 eStr x.Keys)=some ([.one (Cell.int v')],[])→qjv (R'+1+1) m (n+1) d c i x.K x.N (bs x.S) (encL 5 MVal.enc x.L) (encL 1 eStr x.Keys)=some ([.one (Cell.int v')],[]):=fun v' hv=>by
     rw[← hv]
     rw[qjv]
     simp only[qae,Option.bind_some]
     rw[decide_eq_true (by omega),cond_true,decide_eq_true (by omega),cond_true]
     simp only[qar,hg,enc_V y,qah (show d < maxLen by omega),e2,Nat.zero_add,Nat.reduceAdd,EV0]
     rw[wrap_small (n:=(c:Int)+(v:Int)) (by omega) (by omega),qah (by omega)]
     rfl
    rw[measVs]
    rcases z2 with⟨y1,y2⟩ | ⟨y1,y2⟩
    ·by_cases h80:80 < c+y.meas (d+1)
     ·rw[if_pos h80]
      refine⟨c+v,hstep _ ?_,.inr ⟨by omega,rfl⟩,by omega⟩
      obtain⟨n,rfl⟩:∃ j,n=j+1:=⟨n - 1,by omega⟩
      simp only[qjv,qae,Option.bind_some]
      rw[decide_eq_false (p:=((c+v:Nat):Int)≤80) (by omega),cond_false]
      cases decide (((i+1:Nat):Int) < (x.L.length:Int))<;>rfl
     ·rw[if_neg h80]
      obtain⟨v',w1,w2,w3⟩:=ih (i+1) n (c+v) hd' (by omega) (by omega) m
      exact⟨v',hstep _ w1,by rw[← y2];exact w2,w3⟩
    ·rw[if_pos (by omega)]
     refine⟨c+v,hstep _ ?_,.inr ⟨by omega,rfl⟩,by omega⟩
     obtain⟨n,rfl⟩:∃ j,n=j+1:=⟨n - 1,by omega⟩
     simp only[qjv,qae,Option.bind_some]
     rw[decide_eq_false (p:=((c+v:Nat):Int)≤80) (by omega),cond_false]
     cases decide (((i+1:Nat):Int) < (x.L.length:Int))<;>rfl
  exact loop x.L 0 (R+1) 1 rfl (by omega) (by omega) (R+1)
theorem c_fce (x:MVal)(hx:x.Bd 1048576):out qpa [avV x]=some [.one (Cell.bool (qeqb x))]:=by
 obtain⟨v,z1,z2,z3⟩:=q_fck (fuVs x.L) x (Nat.le_refl _) hx 1 (by omega) (fuVs x.L) (Nat.le_refl _)
 have e1:out qwl [avV x,.one (Cell.int 1)]=some [.one (Cell.int v)]:=qau (qap z1)
 refine qau (H:=[]) (qafb 0 ?_)
 simp only[avV] at e1
 simp only[fce,e1,EV0]
 have:decide ((v:Int)≤80)=qeqb x:=by
  unfold qeqb
  rw[decide_eq_decide]
  rcases z2 with⟨h1,h2⟩ | ⟨h1,h2⟩<;>omega
 rw[this]
def qgt (v:MVal):List Str×Bool:=if v.L.all (fun x=>x.K==3) then (v.L.map (·.S),v.K==4) else ([],false)
def qel (b:Bool):List Str→List MVal→List Str×Bool | acc,[]=>(acc,b) | acc,x::r=>if x.K==3 then qel b (acc++[x.S]) r else ([],false)
theorem qaab (b:Bool):∀ (r:List MVal) (acc:List Str),qel b acc r=if r.all (fun x=>x.K==3) then (acc++r.map (·.S),b) else ([],false):=by
 intro r
 induction r with
 | nil=>intro acc;simp[qel]
 | cons x r ih=>
  intro acc
  rw[qel,List.all_cons]
  cases h:x.K==3 with
  | true=>rw[if_pos rfl,ih,Bool.true_and];simp
  | false=>rw[if_neg (by simp),Bool.false_and,if_neg (by simp)]
theorem qtm (v:MVal):qgt v=qel (v.K==4) [] v.L:=by rw[qaab];rfl
theorem f_fau (v:MVal)(hv:v.Bd 1048576):Fresh qjc true 2 [avV v] [.one (trL 1 qcm (qgt v).1),.one (.leaf (.bool (qgt v).2))]:=by
 have hM:=qak
 obtain⟨b2,b3,b4⟩:=(bd_V v).1 hv
 have hxl:=b3.1
 have loop:∀ (r:List MVal) (i n:Nat) (acc:List Str) (c:Cell) (H:List Entry),v.L.drop i=r→r.length < n→acc.length≤i→Grow 1 c H (acc.map eStr)→∀ k m,
   ∃ c' H' ids,qrl k m n c (encL 5 MVal.enc v.L) v.L.length i v.K v.N (bs v.S) (encL 5 MVal.enc v.L) (encL 1 eStr v.Keys) H=some ([.one c',.one (Cell.bool (qel (v.K==4) acc r).2)],H')∧Rep H' true true 2 ids c' (trL 1 qcm (qel (v.K==4) acc r).1)∧ids.Nodup:=by
  intro r
  induction r with
  | nil=>
   intro i n acc c H hd hn ha hg k m
   obtain⟨n,rfl⟩:∃ j,n=j+1:=⟨n - 1,by omega⟩
   have:=drop_nil hd
   obtain⟨ids,r1,r2,_⟩:=hg.rep (tr:=qcm) (fun _ _=>rfl) (fun x _ H'=>Sp.leaf1 _)
   refine⟨c,H,ids,?_,r1,r2⟩
   simp only[qrl]
   rw[decide_eq_false (by omega),cond_false]
   rfl
  | cons x r ih=>
   intro i n acc c H hd hn ha hg k m
   obtain⟨n,rfl⟩:∃ j,n=j+1:=⟨n - 1,by omega⟩
   obtain⟨hlt,hx,hd'⟩:=qas hd
   simp only[List.length_cons] at hn
   simp only[qrl]
   rw[decide_eq_true (by omega),cond_true]
   simp only[qar,hx,enc_V x,qah (show i < maxLen by omega),bne,Nat.zero_add,Nat.reduceAdd,EV0]
   rw[qel]
   cases h:x.K==3 with
   | false=>
    rw[if_neg (by simp)]
    exact⟨_,H,[],rfl,.inl ⟨rfl,rfl,true,rfl⟩,by simp⟩
   | true=>
    rw[if_pos rfl]
    obtain⟨q,a1,a2⟩:=hg.app (by':=16) [[Cell.str (bs x.S)]] (by unfold bound;simp;omega) (by unfold bound;simp;omega)
    simp only[Bool.not_true,cond_false,a1,Option.bind_some]
    exact ih (i+1) n (acc++[x.S]) q.1 q.2 hd' (by omega) (by simp;omega) (by simpa[eStr] using a2) k m
 obtain⟨c',H',ids,z1,z2,z3⟩:=loop v.L 0 (v.L.length+1+1) [] (.lst true 1 []) [] rfl (by omega) (by simp) (Grow.nil 1) (v.L.length+1+1) (v.L.length+1+1)
 rw[qtm]
 refine Fresh.one1 (n:=1) (qasb (v.L.length+1) ?_) z2 z3
 simp only[fau,qae,Option.bind_some]
 exact z1
theorem f_fcr (v:MVal)(hv:v.Bd 1048576):Fresh qno true 2 [avV v] [.one (trL 1 qcm (qgt v).1),.one (.leaf (.bool (qgt v).2))]:=by
 have hM:=qak
 obtain⟨b2,b3,b4⟩:=(bd_V v).1 hv
 have hxl:=b3.1
 have loop:∀ (r:List MVal) (i n:Nat) (acc:List Str) (c:Cell) (H:List Entry),v.L.drop i=r→r.length < n→acc.length≤i→Grow 1 c H (acc.map eStr)→∀ k m,
   ∃ c' H' ids,qrt k m n c i v.K v.N (bs v.S) (encL 5 MVal.enc v.L) (encL 1 eStr v.Keys) H=some ([.one c',.one (Cell.bool (qel (v.K==4) acc r).2)],H')∧Rep H' true true 2 ids c' (trL 1 qcm (qel (v.K==4) acc r).1)∧ids.Nodup:=by
  intro r
  induction r with
  | nil=>
   intro i n acc c H hd hn ha hg k m
   obtain⟨n,rfl⟩:∃ j,n=j+1:=⟨n - 1,by omega⟩
   have:=drop_nil hd
   obtain⟨ids,r1,r2,_⟩:=hg.rep (tr:=qcm) (fun _ _=>rfl) (fun x _ H'=>Sp.leaf1 _)
   refine⟨c,H,ids,?_,r1,r2⟩
   simp only[qrt,qae,Option.bind_some]
   rw[decide_eq_false (by omega),cond_false]
   rfl
  | cons x r ih=>
   intro i n acc c H hd hn ha hg k m
   obtain⟨n,rfl⟩:∃ j,n=j+1:=⟨n - 1,by omega⟩
   obtain⟨hlt,hx,hd'⟩:=qas hd
   simp only[List.length_cons] at hn
   simp only[qrt,qae,Option.bind_some]
   rw[decide_eq_true (by omega),cond_true]
   simp only[qar,hx,enc_V x,qblb,qah (show i < maxLen by omega),bne,Nat.zero_add,Nat.reduceAdd,EV0]
   rw[qel]
   cases h:x.K==3 with
   | false=>
    rw[if_neg (by simp)]
    exact⟨_,H,[],rfl,.inl ⟨rfl,rfl,true,rfl⟩,by simp⟩
   | true=>
    rw[if_pos rfl]
    obtain⟨q,a1,a2⟩:=hg.app (by':=16) [[Cell.str (bs x.S)]] (by unfold bound;simp;omega) (by unfold bound;simp;omega)
    simp only[Bool.not_true,cond_false,a1,Option.bind_some]
    exact ih (i+1) n (acc++[x.S]) q.1 q.2 hd' (by omega) (by simp;omega) (by simpa[eStr] using a2) k m
 obtain⟨c',H',ids,z1,z2,z3⟩:=loop v.L 0 (v.L.length+1+1) [] (.lst true 1 []) [] rfl (by omega) (by simp) (Grow.nil 1) (v.L.length+1+1) (v.L.length+1+1)
 rw[qtm]
 refine Fresh.one1 (n:=1) (qbzb (v.L.length+1) ?_) z2 z3
 simp only[fcr]
 exact z1
def kEnv:Str:=[101,110,118]
def kIn:Str:=[105,110]
def qdgc:Str:=[107,101,101,112]
def kOn:Str:=[111,110]
def qgl (r:MRule)(key:Str)(v:MVal):MRule×Bool:=if key==kEnv then ({r with Envs:=(qgt v).1},(qgt v).2) else if key==kIn then ({r with Ins:=(qgt v).1},(qgt v).2) else if key==qdgc then ({r with Keep:=v.N==1},v.K==1) else if key==kOn then ({r with On:=(qgt v).1},(qgt v).2) else (r,false)
def qcc:MRule→List (Str×MVal)→Option MRule | r,[]=>some r | r,(k,v)::l=>if (qgl r k v).2=true then qcc (qgl r k v).1 l else none
def qdb:MRule:=⟨[],[],[],[],false⟩
def qbb (task:Str)(v:MVal):MRule×Bool:=
 if (qeqb v&&v.K==5)=true then match qcc ⟨task,[],[],[],true⟩ (v.Keys.zip v.L) with
  | some r=>if qkm r=true then (r,true) else (qdb,false)
  | none=>(qdb,false)
 else (qdb,false)
theorem qhpb {v:MVal}(hv:v.Bd 1048576):bdL 1048576 (bdS 1048576) (qgt v).1:=by
 obtain⟨b2,b3,b4⟩:=(bd_V v).1 hv
 unfold qgt
 split
 ·refine⟨by simpa using b3.1,fun s hs=>?_⟩
  obtain⟨x,hx,rfl⟩:=List.mem_map.1 hs
  exact((bd_V x).1 (b3.2 x hx)).1
 ·exact⟨by simp,by simp⟩
theorem qmo {r:MRule}(hr:r.Bd 1048576)(key:Str){v:MVal}(hv:v.Bd 1048576):(qgl r key v).1.Bd 1048576:=by
 obtain⟨h0,h1,h2,h3,h4⟩:=hr
 have ht:=qhpb hv
 unfold qgl
 split
 ·exact⟨h0,h1,h2,ht,h4⟩
 ·split
  ·exact⟨h0,h1,ht,h3,h4⟩
  ·split
   ·exact⟨h0,h1,h2,h3,h4⟩
   ·split
    ·exact⟨h0,ht,h2,h3,h4⟩
    ·exact⟨h0,h1,h2,h3,h4⟩
theorem qzp:∀ {l:List (Str×MVal)} {r r':MRule},r.Bd 1048576→(∀ p∈l,p.2.Bd 1048576)→qcc r l=some r'→r'.Bd 1048576:=by
 intro l
 induction l with
 | nil=>
  intro r r' hr _ h
  simp only[qcc,Option.some.injEq] at h
  rw[← h]
  exact hr
 | cons p l ih=>
  intro r r' hr hl h
  obtain⟨k,v⟩:=p
  rw[qcc] at h
  split at h
  ·exact ih (qmo hr k (hl (k,v) List.mem_cons_self)) (fun q hq=>hl q (List.mem_cons_of_mem _ hq)) h
  ·simp at h
theorem qne:qdb.Bd 1048576:=⟨by simp[qdb,bdS],⟨by simp[qdb],by simp[qdb]⟩,⟨by simp[qdb],by simp[qdb]⟩,⟨by simp[qdb],by simp[qdb]⟩,trivial⟩
theorem qdnb (task:Str)(ht:bdS 1048576 task)(ht':bdS 1048576 task)(v:MVal)(hv:v.Bd 1048576)(hw:v.wt≤1048576):(qbb task v).1.Bd 1048576:=by
 obtain⟨b2,b3,b4⟩:=(bd_V v).1 hv
 unfold qbb
 split
 ·split
  ·rename_i r hr
   have:=qzp (r:=⟨task,[],[],[],true⟩) ⟨ht,⟨by simp,by simp⟩,⟨by simp,by simp⟩,⟨by simp,by simp⟩,trivial⟩ (fun p hp=>b3.2 p.2 (List.of_mem_zip hp).2) hr
   split
   ·exact this
   ·exact qne
  ·exact qne
 ·exact qne
theorem qddb (task:Str)(ht:bdS 1048576 task)(ht':bdS 1048576 task)(v:MVal)(hv:v.Bd 1048576)(hw:v.wt≤1048576):(qbb task v).1.cntA≤1099511627776:=by
 obtain⟨_,b1,b2,b3,_⟩:=qdnb task ht ht' v hv hw
 have h1:=b1.1
 have h2:=b2.1
 have h3:=b3.1
 simp only[MRule.cntA,qmeb]
 omega
def RS (H:List Entry)(r:MRule):Prop:=∃ c1 c2 c3 i1 i2 i3,H[0]?=some ⟨5,[[Cell.str (bs r.Task),c1,c2,c3,Cell.bool r.Keep]],0,false⟩∧Rep H true true 2 i1 c1 (trL 1 qcm r.On)∧Rep H true true 2 i2 c2 (trL 1 qcm r.Ins)∧Rep H true true 2 i3 c3 (trL 1 qcm r.Envs)∧i1.Nodup∧i2.Nodup∧i3.Nodup∧(∀ j∈i1,j∉i2∧j∉i3∧1≤j)∧(∀ j∈i2,j∉i3∧1≤j)∧∀ j∈i3,1≤j
theorem RS.sp {H:List Entry}{r:MRule}(h:RS H r):∃ c1 c2 c3 ids,H[0]?=some ⟨5,[[Cell.str (bs r.Task),c1,c2,c3,Cell.bool r.Keep]],0,false⟩∧Sp (Rep H true true 2) ids [Cell.str (bs r.Task),c1,c2,c3,Cell.bool r.Keep] r.tr∧ids.Nodup:=by
 obtain⟨c1,c2,c3,i1,i2,i3,h0,r1,r2,r3,n1,n2,n3,d1,d2,d3⟩:=h
 refine⟨c1,c2,c3,i1++(i2++(i3++[])),h0,?_,?_⟩
 ·simp only[MRule.tr]
  exact .cons (i:=[]) ⟨rfl,rfl⟩ (.cons r1 (.cons r2 (.cons r3 (.cons (i:=[]) (is:=[]) ⟨rfl,rfl⟩ .nil))))
 ·rw[List.append_nil,List.nodup_append,List.nodup_append]
  refine⟨n1,⟨n2,n3,fun a ha b hb e=>?_⟩,fun a ha b hb e=>?_⟩
  ·subst e
   exact(d2 a ha).1 hb
  ·subst e
   rcases List.mem_append.1 hb with hb | hb
   ·exact(d1 a ha).1 hb
   ·exact(d1 a ha).2.1 hb
theorem RS.app {H:List Entry}{r:MRule}(h:RS H r)(E:List Entry):RS (H++E) r:=by
 obtain⟨c1,c2,c3,i1,i2,i3,h0,r1,r2,r3,hh⟩:=h
 exact⟨c1,c2,c3,i1,i2,i3,by rw[List.getElem?_append_left (List.getElem?_eq_some_iff.1 h0).1];exact h0,r1.app E,r2.app E,r3.app E,hh⟩
theorem qdx {H:List Entry}{e:Entry}{j:Nat}(h:1≤j):(H.set 0 e)[j]?=H[j]?:=by rw[List.getElem?_set_ne (by omega)]
theorem qwa {H:List Entry}{e e0:Entry}(h:H[0]?=some e0):(H.set 0 e)[0]?=some e:=by rw[List.getElem?_set_self (List.getElem?_eq_some_iff.1 h).1]
theorem RS.putOn {H E:List Entry}{r:MRule}(h:RS H r){c:Cell}{is:List Nat}{xs:List Str}(hc:Rep (H++E) true true 2 is c (trL 1 qcm xs))(hn:is.Nodup)(hlo:∀ j∈is,H.length≤j):
  ∃ H',qbl (H++E) (.ptr 0 5 0 1 0) [c]=some H'∧RS H' {r with On:=xs}:=by
 obtain⟨c1,c2,c3,i1,i2,i3,h0,r1,r2,r3,n1,n2,n3,d1,d2,d3⟩:=h
 have hl:0 < H.length:=(List.getElem?_eq_some_iff.1 h0).1
 have h0':(H++E)[0]?=some ⟨5,[[Cell.str (bs r.Task),c1,c2,c3,Cell.bool r.Keep]],0,false⟩:=by rw[List.getElem?_append_left hl];exact h0
 have l1:=r1.lt
 have l2:=r2.lt
 have l3:=r3.lt
 refine⟨(H++E).set 0 ⟨5,[[Cell.str (bs r.Task),c,c2,c3,Cell.bool r.Keep]],0,false⟩,by simp[qbl,entry?,h0',splice],?_⟩
 refine⟨c,c2,c3,is,i2,i3,qwa h0',?_,?_,?_,hn,n2,n3,?_,?_,?_⟩
 ·exact hc.frame fun j hj=>qdx (by have:=hlo j hj;omega)
 ·exact(r2.app E).frame fun j hj=>qdx (by have:=(d2 j hj).2;omega)
 ·exact(r3.app E).frame fun j hj=>qdx (by have:=d3 j hj;omega)
 ·exact fun j hj=>⟨fun h=>by have:=hlo j hj;have:=l2 j h;omega,fun h=>by have:=hlo j hj;have:=l3 j h;omega,by have:=hlo j hj;omega⟩
 ·exact fun j hj=>⟨(d2 j hj).1,(d2 j hj).2⟩
 ·exact fun j hj=>d3 j hj
theorem RS.putIns {H E:List Entry}{r:MRule}(h:RS H r){c:Cell}{is:List Nat}{xs:List Str}(hc:Rep (H++E) true true 2 is c (trL 1 qcm xs))(hn:is.Nodup)(hlo:∀ j∈is,H.length≤j):
  ∃ H',qbl (H++E) (.ptr 0 5 0 2 0) [c]=some H'∧RS H' {r with Ins:=xs}:=by
 obtain⟨c1,c2,c3,i1,i2,i3,h0,r1,r2,r3,n1,n2,n3,d1,d2,d3⟩:=h
 have hl:0 < H.length:=(List.getElem?_eq_some_iff.1 h0).1
 have h0':(H++E)[0]?=some ⟨5,[[Cell.str (bs r.Task),c1,c2,c3,Cell.bool r.Keep]],0,false⟩:=by rw[List.getElem?_append_left hl];exact h0
 have l1:=r1.lt
 have l2:=r2.lt
 have l3:=r3.lt
 refine⟨(H++E).set 0 ⟨5,[[Cell.str (bs r.Task),c1,c,c3,Cell.bool r.Keep]],0,false⟩,by simp[qbl,entry?,h0',splice],?_⟩
 refine⟨c1,c,c3,i1,is,i3,qwa h0',?_,?_,?_,n1,hn,n3,?_,?_,?_⟩
 ·exact(r1.app E).frame fun j hj=>qdx (by have:=(d1 j hj).2.2;omega)
 ·exact hc.frame fun j hj=>qdx (by have:=hlo j hj;omega)
 ·exact(r3.app E).frame fun j hj=>qdx (by have:=d3 j hj;omega)
 ·exact fun j hj=>⟨fun h=>by have:=hlo j h;have:=l1 j hj;omega,(d1 j hj).2.1,(d1 j hj).2.2⟩
 ·exact fun j hj=>⟨fun h=>by have:=hlo j hj;have:=l3 j h;omega,by have:=hlo j hj;omega⟩
 ·exact fun j hj=>d3 j hj
theorem RS.putEnvs {H E:List Entry}{r:MRule}(h:RS H r){c:Cell}{is:List Nat}{xs:List Str}(hc:Rep (H++E) true true 2 is c (trL 1 qcm xs))(hn:is.Nodup)(hlo:∀ j∈is,H.length≤j):
  ∃ H',qbl (H++E) (.ptr 0 5 0 3 0) [c]=some H'∧RS H' {r with Envs:=xs}:=by
 obtain⟨c1,c2,c3,i1,i2,i3,h0,r1,r2,r3,n1,n2,n3,d1,d2,d3⟩:=h
 have hl:0 < H.length:=(List.getElem?_eq_some_iff.1 h0).1
 have h0':(H++E)[0]?=some ⟨5,[[Cell.str (bs r.Task),c1,c2,c3,Cell.bool r.Keep]],0,false⟩:=by rw[List.getElem?_append_left hl];exact h0
 have l1:=r1.lt
 have l2:=r2.lt
 have l3:=r3.lt
 refine⟨(H++E).set 0 ⟨5,[[Cell.str (bs r.Task),c1,c2,c,Cell.bool r.Keep]],0,false⟩,by simp[qbl,entry?,h0',splice],?_⟩
 refine⟨c1,c2,c,i1,i2,is,qwa h0',?_,?_,?_,n1,n2,hn,?_,?_,?_⟩
 ·exact(r1.app E).frame fun j hj=>qdx (by have:=(d1 j hj).2.2;omega)
 ·exact(r2.app E).frame fun j hj=>qdx (by have:=(d2 j hj).2;omega)
 ·exact hc.frame fun j hj=>qdx (by have:=hlo j hj;omega)
 ·exact fun j hj=>⟨(d1 j hj).1,fun h=>by have:=hlo j h;have:=l1 j hj;omega,(d1 j hj).2.2⟩
 ·exact fun j hj=>⟨fun h=>by have:=hlo j h;have:=l2 j hj;omega,(d2 j hj).2⟩
 ·exact fun j hj=>by have:=hlo j hj;omega
theorem RS.putKeep {H:List Entry}{r:MRule}(h:RS H r)(b:Bool):∃ H',qbl H (.ptr 0 5 0 4 0) [Cell.bool b]=some H'∧RS H' {r with Keep:=b}:=by
 obtain⟨c1,c2,c3,i1,i2,i3,h0,r1,r2,r3,n1,n2,n3,d1,d2,d3⟩:=h
 refine⟨H.set 0 ⟨5,[[Cell.str (bs r.Task),c1,c2,c3,Cell.bool b]],0,false⟩,by simp[qbl,entry?,h0,splice],?_⟩
 exact⟨c1,c2,c3,i1,i2,i3,qwa h0,r1.frame fun j hj=>qdx (d1 j hj).2.2,r2.frame fun j hj=>qdx (d2 j hj).2,r3.frame fun j hj=>qdx (d3 j hj),n1,n2,n3,d1,d2,d3⟩
theorem qee (id sz idx off ep:Nat):ptrC (.ptr id sz idx off ep)=some (.ptr id sz idx off ep):=rfl
theorem r_fae {H:List Entry}{r:MRule}(h:RS H r)(key:Str)(v:MVal)(hv:v.Bd 1048576):∃ H',qnz [.one (.ptr 0 5 0 0 0),.one (Cell.str (bs key)),avV v] H=some ([.one (Cell.bool (qgl r key v).2)],H')∧RS H' (qgl r key v).1:=by
 have ef:∀ f,fldA (.ptr 0 5 0 0 0) f=some (.ptr 0 5 0 f 0):=fun f=>by rw[qmm,Nat.zero_add]
 obtain⟨c,E,is,e1,r1,w1,_⟩:=qmjb (f_fau v hv) H (qbh [avV v] _ _)
 simp only[avV] at e1
 unfold qgl
 cases k1:key==kEnv with
 | true=>
  obtain⟨H',s1,s2⟩:=h.putEnvs r1 w1.nd w1.lo
  refine⟨H',qdz 0 ?_,s2⟩
  have k1:(key==([101,110,118]:Str))=true:=k1
  simp only[fae,qbq,k1,e1,qee,ef,s1,EV0]
  rfl
 | false=>
  have k1':(key==([101,110,118]:Str))=false:=k1
  cases k2:key==kIn with
  | true=>
   obtain⟨H',s1,s2⟩:=h.putIns r1 w1.nd w1.lo
   refine⟨H',qdz 0 ?_,s2⟩
   have k2:(key==([105,110]:Str))=true:=k2
   simp only[fae,qbq,k1',k2,e1,qee,ef,s1,EV0]
   rfl
  | false=>
   have k2':(key==([105,110]:Str))=false:=k2
   cases k3:key==qdgc with
   | true=>
    obtain⟨H',s1,s2⟩:=h.putKeep (v.N==1)
    refine⟨H',qdz 0 ?_,s2⟩
    have k3:(key==([107,101,101,112]:Str))=true:=k3
    simp only[fae,qbq,k1',k2',k3,qee,ef,s1,EV0]
    rfl
   | false=>
    have k3':(key==([107,101,101,112]:Str))=false:=k3
    cases k4:key==kOn with
    | true=>
     obtain⟨H',s1,s2⟩:=h.putOn r1 w1.nd w1.lo
     refine⟨H',qdz 0 ?_,s2⟩
     have k4:(key==([111,110]:Str))=true:=k4
     simp only[fae,qbq,k1',k2',k3',k4,e1,qee,ef,s1,EV0]
     rfl
    | false=>
     have k4':(key==([111,110]:Str))=false:=k4
     refine⟨H,qdz 0 ?_,h⟩
     simp only[fae,qbq,k1',k2',k3',k4',EV0]
     rfl
theorem r_fcf {H:List Entry}{r:MRule}(h:RS H r)(key:Str)(v:MVal)(hv:v.Bd 1048576):∃ H',qpi [.one (.ptr 0 5 0 0 0),.one (Cell.str (bs key)),avV v] H=some ([.one (Cell.bool (qgl r key v).2)],H')∧RS H' (qgl r key v).1:=by
 have ef:∀ f,fldA (.ptr 0 5 0 0 0) f=some (.ptr 0 5 0 f 0):=fun f=>by rw[qmm,Nat.zero_add]
 obtain⟨c,E,is,e1,r1,w1,_⟩:=qmjb (f_fcr v hv) H (qbh [avV v] _ _)
 simp only[avV] at e1
 unfold qgl
 cases k1:key==kEnv with
 | true=>
  obtain⟨H',s1,s2⟩:=h.putEnvs r1 w1.nd w1.lo
  refine⟨H',qec 0 ?_,s2⟩
  have k1:(key==([101,110,118]:Str))=true:=k1
  simp only[fcf,qbq,k1,e1,qee,ef,s1,EV0]
  rfl
 | false=>
  have k1':(key==([101,110,118]:Str))=false:=k1
  cases k2:key==kIn with
  | true=>
   obtain⟨H',s1,s2⟩:=h.putIns r1 w1.nd w1.lo
   refine⟨H',qec 0 ?_,s2⟩
   have k2:(key==([105,110]:Str))=true:=k2
   simp only[fcf,qbq,k1',k2,e1,qee,ef,s1,EV0]
   rfl
  | false=>
   have k2':(key==([105,110]:Str))=false:=k2
   cases k3:key==qdgc with
   | true=>
    obtain⟨H',s1,s2⟩:=(h.app E).putKeep (v.N==1)
    have k3a:key=[107,101,101,112]:=by simpa[qdgc] using k3
    refine⟨H',qec 0 ?_,s2⟩
    have k3:(key==([107,101,101,112]:Str))=true:=k3
    have k4:(key==([111,110]:Str))=false:=by rw[k3a];rfl
    simp only[fcf,qbq,k1',k2',k3,k4,e1,qee,ef,s1,EV0]
    rfl
   | false=>
    have k3':(key==([107,101,101,112]:Str))=false:=k3
    cases k4:key==kOn with
    | true=>
     obtain⟨H',s1,s2⟩:=h.putOn r1 w1.nd w1.lo
     refine⟨H',qec 0 ?_,s2⟩
     have k4:(key==([111,110]:Str))=true:=k4
     simp only[fcf,qbq,k1',k2',k3',k4,e1,qee,ef,s1,EV0]
     rfl
    | false=>
     have k4':(key==([111,110]:Str))=false:=k4
     refine⟨H++E,qec 0 ?_,h.app E⟩
     simp only[fcf,qbq,k1',k2',k3',k4',e1,EV0]
     rfl
theorem qxa {v:MVal}(h:qeqb v=true):qjq v=true:=by
 unfold qeqb at h
 rw[qkfb,if_neg (by omega)] at h
 cases hp:qjq v with
 | true=>rfl
 | false=>
  rw[hp,if_neg (by simp)] at h
  simp at h
theorem quy {v:MVal}(h:qeqb v=true)(hk:(v.K==5)=true):v.Keys.length=v.L.length:=by
 have h1:=qxa h
 have hk:v.K=5:=by simpa using hk
 unfold qjq at h1
 rw[hk] at h1
 simp only[Int.reduceBEq,cond_false,cond_true,Bool.and_eq_true,beq_iff_eq] at h1
 exact h1.2.2.1
theorem qayb {ks:List Str}{vs:List MVal}{i:Nat}(h:ks.length=vs.length)(hlt:i < ks.length):∃ k v,ks[i]?=some k∧vs[i]?=some v∧(ks.zip vs).drop i=(k,v)::(ks.zip vs).drop (i+1):=by
 have h2:i < vs.length:=by omega
 refine⟨ks[i],vs[i],List.getElem?_eq_getElem hlt,List.getElem?_eq_getElem h2,?_⟩
 rw[List.drop_eq_getElem_cons (by rw[List.length_zip];omega),List.getElem_zip]
theorem RS.start (task:Str):RS [Entry.mk 5 [[Cell.str (bs task),.lst true 1 [],.lst true 1 [],.lst true 1 [],Cell.bool true]] 0 false] ⟨task,[],[],[],true⟩:=
 ⟨.lst true 1 [],.lst true 1 [],.lst true 1 [],[],[],[],rfl,.inl ⟨rfl,rfl,true,rfl⟩,.inl ⟨rfl,rfl,true,rfl⟩,.inl ⟨rfl,rfl,true,rfl⟩,by simp,by simp,by simp,by simp,by simp,by simp⟩
theorem qmx (H:List Entry):Sp (Rep H true true 2) [] [Cell.str (bs []),.lst true 1 [],.lst true 1 [],.lst true 1 [],Cell.bool false] qdb.tr:=by
 simp only[qdb,MRule.tr]
 exact .cons (i:=[]) (is:=[]) ⟨rfl,rfl⟩ (.cons (i:=[]) (is:=[]) (.inl ⟨rfl,rfl,true,rfl⟩) (.cons (i:=[]) (is:=[]) (.inl ⟨rfl,rfl,true,rfl⟩) (.cons (i:=[]) (is:=[]) (.inl ⟨rfl,rfl,true,rfl⟩) (.cons (i:=[]) (is:=[]) ⟨rfl,rfl⟩ .nil))))
theorem RS.cells {H:List Entry}{r:MRule}(h:RS H r):∃ c1 c2 c3 ids,deref H (.ptr 0 5 0 0 0)=some ([Cell.str (bs r.Task),c1,c2,c3,Cell.bool r.Keep],0)∧Sp (Rep H true true 2) ids [Cell.str (bs r.Task),c1,c2,c3,Cell.bool r.Keep] r.tr∧ids.Nodup∧
  qam false H (.agg [Cell.str (bs r.Task),c1,c2,c3,Cell.bool r.Keep])=some (.agg [Cell.str (bs r.Task),qbt r.On,qbt r.Ins,qbt r.Envs,Cell.bool r.Keep]):=by
 obtain⟨c1,c2,c3,ids,h0,h1,h2⟩:=h.sp
 refine⟨c1,c2,c3,ids,by simp[deref,entry?,h0],h1,h2,?_⟩
 have:=qcf h1 (by omega)
 simpa only[MRule.tr,List.map_cons,List.map_nil,qbp,qbv] using this
def endR (o:Option MRule):MRule×Bool:=match o with
 | some r=>if qkm r=true then (r,true) else (qdb,false)
 | none=>(qdb,false)
theorem f_fad (task:Str)(ht:bdS 1048576 task)(ht':bdS 1048576 task)(v:MVal)(hv:v.Bd 1048576)(hw:v.wt≤1048576):
  Fresh qgy true 2 [.one (Cell.str (bs task)),.agg [Cell.int v.K,Cell.int v.N,Cell.str (bs v.S),encL 5 MVal.enc v.L,encL 1 eStr v.Keys]] [.agg (qbb task v).1.tr,.one (.leaf (.bool (qbb task v).2))]:=by
 have hM:=qak
 obtain⟨b2,b3,b4⟩:=(bd_V v).1 hv
 have hkl:=b4.1
 have zero:∀ H,qgy [.one (Cell.str (bs task)),avV v] []=some ([.agg [Cell.str (bs []),.lst true 1 [],.lst true 1 [],.lst true 1 [],Cell.bool false],.one (Cell.bool false)],H)→qbb task v=(qdb,false)→Fresh qgy true 2 [.one (Cell.str (bs task)),avV v] [.agg (qbb task v).1.tr,.one (.leaf (.bool (qbb task v).2))]:=fun H h1 h2=>by
  rw[h2]
  exact Fresh.agg1 (n:=1) (ids:=[]) h1 (qmx H) (by simp)
 have e2:=c_faf v hv
 simp only[avV] at e2
 have e1:out qnw [.agg [Cell.int v.K,Cell.int v.N,Cell.str (bs v.S),encL 5 MVal.enc v.L,encL 1 eStr v.Keys]]=some [.one (Cell.bool (v.K==5&&v.L.length==v.Keys.length))]:=by
  refine qau (H:=[]) (qzs 0 ?_)
  simp only[fag,qae,Option.bind_some,qgj]
  cases v.K==5<;>rfl
 cases hk:v.K==5 with
 | false=>
  rw[hk,Bool.false_and] at e1
  refine zero [] (qix 0 ?_) (by unfold qbb;rw[hk,Bool.and_false,if_neg (by simp)])
  simp only[fad,e1,Bool.not_false,EV0]
 | true=>
  rw[hk,Bool.true_and] at e1
  cases ho:qeqb v with
  | false=>
   rw[ho] at e2
   refine zero [] (qix 0 ?_) (by unfold qbb;rw[ho,Bool.false_and,if_neg (by simp)])
   cases hl:v.L.length==v.Keys.length with
   | false=>
    rw[hl] at e1
    simp only[fad,e1,Bool.not_false,EV0]
   | true=>
    rw[hl] at e1
    simp only[fad,e1,e2,Bool.not_false,Bool.not_true,EV0]
  | true=>
   have hl:=quy ho hk
   rw[ho] at e2
   rw[show(v.L.length==v.Keys.length)=true by simp[hl]] at e1
   have hm:qbb task v=endR (qcc ⟨task,[],[],[],true⟩ (v.Keys.zip v.L)):=by
    unfold qbb
    rw[ho,hk,Bool.and_self,if_pos rfl]
    rfl
   rw[hm]
   have loop:∀ (d i n:Nat) (H:List Entry) (r:MRule),i+d=v.Keys.length→d < n→RS H r→r.Bd 1048576→∀ k m,
     ∃ cs H' ids,qrv k m n (encL 1 eStr v.Keys) v.Keys.length i v.K v.N (bs v.S) (encL 5 MVal.enc v.L) (encL 1 eStr v.Keys) H=some ([.agg cs,.one (Cell.bool (endR (qcc r ((v.Keys.zip v.L).drop i))).2)],H')∧Sp (Rep H' true true 2) ids cs (endR (qcc r ((v.Keys.zip v.L).drop i))).1.tr∧ids.Nodup:=by
    intro d
    induction d with
    | zero=>
     intro i n H r hi hn hr hb k m
     obtain⟨n,rfl⟩:∃ j,n=j+1:=⟨n - 1,by omega⟩
     have hd:(v.Keys.zip v.L).drop i=[]:=List.drop_eq_nil_of_le (by rw[List.length_zip];omega)
     obtain⟨c1,c2,c3,ids,d0,h1,h2,h3⟩:=hr.cells
     have q:qaj qli [.agg [Cell.str (bs r.Task),c1,c2,c3,Cell.bool r.Keep]] H=some [.one (Cell.bool (qkm r))]:=by
      rw[qeg (qdd h3 (qbs _))]
      exact c_fat r hb
     rw[hd,qcc]
     unfold endR
     simp only[qrv]
     rw[decide_eq_false (by omega),cond_false]
     cases hro:qkm r with
     | true=>
      rw[hro] at q
      refine⟨_,H,ids,?_,h1,h2⟩
      simp only[d0,q,Bool.not_true,EV0]
      rfl
     | false=>
      rw[hro] at q
      refine⟨_,H,[],?_,qmx H,by simp⟩
      simp only[d0,q,Bool.not_false,EV0]
      rfl
    | succ d ih=>
     intro i n H r hi hn hr hb k m
     obtain⟨n,rfl⟩:∃ j,n=j+1:=⟨n - 1,by omega⟩
     obtain⟨key,x,z1,z2,z3⟩:=qayb (i:=i) hl (by omega)
     have hxb:=b3.2 x (List.mem_of_getElem? z2)
     obtain⟨H',y1,y2⟩:=r_fae hr key x hxb
     simp only[avV] at y1
     rw[z3,qcc]
     simp only[qrv]
     rw[decide_eq_true (by omega),cond_true]
     simp only[qar,z1,z2,eStr,enc_V x,y1,qah (show i < maxLen by omega),Nat.zero_add,Nat.reduceAdd,EV0]
     cases hf:(qgl r key x).2 with
     | true=>
      rw[if_pos rfl,Bool.not_true,cond_false]
      exact ih (i+1) n H' (qgl r key x).1 (by omega) (by omega) y2 (qmo hb key hxb) k m
     | false=>
      rw[if_neg (by simp),Bool.not_false,cond_true]
      exact⟨_,H',[],rfl,qmx H',by simp⟩
   obtain⟨cs,H',ids,y1,y2,y3⟩:=loop v.Keys.length 0 (v.Keys.length+1+1) _ ⟨task,[],[],[],true⟩ (by omega) (by omega) (RS.start task) ⟨ht,⟨by simp,by simp⟩,⟨by simp,by simp⟩,⟨by simp,by simp⟩,trivial⟩ (v.Keys.length+1+1) (v.Keys.length+1+1)
   rw[List.drop_zero] at y1 y2
   refine Fresh.agg1 (n:=1) (qix (v.Keys.length+1) ?_) y2 y3
   simp only[fad,e1,e2,qae,Bool.not_true,EV0]
   exact y1
theorem c_fcc (task:Str)(ht:bdS 1048576 task)(ht':bdS 1048576 task)(v:MVal)(hv:v.Bd 1048576)(hw:v.wt≤1048576):
  outL qjt [.one (Cell.str (bs task)),.agg [Cell.int v.K,Cell.int v.N,Cell.str (bs v.S),encL 5 MVal.enc v.L,encL 1 eStr v.Keys]]=some [.agg [Cell.str (bs (qbb task v).1.Task),qbt (qbb task v).1.On,qbt (qbb task v).1.Ins,qbt (qbb task v).1.Envs,Cell.bool (qbb task v).1.Keep],.one (Cell.bool (qbb task v).2)]:=by
 have hM:=qak
 obtain⟨b2,b3,b4⟩:=(bd_V v).1 hv
 have hkl:=b4.1
 have hll:=b3.1
 have zr:∀ H,mapO (qam false H) [.agg [Cell.str (bs []),.lst true 1 [],.lst true 1 [],.lst true 1 [],Cell.bool false],.one (Cell.bool false)]=some [.agg [Cell.str (bs qdb.Task),qbt qdb.On,qbt qdb.Ins,qbt qdb.Envs,Cell.bool qdb.Keep],.one (Cell.bool false)]:=fun H=>rfl
 have e2:=c_fce v hv
 simp only[avV] at e2
 cases ho:qeqb v with
 | false=>
  rw[ho] at e2
  have hmz:qbb task v=(qdb,false):=by unfold qbb;rw[ho,Bool.false_and,if_neg (by simp)]
  rw[hmz]
  refine qqv (H:=[Entry.mk 5 [[Cell.str (bs task),.lst true 1 [],.lst true 1 [],.lst true 1 [],Cell.bool true]] 0 false]) (qji 0 ?_) (zr _)
  simp only[fcc,e2,Bool.not_false,EV0]
 | true=>
  rw[ho] at e2
  cases hk:v.K==5 with
  | false=>
   have hmz:qbb task v=(qdb,false):=by unfold qbb;rw[hk,Bool.and_false,if_neg (by simp)]
   rw[hmz]
   refine qqv (H:=[Entry.mk 5 [[Cell.str (bs task),.lst true 1 [],.lst true 1 [],.lst true 1 [],Cell.bool true]] 0 false]) (qji 0 ?_) (zr _)
   simp only[fcc,e2,bne,hk,Bool.not_true,Bool.not_false,EV0]
  | true=>
   have hl:=quy ho hk
   have hm:qbb task v=endR (qcc ⟨task,[],[],[],true⟩ (v.Keys.zip v.L)):=by
    unfold qbb
    rw[ho,hk,Bool.and_self,if_pos rfl]
    rfl
   rw[hm]
   have loop:∀ (d i n:Nat) (H:List Entry) (r:MRule),i+d=v.L.length→d < n→RS H r→r.Bd 1048576→∀ k m,
     ∃ xs H',qrz k m n i v.K v.N (bs v.S) (encL 5 MVal.enc v.L) (encL 1 eStr v.Keys) H=some (xs,H')∧mapO (qam false H') xs=some [.agg [Cell.str (bs (endR (qcc r ((v.Keys.zip v.L).drop i))).1.Task),qbt (endR (qcc r ((v.Keys.zip v.L).drop i))).1.On,qbt (endR (qcc r ((v.Keys.zip v.L).drop i))).1.Ins,qbt (endR (qcc r ((v.Keys.zip v.L).drop i))).1.Envs,Cell.bool (endR (qcc r ((v.Keys.zip v.L).drop i))).1.Keep],.one (Cell.bool (endR (qcc r ((v.Keys.zip v.L).drop i))).2)]:=by
    intro d
    induction d with
    | zero=>
     intro i n H r hi hn hr hb k m
     obtain⟨n,rfl⟩:∃ j,n=j+1:=⟨n - 1,by omega⟩
     have hd:(v.Keys.zip v.L).drop i=[]:=List.drop_eq_nil_of_le (by rw[List.length_zip];omega)
     obtain⟨c1,c2,c3,ids,d0,h1,h2,h3⟩:=hr.cells
     have q:qaj qlv [.agg [Cell.str (bs r.Task),c1,c2,c3,Cell.bool r.Keep]] H=some [.one (Cell.bool (qkm r))]:=by
      rw[qeg (qdd h3 (qbs _))]
      exact c_fcg r hb
     rw[hd,qcc]
     unfold endR
     simp only[qrz,qae,Option.bind_some]
     rw[decide_eq_false (by omega),cond_false]
     cases hro:qkm r with
     | true=>
      rw[hro] at q
      refine⟨[.agg [Cell.str (bs r.Task),c1,c2,c3,Cell.bool r.Keep],.one (Cell.bool true)],H,?_,qdd h3 (qdd (qbd _ _ _) (qbs _))⟩
      simp only[d0,q,Bool.not_true,EV0]
     | false=>
      rw[hro] at q
      refine⟨_,H,?_,zr H⟩
      simp only[d0,q,Bool.not_false,EV0]
    | succ d ih=>
     intro i n H r hi hn hr hb k m
     obtain⟨n,rfl⟩:∃ j,n=j+1:=⟨n - 1,by omega⟩
     obtain⟨key,x,z1,z2,z3⟩:=qayb (i:=i) hl (by omega)
     have hxb:=b3.2 x (List.mem_of_getElem? z2)
     obtain⟨H',y1,y2⟩:=r_fcf hr key x hxb
     simp only[avV] at y1
     rw[z3,qcc]
     simp only[qrz,qae,Option.bind_some]
     rw[decide_eq_true (by omega),cond_true]
     simp only[qar,z1,z2,eStr,enc_V x,y1,qah (show i < maxLen by omega),Nat.zero_add,Nat.reduceAdd,EV0]
     cases hf:(qgl r key x).2 with
     | true=>
      rw[if_pos rfl,Bool.not_true,cond_false]
      exact ih (i+1) n H' (qgl r key x).1 (by omega) (by omega) y2 (qmo hb key hxb) k m
     | false=>
      rw[if_neg (by simp),Bool.not_false,cond_true]
      exact⟨_,H',rfl,zr H'⟩
   obtain⟨xs,H',y1,y2⟩:=loop v.L.length 0 (v.L.length+1+1) _ ⟨task,[],[],[],true⟩ (by omega) (by omega) (RS.start task) ⟨ht,⟨by simp,by simp⟩,⟨by simp,by simp⟩,⟨by simp,by simp⟩,trivial⟩ (v.L.length+1+1) (v.L.length+1+1)
   rw[List.drop_zero] at y2
   refine qqv (H:=H') (qji (v.L.length+1) ?_) y2
   simp only[fcc,e2,bne,hk,Bool.not_true,EV0]
   exact y1
end Go.Ev
