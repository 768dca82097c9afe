/- What the functions come to. Conditions: none. -/
import Derived.Test.YteofbfalngmmeaaDoorEvCon
set_option linter.unusedSimpArgs false
set_option linter.unusedVariables false
namespace Go.Ev
open Go
theorem c_fbf (xs ys:List MFile)(hx:xs.length≤1048576):out qnp [.one (encL 2 MFile.enc xs),.one (encL 2 MFile.enc ys)]=some [.one (Cell.bool (decide (xs=ys)))]:=by
 have hM:=qai
 have loop:xs.length=ys.length→∀ (us vs:List MFile) (i n:Nat),xs.drop i=us→ys.drop i=vs→us.length < n→∀ k m,qrh k m n (encL 2 MFile.enc xs) (encL 2 MFile.enc ys) i=some ([.one (Cell.bool (decide (us=vs)))],[]):=by
  intro hlen us
  induction us with
  | nil=>
   intro vs i n hd he hn k m
   obtain⟨n,rfl⟩:∃ j,n=j+1:=⟨n - 1,by omega⟩
   have:=drop_nil hd
   have hv:vs=[]:=by rw[← he];exact List.drop_eq_nil_of_le (by omega)
   subst hv
   simp only[qrh,qag,Option.bind_some]
   rw[decide_eq_false (by omega)]
   simp
  | cons x us ih=>
   intro vs i n hd he hn k m
   obtain⟨n,rfl⟩:∃ j,n=j+1:=⟨n - 1,by omega⟩
   obtain⟨hlt,hgx,hd'⟩:=qas hd
   cases vs with
   | nil=>have:=drop_nil he;omega
   | cons y vs=>
   obtain⟨hlt',hgy,he'⟩:=qas he
   simp only[List.length_cons] at hn
   simp only[qrh,qat,hgx,hgy,MFile.enc,qbj,qqv,EV0]
   rw[decide_eq_true (by omega)]
   simp only[EV0]
   rw[qaj (by omega),ih vs (i+1) n hd' he' (by omega),condF]
   congr 5
   rw[Bool.eq_iff_iff]
   cases x;cases y
   simp[and_assoc]
 refine qbb (H:=[]) (qcob (xs.length+1) ?_)
 simp only[fbf,qag,Option.bind_some]
 by_cases h:xs.length=ys.length
 ·rw[show(((xs.length:Nat):Int) != (ys.length:Int))=false by simp[h],cond_false]
  exact loop h xs ys 0 _ rfl rfl (by omega) _ _
 ·rw[show(((xs.length:Nat):Int) != (ys.length:Int))=true by simp only[bne_iff_ne,ne_eq];omega,cond_true]
  have:xs≠ys:=fun e=>h (by rw[e])
  simp[this]
theorem c_fbh (xs ys:List MFile)(hx:xs.length≤1048576):out qqc [.one (encL 2 MFile.enc xs),.one (encL 2 MFile.enc ys)]=some [.one (Cell.bool (decide (xs=ys)))]:=by
 have hM:=qai
 have loop:xs.length=ys.length→∀ (us vs:List MFile) (i n:Nat),xs.drop i=us→ys.drop i=vs→us.length < n→∀ k m,qrs k m n (encL 2 MFile.enc xs) (encL 2 MFile.enc ys) xs.length i=some ([.one (Cell.bool (decide (us=vs)))],[]):=by
  intro hlen us
  induction us with
  | nil=>
   intro vs i n hd he hn k m
   obtain⟨n,rfl⟩:∃ j,n=j+1:=⟨n - 1,by omega⟩
   have:=drop_nil hd
   have hv:vs=[]:=by rw[← he];exact List.drop_eq_nil_of_le (by omega)
   subst hv
   simp only[qrs]
   rw[decide_eq_false (by omega)]
   simp
  | cons x us ih=>
   intro vs i n hd he hn k m
   obtain⟨n,rfl⟩:∃ j,n=j+1:=⟨n - 1,by omega⟩
   obtain⟨hlt,hgx,hd'⟩:=qas hd
   cases vs with
   | nil=>have:=drop_nil he;omega
   | cons y vs=>
   obtain⟨hlt',hgy,he'⟩:=qas he
   simp only[List.length_cons] at hn
   simp only[qrs,qat,hgx,hgy,MFile.enc,qbj,qqv,EV0]
   rw[decide_eq_true (by omega)]
   simp only[EV0]
   rw[qaj (by omega),ih vs (i+1) n hd' he' (by omega),condF]
   congr 5
   rw[Bool.eq_iff_iff]
   cases x;cases y
   simp[and_assoc]
 refine qbb (H:=[]) (qcbb (xs.length+1) ?_)
 simp only[fbh,qag,Option.bind_some]
 by_cases h:xs.length=ys.length
 ·rw[show(((xs.length:Nat):Int) != (ys.length:Int))=false by simp[h],cond_false]
  exact loop h xs ys 0 _ rfl rfl (by omega) _ _
 ·rw[show(((xs.length:Nat):Int) != (ys.length:Int))=true by simp only[bne_iff_ne,ne_eq];omega,cond_true]
  have:xs≠ys:=fun e=>h (by rw[e])
  simp[this]
theorem c_fbg (x y:MMade)(hx:x.Bd 1048576):out qdw [.agg [Cell.str (bs x.Task),encL 2 MFile.enc x.Outs,Cell.str (bs x.Log)],.agg [Cell.str (bs y.Task),encL 2 MFile.enc y.Outs,Cell.str (bs y.Log)]]=some [.one (Cell.bool (x.Task==y.Task&&(x.Log==y.Log&&decide (x.Outs=y.Outs))))]:=by
 refine qbb (H:=[]) (qbjb 0 ?_)
 simp only[fbg,c_fbf _ _ hx.2.1.1,EV0]
 cases (x.Task==y.Task)<;>cases (x.Log==y.Log)<;>rfl
theorem c_fal (x y:MMade)(hx:x.Bd 1048576):out qla [.agg [Cell.str (bs x.Task),encL 2 MFile.enc x.Outs,Cell.str (bs x.Log)],.agg [Cell.str (bs y.Task),encL 2 MFile.enc y.Outs,Cell.str (bs y.Log)]]=some [.one (Cell.bool (x.Task==y.Task&&(x.Log==y.Log&&decide (x.Outs=y.Outs))))]:=by
 refine qbb (H:=[]) (qdsb 0 ?_)
 simp only[fal,c_fbh _ _ hx.2.1.1,EV0]
 cases (x.Task==y.Task)<;>cases (x.Log==y.Log)<;>rfl
def inR (x a b:Int):Bool:=decide (a≤x)&&decide (x≤b)
def qdv (b:UInt8):Bool:=inR b.toNat 97 122
def qax (b:UInt8):Bool:=inR b.toNat 48 57
def qkq (first:Bool):Str→Bool | []=>true | b::r=>(qdv b||(!first&&(qax b||b==45)))&&qkq false r
def qet (s:Str):Bool:=qkq true s&&inR s.length 1 10
theorem qmsb (b:UInt8)(n:Nat)(h:n < 256):((b.toNat:Int)==(n:Int))=(b==UInt8.ofNat n):=by
 rw[Bool.eq_iff_iff]
 simp only[beq_iff_eq]
 constructor
 ·intro e
  apply UInt8.toNat_inj.1
  have:(UInt8.ofNat n).toNat=n:=by simp;omega
  omega
 ·intro e
  have:(UInt8.ofNat n).toNat=n:=by simp;omega
  rw[e,this]
theorem u8_ne (b:UInt8)(n:Nat)(h:n < 256):((b.toNat:Int) != (n:Int))=(b != UInt8.ofNat n):=by
 simp only[bne,qmsb b n h]
theorem u8_lt (b:UInt8):(b.toNat:Int) < 256:=by have:=b.toNat_lt;omega
theorem qltb (x a b:Int):out qcf [.one (Cell.int x),.one (Cell.int a),.one (Cell.int b)]=some [.one (Cell.bool (inR x a b))]:=by
 refine qbb (H:=[]) (qaob 0 ?_)
 simp only[fcj,inR]
 by_cases h:a≤x
 ·rw[decide_eq_true (by omega:x≥a),cond_true,Bool.true_and]
 ·rw[decide_eq_false (by omega:¬ x≥a),cond_false,Bool.false_and]
theorem qcoc (x a b:Int):out qga [.one (Cell.int x),.one (Cell.int a),.one (Cell.int b)]=some [.one (Cell.bool (inR x a b))]:=by
 refine qbb (H:=[]) (qapb 0 ?_)
 simp only[fan,inR]
 by_cases h:a≤x
 ·rw[decide_eq_true (by omega:x≥a),cond_true,Bool.true_and]
 ·rw[decide_eq_false (by omega:¬ x≥a),cond_false,Bool.false_and]
theorem c_fcn (b:UInt8):out qjv [.one (.sc (.int .u8 (b.toNat:Int)))]=some [.one (Cell.bool (qdv b))]:=by
 have:=u8_lt b
 refine qbb (H:=[]) (qehb 0 ?_)
 simp only[fcn,wrap_small (n:=(b.toNat:Int)) (by omega) (by omega),qltb,EV0,qdv]
theorem c_fci (b:UInt8):out qfy [.one (.sc (.int .u8 (b.toNat:Int)))]=some [.one (Cell.bool (qax b))]:=by
 have:=u8_lt b
 refine qbb (H:=[]) (qzx 0 ?_)
 simp only[fci,wrap_small (n:=(b.toNat:Int)) (by omega) (by omega),qltb,EV0,qax]
theorem c_faq (b:UInt8):out qjj [.one (.sc (.int .u8 (b.toNat:Int)))]=some [.one (Cell.bool (qdv b))]:=by
 refine qbb (H:=[]) (qdub 0 ?_)
 simp only[faq,qdv,inR]
 by_cases h:(97:Int)≤b.toNat
 ·rw[decide_eq_true (by omega:(b.toNat:Int)≥97),cond_true,Bool.true_and]
 ·rw[decide_eq_false (by omega:¬ (b.toNat:Int)≥97),cond_false,Bool.false_and]
theorem c_fao (b:UInt8):out qfw [.one (.sc (.int .u8 (b.toNat:Int)))]=some [.one (Cell.bool (qax b))]:=by
 refine qbb (H:=[]) (qdib 0 ?_)
 simp only[fao,qax,inR]
 by_cases h:(48:Int)≤b.toNat
 ·rw[decide_eq_true (by omega:(b.toNat:Int)≥48),cond_true,Bool.true_and]
 ·rw[decide_eq_false (by omega:¬ (b.toNat:Int)≥48),cond_false,Bool.false_and]
theorem c_fbq (s:Str)(hs:s.length≤1073741824):out qlu [.one (Cell.str (bs s))]=some [.one (Cell.bool (qet s))]:=by
 have hM:=qai
 have loop:∀ (r:Str) (i n:Nat),s.drop i=r→r.length < n→∀ k m,qms k m n (bs s) i=some ([.one (Cell.bool (qkq (i==0) r&&inR s.length 1 10))],[]):=by
  intro r
  induction r with
  | nil=>
   intro i n hd hn k m
   obtain⟨n,rfl⟩:∃ j,n=j+1:=⟨n - 1,by omega⟩
   have:=drop_nil hd
   simp only[qms,qbi]
   rw[decide_eq_false (by omega),cond_false]
   simp only[qltb,EV0,qkq]
  | cons b r ih=>
   intro i n hd hn k m
   obtain⟨n,rfl⟩:∃ j,n=j+1:=⟨n - 1,by omega⟩
   obtain⟨hlt,hg,hd'⟩:=qas hd
   simp only[List.length_cons] at hn
   have hz:((i:Int)==0)=(i==0):=by rw[Bool.eq_iff_iff];simp
   simp only[qms,qhb,hg,c_fcn,c_fci,EV0]
   rw[decide_eq_true (by omega),cond_true,qaj (by omega),ih (i+1) n hd' (by omega)]
   have h45:((b.toNat:Int) != 45)=!(b==45):=u8_ne b 45 (by omega)
   simp only[qkq,hz,show((i+1:Nat)==0)=false from rfl,h45]
   cases qdv b<;>cases qax b<;>cases (b==45)<;>cases (i==0)<;>rfl
 refine qbb (H:=[]) (qdlb (s.length+1) ?_)
 have:=loop s 0 (s.length+1+1) rfl (by omega) (s.length+1+1) (s.length+1+1)
 simpa[fbq,qet] using this
theorem qdkc (s:Str)(hs:s.length≤1073741824):out qlc [.one (Cell.str (bs s))]=some [.one (Cell.bool (qet s))]:=by
 have hM:=qai
 have loop:∀ (r:Str) (i n:Nat),s.drop i=r→r.length < n→∀ k m,qmm k m n (bs s) i=some ([.one (Cell.bool (qkq (i==0) r&&inR s.length 1 10))],[]):=by
  intro r
  induction r with
  | nil=>
   intro i n hd hn k m
   obtain⟨n,rfl⟩:∃ j,n=j+1:=⟨n - 1,by omega⟩
   have:=drop_nil hd
   simp only[qmm,qbi]
   rw[decide_eq_false (by omega),cond_false]
   simp only[qcoc,EV0,qkq]
  | cons b r ih=>
   intro i n hd hn k m
   obtain⟨n,rfl⟩:∃ j,n=j+1:=⟨n - 1,by omega⟩
   obtain⟨hlt,hg,hd'⟩:=qas hd
   simp only[List.length_cons] at hn
   have hz:((i:Int)==0)=(i==0):=by rw[Bool.eq_iff_iff];simp
   simp only[qmm,qhb,hg,c_faq,c_fao,EV0]
   rw[decide_eq_true (by omega),cond_true,qaj (by omega),ih (i+1) n hd' (by omega)]
   have h45:((b.toNat:Int) != 45)=!(b==45):=u8_ne b 45 (by omega)
   simp only[qkq,hz,show((i+1:Nat)==0)=false from rfl,h45]
   cases qdv b<;>cases qax b<;>cases (b==45)<;>cases (i==0)<;>rfl
 refine qbb (H:=[]) (qcdb (s.length+1) ?_)
 have:=loop s 0 (s.length+1+1) rfl (by omega) (s.length+1+1) (s.length+1+1)
 simpa[faf,qet] using this
def qbv (c:UInt8)(cur:Str):Str→List Str | []=>[cur] | b::r=>if b=c then cur::qbv c [] r else qbv c (cur++[b]) r
def split (c:UInt8)(s:Str):List Str:=qbv c [] s
def ahead (c:UInt8)(s:Str):Str:=s.takeWhile (· != c)
def behind (c:UInt8)(s:Str):Str:=(s.dropWhile (· != c)).drop 1
theorem qge (c:UInt8):∀ (s cur:Str),(qbv c cur s).length≤s.length+1∧∀ x∈qbv c cur s,x.length≤cur.length+s.length:=by
 intro s
 induction s with
 | nil=>intro cur;simp[qbv]
 | cons b r ih=>
  intro cur
  simp only[qbv]
  split
  ·obtain⟨h1,h2⟩:=ih []
   refine⟨by simp;omega,fun x hx=>?_⟩
   rcases List.mem_cons.1 hx with rfl | hx
   ·simp
   ·have:=h2 x hx;simp at this;simp;omega
  ·obtain⟨h1,h2⟩:=ih (cur++[b])
   refine⟨by simp;omega,fun x hx=>?_⟩
   have:=h2 x hx;simp at this;simp;omega
theorem qzc {c:UInt8}:∀ {s:Str} (cur:Str),c∉s→qbv c cur s=[cur++s]:=by
 intro s
 induction s with
 | nil=>intro cur _;simp[qbv]
 | cons b r ih=>
  intro cur h
  simp only[List.mem_cons,not_or] at h
  simp only[qbv]
  rw[if_neg fun e=>h.1 e.symm,ih _ h.2]
  simp
theorem qyh {c:UInt8}:∀ {s:Str} (cur:Str),c∈s→qbv c cur s=(cur++ahead c s)::qbv c [] (behind c s):=by
 intro s
 induction s with
 | nil=>intro cur h;simp at h
 | cons b r ih=>
  intro cur h
  simp only[qbv]
  by_cases e:b=c
  ·subst e
   simp[ahead,behind]
  ·rw[if_neg e,ih _ (by simpa[Ne.symm e] using h)]
   simp[ahead,behind,e]
theorem qhn {c:UInt8}{s:Str}(h:c∉s):split c s=[s]:=qzc [] h
theorem qhr {c:UInt8}{s:Str}(h:c∈s):split c s=ahead c s::split c (behind c s):=qyh [] h
theorem qcrb {c:UInt8}:∀ (s cur:Str),qbv c cur s≠[]:=by
 intro s
 induction s with
 | nil=>intro cur;simp[qbv]
 | cons b r ih=>intro cur;simp only[qbv];split<;>simp[ih]
theorem qsc (c:UInt8)(s:Str):(ahead c s).length≤s.length:=by
 have:=(List.takeWhile_prefix (fun x=>x != c) (l:=s)).length_le
 exact this
theorem qmo (c:UInt8)(s:Str):(behind c s).length≤s.length:=by
 have:=(List.dropWhile_suffix (fun x=>x != c) (l:=s)).length_le
 simp only[behind,List.length_drop]
 omega
theorem qgqb {c:UInt8}(s:Str):c∉ahead c s:=by
 induction s with
 | nil=>simp[ahead]
 | cons b r ih=>
  unfold ahead
  rw[List.takeWhile_cons]
  split
  ·rename_i h
   intro hm
   rcases List.mem_cons.1 hm with e | e
   ·rw[← e] at h;simp at h
   ·exact ih e
  ·simp
theorem qaab:∀ {s:Str} {f:Bool},qkq f s=true→∀ b∈s,qdv b=true∨qax b=true∨b=45:=by
 intro s
 induction s with
 | nil=>intro f _ b hb;simp at hb
 | cons c r ih=>
  intro f h b hb
  simp only[qkq,Bool.and_eq_true,Bool.or_eq_true,beq_iff_eq] at h
  rcases List.mem_cons.1 hb with rfl | hb
  ·rcases h.1 with h1 | h1
   ·exact .inl h1
   ·rcases h1.2 with h2 | h2
    ·exact .inr (.inl h2)
    ·exact .inr (.inr h2)
  ·exact ih h.2 b hb
theorem qcib {s:Str}(h:qet s=true):(35:UInt8)∉s∧(94:UInt8)∉s:=by
 simp only[qet,Bool.and_eq_true] at h
 constructor<;>intro hb<;>rcases qaab h.1 _ hb with h | h | h<;>revert h<;>decide
theorem qbrb:qet []=false:=rfl
theorem c_fby (s:Str)(c:UInt8)(hs:s.length≤1073741824):outL qgt [.one (Cell.str (bs s)),.one (.sc (.int .u8 (c.toNat:Int)))]=some [.one (qlx (split c s))]:=by
 have hM:=qai
 have loop:∀ (r:Str) (i from' n:Nat) (cur:Str) (cl:Cell) (H:List Entry) (done:List Str),s.drop i=r→from'≤i→i≤s.length→(s.take i).drop from'=cur→r.length+1 < n→Grow 1 cl H (done.map eStr)→done.length≤i→
   ∀ k m,∃ cl' H',qmb k m n (bs s) (c.toNat:Int) cl from' i H=some ([.one cl'],H')∧Grow 1 cl' H' ((done++qbv c cur r).map eStr):=by
  intro r
  induction r with
  | nil=>
   intro i from' n cur cl H done hd hf hi hc hn hg hdl k m
   obtain⟨n,rfl⟩:∃ j,n=j+2:=⟨n - 2,by omega⟩
   have hlen:=drop_nil hd
   have e:i=s.length:=by omega
   subst e
   obtain⟨p,hp,hgp⟩:=hg.app (by':=16) [eStr cur] (by simp[bound];omega) (by simp[bound];omega)
   refine⟨p.1,p.2,?_,by simpa[qbv] using hgp⟩
   simp only[qmb,qbi]
   rw[decide_eq_true (by omega),cond_true,show(((s.length:Nat):Int)==(s.length:Int))=true by simp,cond_true,qkv _ _ _ hf (Nat.le_refl _),hc]
   simp only[Option.bind_some]
   rw[show [[Cell.str (bs cur)]]=[eStr cur] from rfl,hp]
   simp only[Option.bind_some]
   rw[qaj (by omega),decide_eq_false (by omega),cond_false]
  | cons b r ih=>
   intro i from' n cur cl H done hd hf hi hc hn hg hdl k m
   obtain⟨n,rfl⟩:∃ j,n=j+1:=⟨n - 1,by omega⟩
   obtain⟨hlt,hgx,hd'⟩:=qas hd
   simp only[List.length_cons] at hn
   simp only[qmb,qbi,qhb,hgx,Option.map_some,Option.bind_some]
   rw[decide_eq_true (by omega),cond_true,show(((i:Nat):Int)==(s.length:Int))=false by simp;omega,cond_false,qaj (by omega)]
   have hbc:((b.toNat:Int)==(c.toNat:Int))=decide (b=c):=by
    rw[Bool.eq_iff_iff]
    simp only[beq_iff_eq,decide_eq_true_eq]
    exact⟨fun h=>UInt8.toNat_inj.1 (by omega),fun h=>by rw[h]⟩
   rw[hbc]
   by_cases e:b=c
   ·rw[decide_eq_true e,cond_true,qkv _ _ _ hf (by omega),hc]
    simp only[Option.bind_some]
    obtain⟨p,hp,hgp⟩:=hg.app (by':=16) [eStr cur] (by simp[bound];omega) (by simp[bound];omega)
    rw[show [[Cell.str (bs cur)]]=[eStr cur] from rfl,hp]
    simp only[Option.bind_some]
    obtain⟨cl',H',h1,h2⟩:=ih (i+1) (i+1) n [] p.1 p.2 (done++[cur]) hd' (Nat.le_refl _) (by omega) (by simp) (by omega) (by simpa using hgp) (by simp;omega) k m
    refine⟨cl',H',h1,?_⟩
    simpa[qbv,e] using h2
   ·rw[decide_eq_false e,cond_false]
    obtain⟨cl',H',h1,h2⟩:=ih (i+1) from' n (cur++[b]) cl H done hd' (by omega) (by omega) (by
     rw[← hc,List.take_add_one,hgx]
     simp only[Option.toList_some]
     rw[List.drop_append_of_le_length (by simp;omega)]) (by omega) hg (by omega) k m
    refine⟨cl',H',h1,?_⟩
    simpa[qbv,e] using h2
 obtain⟨cl',H',h1,h2⟩:=loop s 0 0 (s.length+1+1) [] (.lst true 1 []) [] [] rfl (by omega) (by omega) rfl (by omega) (.nil 1) (by simp) (s.length+1+1) (s.length+1+1)
 refine qcx (qcxb (s.length+1) (by simpa[fby] using h1)) ?_
 exact h2.read
theorem qibb {c:UInt8}{s:Str}(h:c∉s):ahead c s=s:=by
 induction s with
 | nil=>rfl
 | cons b r ih=>
  simp only[List.mem_cons,not_or] at h
  have:ahead c (b::r)=b::ahead c r:=by simp[ahead,Ne.symm h.1]
  rw[this,ih h.2]
theorem qku {c:UInt8}{s:Str}(h:c∉s):behind c s=[]:=by
 induction s with
 | nil=>rfl
 | cons b r ih=>
  simp only[List.mem_cons,not_or] at h
  have:behind c (b::r)=behind c r:=by simp[behind,Ne.symm h.1]
  rw[this,ih h.2]
def qbp (s:Str):Str×Str×Bool:=if qet (ahead 35 s)&&qet (behind 35 s) then (ahead 35 s,behind 35 s,true) else ([],[],false)
def qdb (s:Str):List AV:=[.one (Cell.str (bs (qbp s).1)),.one (Cell.str (bs (qbp s).2.1)),.one (Cell.bool (qbp s).2.2)]
theorem qvo (b:UInt8)(r:Str):bytS (bs (b::r)) 0=some (b.toNat:Int):=by
 have:=qhb (b::r) 0
 simpa using this
theorem qio (c:UInt8)(s:Str):Lib.indexByte s c=if c∈s then ((ahead c s).length:Int) else -1:=by
 induction s with
 | nil=>rfl
 | cons b r ih=>
  simp only[Lib.indexByte]
  by_cases e:b=c
  ·subst e
   simp[ahead]
  ·have e1:(b==c)=false:=by simpa using e
   simp only[e1,Bool.false_eq_true,if_false]
   have e2:ahead c (b::r)=b::ahead c r:=by simp[ahead,e]
   by_cases h:c∈r
   ·rw[if_pos h] at ih
    rw[ih,if_neg (by simp<;>omega),if_pos (List.mem_cons_of_mem _ h),e2]
    simp
   ·rw[if_neg h] at ih
    rw[ih,if_pos (by simp),if_neg]
    intro hm
    rcases List.mem_cons.1 hm with q | q
    ·exact e q.symm
    ·exact h q
theorem qii (c:UInt8)(s:Str):s.take (ahead c s).length=ahead c s:=
 (List.prefix_iff_eq_take.1 (List.takeWhile_prefix _)).symm
theorem qsb {c:UInt8}{s:Str}(h:c∈s):(ahead c s).length < s.length:=by
 have h1:=qsc c s
 rcases Nat.lt_or_ge (ahead c s).length s.length with h2 | h2
 ·exact h2
 ·have h3:=qii c s
  rw[List.take_of_length_le h2] at h3
  rw[h3] at h
  exact absurd h (qgqb s)
theorem qgn (c:UInt8)(s:Str):s.drop ((ahead c s).length+1)=behind c s:=by
 have h:s=ahead c s++s.dropWhile (· != c):=(List.takeWhile_append_dropWhile).symm
 have h2:s.drop (ahead c s).length=s.dropWhile (· != c):=by
  rw[congrArg (List.drop (ahead c s).length) h,List.drop_left]
 rw[← List.drop_drop,h2]
 rfl
theorem c_fbb (s:Str)(c:UInt8):out qkx [.one (Cell.str (bs s)),.one (.sc (.int .u8 (c.toNat:Int)))]=some [.one (Cell.int (Lib.indexByte s c))]:=by
 simp[out,qkx]
theorem c_fba (s:Str)(c:UInt8):out qjf [.one (Cell.str (bs s)),.one (Cell.str (bs [c]))]=some [.one (Cell.int (Lib.indexByte s c))]:=by
 refine qbb (H:=[]) (qzu 0 ?_)
 simp only[fba,qvo,c_fbb,EV0]
 rw[show(((0+1:Nat):Int)==0)=false from rfl,show(((0+1:Nat):Int)==1)=true from rfl,cond_false,cond_true]
 by_cases h:[c]=s
 ·rw[← h]
  simp[Lib.indexByte]
 ·rw[show([c]==s)=false by simpa using h,cond_false]
def cutV (c:UInt8)(s:Str):List AV:=if c∈s then [.one (Cell.str (bs (ahead c s))),.one (Cell.str (bs (behind c s))),.one (Cell.bool true)] else [.one (Cell.str (bs s)),.one (Cell.str (bs [])),.one (Cell.bool false)]
theorem c_faz (s:Str)(c:UInt8)(hs:s.length≤1073741824):out qps [.one (Cell.str (bs s)),.one (Cell.str (bs [c]))]=some (cutV c s):=by
 refine qbb (H:=[]) (qbob 0 ?_)
 simp only[faz,c_fba,EV0]
 rw[qio]
 unfold cutV
 by_cases h:c∈s
 ·have h1:=qsb h
  rw[if_pos h,if_pos h,decide_eq_true (by omega),cond_true]
  have e1:=qkv s 0 (ahead c s).length (by omega) (by omega)
  simp only[Int.natCast_zero,List.drop_zero,qii] at e1
  rw[e1]
  simp only[Option.bind_some]
  rw[show(((ahead c s).length:Int)+((0+1:Nat):Int))=(((ahead c s).length+1:Nat):Int) by omega,wrap_small (by omega) (by omega),qkv s _ _ (by omega) (Nat.le_refl _),List.take_length,qgn]
  rfl
 ·rw[if_neg h,if_neg h,decide_eq_false (by omega),cond_false]
theorem c_fcu (s:Str)(c:UInt8)(hs:s.length≤1073741824):out qnc [.one (Cell.str (bs s)),.one (Cell.str (bs [c]))]=some (cutV c s):=by
 refine qbb (H:=[]) (qzt 0 ?_)
 simp only[fcu,c_faz s c hs,EV0]
 unfold cutV
 by_cases h:c∈s
 ·simp only[if_pos h,EV0]
 ·simp only[if_neg h,EV0]
theorem c_fai (s:Str)(hs:s.length≤1073741824):out qoy [.one (Cell.str (bs s))]=some (qdb s):=by
 have l1:=qsc 35 s
 have l2:=qmo 35 s
 refine qbb (H:=[]) (qdnb 0 ?_)
 simp only[fai,c_fcu s 35 hs,EV0]
 unfold cutV qdb qbp
 by_cases h:(35:UInt8)∈s
 ·simp only[if_pos h,qdkc _ (Nat.le_trans l1 hs),qdkc _ (Nat.le_trans l2 hs),EV0]
  cases qet (ahead 35 s)<;>cases qet (behind 35 s)<;>rfl
 ·simp only[if_neg h,qdkc _ hs,qdkc [] (by simp),EV0]
  rw[qibb h,qku h]
  cases qet s<;>rfl
theorem c_fbt (s:Str)(hs:s.length≤1073741824):out qnf [.one (Cell.str (bs s))]=some (qdb s):=by
 have l1:=qsc 35 s
 have l2:=qmo 35 s
 refine qbb (H:=[]) (qdxb 0 ?_)
 have e35:(35:Int)=((35:UInt8).toNat:Int):=rfl
 simp only[fbt]
 rw[e35,qgh,c_fby s 35 hs]
 simp only[EV0]
 have z0:∀ (x:Str) (r:List Str),idxA 1 (qlx (x::r)) 0=some (.ref (eStr x) 0):=fun x r=>by
  have:=qat 1 eStr (x::r) 0
  simpa using this
 have z1:∀ (x y:Str) (r:List Str),idxA 1 (qlx (x::y::r)) 1=some (.ref (eStr y) 0):=fun x y r=>by
  have:=qat 1 eStr (x::y::r) 1
  simpa using this
 unfold qdb qbp
 by_cases h:(35:UInt8)∈s
 ·rw[qhr h]
  by_cases h2:(35:UInt8)∈behind 35 s
  ·rw[qhr h2]
   have e2:qet (behind 35 s)=false:=by
    cases e:qet (behind 35 s) with
    | false=>rfl
    | true=>exact absurd h2 (qcib e).1
   have hn:(split 35 (behind 35 (behind 35 s))).length≠0:=by
    intro e
    exact qcrb _ _ (List.length_eq_zero_iff.1 e)
   simp only[List.length_cons]
   rw[show((((split 35 (behind 35 (behind 35 s))).length+1+1:Nat):Int) != 2)=true by simp only[bne_iff_ne,ne_eq];omega,cond_true,e2,Bool.and_false]
   rfl
  ·rw[qhn h2]
   simp only[z0,z1,eStr,c_fbq _ (Nat.le_trans l1 hs),c_fbq _ (Nat.le_trans l2 hs),EV0]
   rw[show(((0+1+1:Nat):Int) != 2)=false from rfl,cond_false]
   cases qet (ahead 35 s)<;>cases qet (behind 35 s)<;>rfl
 ·rw[qhn h,qku h,qbrb,Bool.and_false]
  simp only[EV0]
  rfl
def lt (a b:Str):Bool:=Op.bytesLess a b
theorem lt_not:∀ (a b:Str),(lt a b||a==b)=!lt b a:=by
 unfold lt
 intro a
 induction a with
 | nil=>intro b;cases b<;>rfl
 | cons x a ih=>
  intro b
  cases b with
  | nil=>rfl
  | cons y b=>
   have h:=ih b
   simp only[Op.bytesLess]
   have e:((x::a)==(y::b))=(x==y&&a==b):=rfl
   rw[e]
   rcases Nat.lt_trichotomy x.toNat y.toNat with h1 | h1 | h1
   ·have e1:decide (x < y)=true:=by simpa[UInt8.lt_iff_toNat_lt] using h1
    have e2:decide (y < x)=false:=by simp[UInt8.lt_iff_toNat_lt];omega
    have e3:(y==x)=false:=by simp;intro e;rw[e] at h1;omega
    simp[e1,e2,e3]
   ·have e0:=UInt8.toNat_inj.1 h1
    subst e0
    have e1:decide (x < x)=false:=by simp
    simp only[e1,Bool.false_or,beq_self_eq_true,Bool.true_and,h]
   ·have e1:decide (y < x)=true:=by simpa[UInt8.lt_iff_toNat_lt] using h1
    have e2:decide (x < y)=false:=by simp[UInt8.lt_iff_toNat_lt];omega
    have e3:(x==y)=false:=by simp;intro e;rw[e] at h1;omega
    simp[e1,e2,e3]
theorem bl_eq (a b:Str):Op.bytesLess a b=lt a b:=rfl
theorem qho {i:Nat}(h:i < Go.maxLen):IntKind.i64.wrap (((i+1:Nat):Int) - 1)=(i:Int):=by
 have:=qai
 rw[wrap_small (by omega) (by omega)]
 omega
theorem c_far (s:Str)(hs:s.length≤1073741824):out qot [.one (Cell.str (bs s))]=some [.one (Cell.bool (qbp s).2.2)]:=by
 refine qbb (H:=[]) (qctb 0 ?_)
 simp only[far,c_fai s hs,qdb,EV0]
open Classical in
theorem c_fcv (s:Str)(c:UInt8)(hs:s.length≤1073741824):out qne [.one (Cell.str (bs s)),.one (Cell.str (bs [c]))]=some [.one (Cell.int (Lib.indexByte s c))]:=by
 refine qbb (H:=[]) (qzq 0 ?_)
 simp only[fcv,c_fba,EV0]
theorem c_fct (s:Str)(c:UInt8):out qvg [.one (Cell.str (bs s)),.one (Cell.str (bs [c]))]=some [.one (Cell.int ((s.count c:Nat):Int))]:=by
 refine qbb (H:=[]) ?_
 show qgd _ _=_
 simp only[qgd,qnx]
 rfl
theorem qti {c:UInt8}{s:Str}(h:c∈s):s.count c=(behind c s).count c+1:=by
 induction s with
 | nil=>simp at h
 | cons b r ih=>
  by_cases e:b=c
  ·subst e
   simp[behind,List.dropWhile_cons]
  ·have hr:c∈r:=by
    rcases List.mem_cons.1 h with h | h
    ·exact absurd h.symm e
    ·exact h
   have hb:behind c (b::r)=behind c r:=by
    have:(b != c)=true:=by simpa using e
    simp[behind,List.dropWhile_cons,this]
   rw[hb,List.count_cons,ih hr]
   simp[e]
theorem qua {c:UInt8}{s:Str}(h:c∉s):s.count c=0:=List.count_eq_zero.2 h
theorem qtp (c:UInt8):∀ (n:Nat) (s:Str),s.length≤n→(split c s).length=s.count c+1:=by
 intro n
 induction n with
 | zero=>
  intro s h
  have:s=[]:=List.eq_nil_of_length_eq_zero (by omega)
  subst this
  rfl
 | succ n ih=>
  intro s h
  by_cases hc:c∈s
  ·have hl:(behind c s).length < s.length:=by
    have:=qsb hc
    have h2:=qgn c s
    rw[← h2,List.length_drop]
    omega
   rw[qhr hc,List.length_cons,ih _ (by omega),qti hc]
  ·rw[qhn hc,qua hc]
   rfl
theorem r_fcy (s:Str)(c:UInt8)(hs:s.length≤1073741824):qlj [.one (Cell.str (bs s)),.one (Cell.str (bs [c])),.one (Cell.int 0),.one (Cell.int (-1))] []=some ([.one (.vs 0 1 0 (s.count c+1) 0)],[Entry.mk 1 ((split c s).map eStr) 0 false]):=by
 have hM:=qai
 have hct:s.count c≤s.length:=List.count_le_length
 have hsl:=qtp c s.length s (Nat.le_refl _)
 have hput:∀ (rows:List (List Cell)) (i:Nat) (row:List Cell) (y:Str),rows[i]?=some row→row.length=1→qby [Entry.mk 1 rows 0 false] (.ptr 0 1 i 0 0) [Cell.str (bs y)]=some [Entry.mk 1 (rows.set i (eStr y)) 0 false]:=by
  intro rows i row y h hr
  simp only[qby,entry?,List.getElem?_cons_zero,if_true,h]
  rw[if_pos ⟨trivial,by simp,trivial⟩]
  simp[splice,eStr,hr,List.drop_eq_nil_of_le]
 have loop:∀ (d:Nat) (r:Str) (done:List Str) (n:Nat),r.count c=d→done.length+d=s.count c→r.length≤s.length→split c s=done++split c r→d < n→∀ k m,
   qog k m n (bs r) (bs [c]) 0 ((s.count c:Nat):Int) (.vs 0 1 0 (s.count c+1) 0) ((done.length:Nat):Int) [Entry.mk 1 (done.map eStr++List.replicate (d+1) [Cell.str (bs [])]) 0 false]=
    some ([.one (.vs 0 1 0 (s.count c+1) 0)],[Entry.mk 1 ((split c s).map eStr) 0 false]):=by
  intro d
  induction d with
  | zero=>
   intro r done n hc hd hr hsp hn k m
   obtain⟨n,rfl⟩:∃ j,n=j+1:=⟨n - 1,by omega⟩
   have hnc:c∉r:=List.count_eq_zero.1 hc
   simp only[qog]
   rw[decide_eq_false (by omega),cond_false]
   have hrow:(done.map eStr++List.replicate (0+1) [Cell.str (bs [])])[done.length]?=some [Cell.str (bs [])]:=by simp
   simp only[qgx 0 1 (s.count c+1) 0 done.length (by omega),Option.bind_some,hput _ _ _ r hrow rfl]
   have hset:(done.map eStr++List.replicate (0+1) [Cell.str (bs [])]).set done.length (eStr r)=(split c s).map eStr:=by
    rw[hsp,qhn hnc,List.set_append_right _ _ (by simp)]
    simp
   rw[hset,show IntKind.i64.wrap ((done.length:Int)+1)=((s.count c+1:Nat):Int) by rw[qaj (by omega)];omega]
   have hsl':slcC 1 (.vs 0 1 0 (s.count c+1) 0) 0 (some ((s.count c+1:Nat):Int)) none=some (.vs 0 1 0 (s.count c+1) 0):=by
    simp only[slcC,Option.getD_some,Option.getD_none,if_true]
    rw[if_pos ⟨by omega,by omega,by omega,by omega⟩,if_pos (.inl trivial)]
    simp
   rw[hsl']
   rfl
  | succ d ih=>
   intro r done n hc hd hr hsp hn k m
   obtain⟨n,rfl⟩:∃ j,n=j+1:=⟨n - 1,by omega⟩
   have hmem:c∈r:=by
    rcases Classical.em (c∈r) with h | h
    ·exact h
    ·have:=qua h;omega
   have hal:=qsb hmem
   have hbl:=qmo c r
   simp only[qog]
   rw[decide_eq_true (by omega),cond_true]
   have e0:Lib.indexByte r c=((ahead c r).length:Int):=by rw[qio,if_pos hmem]
   simp only[c_fcv r c (by omega),e0,EV0]
   rw[decide_eq_false (by omega),cond_false]
   have e1:=qkv r 0 (ahead c r).length (by omega) (by omega)
   simp only[Int.natCast_zero,List.drop_zero,qii] at e1
   rw[show IntKind.i64.wrap (((ahead c r).length:Int)+0)=((ahead c r).length:Int) by rw[Int.add_zero];exact wrap_small (by omega) (by omega),e1]
   have hrow:(done.map eStr++List.replicate (d+1+1) [Cell.str (bs [])])[done.length]?=some [Cell.str (bs [])]:=by simp
   simp only[Option.bind_some,qgx 0 1 (s.count c+1) 0 done.length (by omega),hput _ _ _ (ahead c r) hrow rfl]
   have e2:=qkv r ((ahead c r).length+1) r.length (by omega) (Nat.le_refl _)
   rw[List.take_length,qgn] at e2
   rw[show IntKind.i64.wrap (((ahead c r).length:Int)+((0+1:Nat):Int))=(((ahead c r).length+1:Nat):Int) by rw[wrap_small (by omega) (by omega)];omega,e2,qaj (by omega)]
   simp only[Option.bind_some]
   have hset:(done.map eStr++List.replicate (d+1+1) [Cell.str (bs [])]).set done.length (eStr (ahead c r))=(done++[ahead c r]).map eStr++List.replicate (d+1) [Cell.str (bs [])]:=by
    rw[List.set_append_right _ _ (by simp)]
    simp[List.replicate_succ]
   rw[hset]
   have:=ih (behind c r) (done++[ahead c r]) n (by have:=qti hmem;omega) (by simp;omega) (by omega) (by rw[hsp,qhr hmem];simp) (by omega) k m
   rw[show(done++[ahead c r]).length=done.length+1 by simp] at this
   exact this
 have hmin:(if IntKind.i64.wrap ((s.length:Int)+1) < IntKind.i64.wrap (((s.count c:Nat):Int)+1) then IntKind.i64.wrap ((s.length:Int)+1) else IntKind.i64.wrap (((s.count c:Nat):Int)+1))=((s.count c+1:Nat):Int):=by
  rw[qaj (by omega),qaj (by omega),if_neg (by omega)]
 have z:=loop (s.count c) s [] (s.count c+1+1) rfl (by simp) (Nat.le_refl _) (by simp) (by omega) (s.count c+1+1) (s.count c+1+1)
 refine qdcb (s.count c+1) ?_
 ·simp only[fcy]
  rw[show((-1:Int)==0)=false from rfl,cond_false]
  simp only[qfo]
  rw[show(([c]:Str)==[])=false from rfl,cond_false,show decide ((-1:Int) < 0)=true from rfl,cond_true]
  simp only[c_fct,EV0,hmin]
  rw[if_pos ⟨by omega,by omega,by unfold bound;omega,by unfold bound;omega⟩]
  rw[show IntKind.i64.wrap (((s.count c+1:Nat):Int) - 1)=((s.count c:Nat):Int) from qho (by omega)]
  simpa[qbh] using z
theorem c_fcy (s:Str)(c:UInt8)(hs:s.length≤1073741824):outL qlj [.one (Cell.str (bs s)),.one (Cell.str (bs [c])),.one (Cell.int 0),.one (Cell.int (-1))]=some [.one (qlx (split c s))]:=by
 refine qcx (r_fcy s c hs) ?_
 have:=qdmb (sz:=1) eStr (split c s) 0 false
 rw[qtp c s.length s (Nat.le_refl _)] at this
 exact this
theorem c_fcw (s:Str)(c:UInt8)(hs:s.length≤1073741824):outL qox [.one (Cell.str (bs s)),.one (Cell.str (bs [c]))]=some [.one (qlx (split c s))]:=by
 refine qccb (H:=[]) (qekb 0 ?_)
 simp only[fcw,c_fcy s c hs,EV0]
def qmn (b:UInt8):Bool:=qdv b||(qax b||(b==46||(b==45||b==95)))
def qfg (s:Str):Bool:=s.all qmn&&(inR s.length 1 12&&(!(s==[46])&&!(s==[46,46])))
theorem c_fcp (b:UInt8):out qqf [.one (.sc (.int .u8 (b.toNat:Int)))]=some [.one (Cell.bool (qmn b))]:=by
 refine qbb (H:=[]) (qasb 0 ?_)
 simp only[fcp,c_fcn,c_fci,EV0]
 rw[show((b.toNat:Int)==46)=(b==46) from qmsb b 46 (by omega),show((b.toNat:Int)==45)=(b==45) from qmsb b 45 (by omega),show((b.toNat:Int)==95)=(b==95) from qmsb b 95 (by omega)]
 unfold qmn
 cases qdv b<;>cases qax b<;>cases b==46<;>cases b==45<;>cases b==95<;>rfl
theorem c_fap (b:UInt8):out qql [.one (.sc (.int .u8 (b.toNat:Int)))]=some [.one (Cell.bool (qmn b))]:=by
 refine qbb (H:=[]) (qecb 0 ?_)
 simp only[fap,c_faq,c_fao,EV0]
 rw[show((b.toNat:Int)==46)=(b==46) from qmsb b 46 (by omega),show((b.toNat:Int)==45)=(b==45) from qmsb b 45 (by omega),show((b.toNat:Int)==95)=(b==95) from qmsb b 95 (by omega)]
 unfold qmn
 cases qdv b<;>cases qax b<;>cases b==46<;>cases b==45<;>cases b==95<;>rfl
theorem c_fcq (s:Str)(hs:s.length≤1073741824):out qka [.one (Cell.str (bs s))]=some [.one (Cell.bool (qfg s))]:=by
 have hM:=qai
 have loop:∀ (r:Str) (i n:Nat),s.drop i=r→r.length < n→∀ k m,qsj k m n (bs s) i=some ([.one (Cell.bool (r.all qmn&&(inR s.length 1 12&&(!(s==[46])&&!(s==[46,46])))))],[]):=by
  intro r
  induction r with
  | nil=>
   intro i n hd hn k m
   obtain⟨n,rfl⟩:∃ j,n=j+1:=⟨n - 1,by omega⟩
   have:=drop_nil hd
   simp only[qsj,qbi]
   rw[decide_eq_false (by omega),cond_false]
   simp only[qltb,EV0]
   cases inR (s.length:Int) 1 12<;>cases s==[46]<;>cases s==[46,46]<;>rfl
  | cons b r ih=>
   intro i n hd hn k m
   obtain⟨n,rfl⟩:∃ j,n=j+1:=⟨n - 1,by omega⟩
   obtain⟨hlt,hg,hd'⟩:=qas hd
   simp only[List.length_cons] at hn
   simp only[qsj,qbi,qhb,hg,Option.map_some,c_fcp,EV0]
   rw[decide_eq_true (by omega),cond_true,qaj (by omega),ih (i+1) n hd' (by omega)]
   cases hb:qmn b<;>simp[hb]
 refine qbb (H:=[]) (qdob (s.length+1) ?_)
 have:=loop s 0 (s.length+1+1) rfl (by omega) (s.length+1+1) (s.length+1+1)
 simpa[fcq,qfg] using this
theorem c_fam (s:Str)(hs:s.length≤1073741824):out qjw [.one (Cell.str (bs s))]=some [.one (Cell.bool (qfg s))]:=by
 have hM:=qai
 have loop:∀ (r:Str) (i n:Nat),s.drop i=r→r.length < n→∀ k m,qrm k m n (bs s) i=some ([.one (Cell.bool (r.all qmn&&(inR s.length 1 12&&(!(s==[46])&&!(s==[46,46])))))],[]):=by
  intro r
  induction r with
  | nil=>
   intro i n hd hn k m
   obtain⟨n,rfl⟩:∃ j,n=j+1:=⟨n - 1,by omega⟩
   have:=drop_nil hd
   simp only[qrm,qbi]
   rw[decide_eq_false (by omega),cond_false]
   simp only[qcoc,EV0]
   cases inR (s.length:Int) 1 12<;>cases s==[46]<;>cases s==[46,46]<;>rfl
  | cons b r ih=>
   intro i n hd hn k m
   obtain⟨n,rfl⟩:∃ j,n=j+1:=⟨n - 1,by omega⟩
   obtain⟨hlt,hg,hd'⟩:=qas hd
   simp only[List.length_cons] at hn
   simp only[qrm,qbi,qhb,hg,Option.map_some,c_fap,EV0]
   rw[decide_eq_true (by omega),cond_true,qaj (by omega),ih (i+1) n hd' (by omega)]
   cases hb:qmn b<;>simp[hb]
 refine qbb (H:=[]) (qatb (s.length+1) ?_)
 have:=loop s 0 (s.length+1+1) rfl (by omega) (s.length+1+1) (s.length+1+1)
 simpa[fam,qfg] using this
def qjq (s:Str):Bool:=(split 47 s).all qfg&&decide ((split 47 s).length≤4)
theorem n_le (n k:Nat):decide ((n:Int)≤(k:Int))=decide (n≤k):=by rw[decide_eq_decide];omega
theorem c_fbu (s:Str)(hs:s.length≤1073741823):out qqp [.one (Cell.str (bs s))]=some [.one (Cell.bool (qjq s))]:=by
 have hM:=qai
 have e0:outL qgt [.one (Cell.str (bs s)),.one (.sc (.int .u8 47))]=some [.one (qlx (split 47 s))]:=c_fby s 47 (by omega)
 have hl:=qge 47 s []
 have hlen:∀ x∈split 47 s,x.length≤1073741824:=fun x hx=>Nat.le_trans (hl.2 x hx) (by simp;omega)
 have hll:(split 47 s).length≤s.length+1:=hl.1
 unfold qjq
 generalize split 47 s=W at*
 refine qbb (H:=[]) (qzp (W.length+1) ?_)
 simp only[fbu,e0,EV0]
 rw[qmq W (fun n i=>qsd (W.length+1+1) (W.length+1+1) n (qlx W) i []) qfg (some ([.one (Cell.bool (decide (W.length≤4)))],[])) (some ([.one (Cell.bool false)],[])) ?_ ?_ _ (by omega)]
 ·exact qpeb _ _ _
 ·intro n i x hx hlt
  simp only[qsd,qag,qat,hx,eStr,c_fcq x (hlen x (List.mem_of_getElem? hx)),EV0]
  rw[decide_eq_true (by omega),cond_true,qaj (by omega)]
  cases qfg x<;>rfl
 ·intro n
  simp only[qsd,qag,EV0]
  rw[decide_eq_false (by omega),cond_false,show decide ((W.length:Int)≤4)=decide (W.length≤4) from n_le W.length 4]
theorem c_faj (s:Str)(hs:s.length≤1073741823):out qpl [.one (Cell.str (bs s))]=some [.one (Cell.bool (qjq s))]:=by
 have hM:=qai
 have e0:=c_fcw s 47 (by omega)
 have hl:=qge 47 s []
 have hlen:∀ x∈split 47 s,x.length≤1073741824:=fun x hx=>Nat.le_trans (hl.2 x hx) (by simp;omega)
 have hll:(split 47 s).length≤s.length+1:=hl.1
 unfold qjq
 generalize split 47 s=W at*
 refine qbb (H:=[]) (qebb (W.length+1) ?_)
 simp only[faj,e0,EV0]
 rw[qmq W (fun n i=>qsg (W.length+1+1) (W.length+1+1) n (qlx W) (qlx W) W.length i []) qfg (some ([.one (Cell.bool (decide (W.length≤4)))],[])) (some ([.one (Cell.bool false)],[])) ?_ ?_ _ (by omega)]
 ·exact qpeb _ _ _
 ·intro n i x hx hlt
  simp only[qsg,qat,hx,eStr,c_fam x (hlen x (List.mem_of_getElem? hx)),EV0]
  rw[decide_eq_true (by omega),cond_true,qaj (by omega)]
  cases qfg x<;>rfl
 ·intro n
  simp only[qsg,qag,EV0]
  rw[decide_eq_false (by omega),cond_false,show decide ((W.length:Int)≤4)=decide (W.length≤4) from n_le W.length 4]
def qpzb (l:List MFile)(i:Nat):Bool:=
 match l[i]? with
 | some f=>qjq f.Path&&(decide (f.Text.length≤60)&&(decide (i=0)||(match l[i - 1]? with
  | some g=>lt g.Path f.Path
  | none=>true)))
 | none=>true
def qey (l:List MFile):Bool:=(List.range l.length).all (qpzb l)&&decide (l.length≤30)
theorem qqe {l:List MFile}{f:MFile}(h:l[0]?=some f):qpzb l 0=(qjq f.Path&&decide (f.Text.length≤60)):=by
 unfold qpzb
 rw[h]
 simp
theorem qnm {l:List MFile}{i:Nat}{f g:MFile}(h:l[i+1]?=some f)(hg:l[i]?=some g):qpzb l (i+1)=(qjq f.Path&&(decide (f.Text.length≤60)&&lt g.Path f.Path)):=by
 unfold qpzb
 rw[h]
 simp[hg]
theorem c_fbm (l:List MFile)(hl:bdL 1048576 (MFile.Bd 1048576) l):out qgr [.one (encL 2 MFile.enc l)]=some [.one (Cell.bool (qey l))]:=by
 have hM:=qai
 have hxl:=hl.1
 refine qbb (H:=[]) (qdrb (l.length+1) ?_)
 unfold qey
 simp only[fbm]
 rw[qom l.length (fun n i=>qow (l.length+1+1) (l.length+1+1) n (encL 2 MFile.enc l) i) (qpzb l) (some ([.one (Cell.bool (decide (l.length≤30)))],[])) (some ([.one (Cell.bool false)],[])) ?_ ?_ _ (by omega)]
 ·exact qpeb _ _ _
 ·intro n i hlt
  obtain⟨f,hf⟩:∃ f,l[i]?=some f:=⟨l[i],List.getElem?_eq_getElem hlt⟩
  have hb:=hl.2 f (List.mem_of_getElem? hf)
  have e1:=c_fbu f.Path (Nat.le_trans hb.1 (by omega))
  have ht:decide ((f.Text.length:Int) > 60)=!decide (f.Text.length≤60):=by
   rw[show decide ((f.Text.length:Int) > 60)=decide (60 < f.Text.length) from by rw[decide_eq_decide];omega,← decide_not,decide_eq_decide]
   omega
  simp only[qow,qag,qat,hf,MFile.enc,qdy,Nat.zero_add,e1,ht,EV0]
  rw[decide_eq_true (by omega),cond_true,qaj (by omega)]
  cases i with
  | zero=>
   rw[qqe hf,decide_eq_false (p:=((0:Nat):Int) > 0) (by omega)]
   cases qjq f.Path<;>cases decide (f.Text.length≤60)<;>rfl
  | succ i=>
   obtain⟨g,hg⟩:∃ g,l[i]?=some g:=⟨l[i],List.getElem?_eq_getElem (by omega)⟩
   rw[qnm hf hg,decide_eq_true (p:=((i+1:Nat):Int) > 0) (by omega),qho (by omega)]
   simp only[qat,hg,MFile.enc,qdy,Nat.zero_add,bl_eq,EV0]
   cases qjq f.Path<;>cases decide (f.Text.length≤60)<;>cases lt g.Path f.Path<;>rfl
 ·intro n
  simp only[qow,qag,EV0]
  rw[decide_eq_false (by omega),cond_false,show decide ((l.length:Int)≤30)=decide (l.length≤30) from n_le l.length 30]
theorem c_fab (l:List MFile)(hl:bdL 1048576 (MFile.Bd 1048576) l):out qpb [.one (encL 2 MFile.enc l)]=some [.one (Cell.bool (qey l))]:=by
 have hM:=qai
 have hxl:=hl.1
 refine qbb (H:=[]) (qdfb (l.length+1) ?_)
 unfold qey
 simp only[fab,qag,Option.bind_some]
 rw[qom l.length (fun n i=>qpx (l.length+1+1) (l.length+1+1) n (encL 2 MFile.enc l) (encL 2 MFile.enc l) l.length i) (qpzb l) (some ([.one (Cell.bool (decide (l.length≤30)))],[])) (some ([.one (Cell.bool false)],[])) ?_ ?_ _ (by omega)]
 ·exact qpeb _ _ _
 ·intro n i hlt
  obtain⟨f,hf⟩:∃ f,l[i]?=some f:=⟨l[i],List.getElem?_eq_getElem hlt⟩
  have hb:=hl.2 f (List.mem_of_getElem? hf)
  have e1:=c_faj f.Path (Nat.le_trans hb.1 (by omega))
  have ht:decide ((f.Text.length:Int) > 60)=!decide (f.Text.length≤60):=by
   rw[show decide ((f.Text.length:Int) > 60)=decide (60 < f.Text.length) from by rw[decide_eq_decide];omega,← decide_not,decide_eq_decide]
   omega
  simp only[qpx,qag,qat,hf,MFile.enc,qdy,Nat.zero_add,e1,ht,EV0]
  rw[decide_eq_true (by omega),cond_true,qaj (by omega)]
  cases i with
  | zero=>
   rw[qqe hf,decide_eq_false (p:=((0:Nat):Int) > 0) (by omega)]
   cases qjq f.Path<;>cases decide (f.Text.length≤60)<;>rfl
  | succ i=>
   obtain⟨g,hg⟩:∃ g,l[i]?=some g:=⟨l[i],List.getElem?_eq_getElem (by omega)⟩
   rw[qnm hf hg,decide_eq_true (p:=((i+1:Nat):Int) > 0) (by omega),qho (by omega)]
   simp only[qat,hg,MFile.enc,qdy,Nat.zero_add,bl_eq,lt_not,EV0]
   cases qjq f.Path<;>cases decide (f.Text.length≤60)<;>cases lt g.Path f.Path<;>rfl
 ·intro n
  simp only[qpx,qag,EV0]
  rw[decide_eq_false (by omega),cond_false,show decide ((l.length:Int)≤30)=decide (l.length≤30) from n_le l.length 30]
def qbeb (l:List MFile):Bool:=(l.all fun f=>qfg f.Path)&&(decide (l.length≤6)&&qey l)
def qfsb (m:MMade):Bool:=(qbp m.Task).2.2&&(qbeb m.Outs&&decide (m.Log.length≤200))
theorem c_fbp (m:MMade)(hm:m.Bd 1048576):out qlm [.agg [Cell.str (bs m.Task),encL 2 MFile.enc m.Outs,Cell.str (bs m.Log)]]=some [.one (Cell.bool (qfsb m))]:=by
 have hM:=qai
 obtain⟨b0,b1,b2⟩:=hm
 have hxl:=b1.1
 have e0:=c_fbt m.Task (Nat.le_trans b0 (by omega))
 refine qbb (H:=[]) (qbtb (m.Outs.length+1) ?_)
 simp only[fbp,e0,qdb,EV0]
 unfold qfsb qbeb
 rw[qmq m.Outs (fun n i=>qrj (m.Outs.length+1+1) (m.Outs.length+1+1) n (qbp m.Task).2.2 i (bs m.Task) (encL 2 MFile.enc m.Outs) (bs m.Log)) (fun f=>qfg f.Path)
  (some ([.one (Cell.bool ((qbp m.Task).2.2&&(decide (m.Outs.length≤6)&&(qey m.Outs&&decide (m.Log.length≤200)))))],[])) (some ([.one (Cell.bool false)],[])) ?_ ?_ _ (by omega)]
 ·rw[qpeb]
  cases (qbp m.Task).2.2<;>cases m.Outs.all (fun f=>qfg f.Path)<;>simp[Bool.and_assoc]
 ·intro n i x hx hlt
  have hb:=b1.2 x (List.mem_of_getElem? hx)
  simp only[qrj,qag,qat,hx,MFile.enc,qdy,Nat.zero_add,c_fcq x.Path (Nat.le_trans hb.1 (by omega)),EV0]
  rw[decide_eq_true (by omega),cond_true,qaj (by omega)]
  cases qfg x.Path<;>rfl
 ·intro n
  simp only[qrj,qag,c_fbm m.Outs b1,EV0]
  rw[decide_eq_false (by omega),cond_false,show decide ((m.Outs.length:Int)≤6)=decide (m.Outs.length≤6) from n_le m.Outs.length 6,show decide ((m.Log.length:Int)≤200)=decide (m.Log.length≤200) from n_le m.Log.length 200]
  cases (qbp m.Task).2.2<;>cases decide (m.Outs.length≤6)<;>cases qey m.Outs<;>rfl
theorem c_fas (l:List MFile)(hl:bdL 1048576 (MFile.Bd 1048576) l):out qqm [.one (encL 2 MFile.enc l)]=some [.one (Cell.bool (qbeb l))]:=by
 have hM:=qai
 have hxl:=hl.1
 refine qbb (H:=[]) (qbdb (l.length+1) ?_)
 unfold qbeb
 simp only[fas,qag,Option.bind_some]
 rw[qmq l (fun n i=>qru (l.length+1+1) (l.length+1+1) n (encL 2 MFile.enc l) (encL 2 MFile.enc l) l.length i) (fun f=>qfg f.Path) (some ([.one (Cell.bool (decide (l.length≤6)&&qey l))],[])) (some ([.one (Cell.bool false)],[])) ?_ ?_ _ (by omega)]
 ·exact qpeb _ _ _
 ·intro n i x hx hlt
  have hb:=hl.2 x (List.mem_of_getElem? hx)
  simp only[qru,qag,qat,hx,MFile.enc,qdy,Nat.zero_add,c_fam x.Path (Nat.le_trans hb.1 (by omega)),EV0]
  rw[decide_eq_true (by omega),cond_true,qaj (by omega)]
  cases qfg x.Path<;>rfl
 ·intro n
  simp only[qru,qag,c_fab l hl,EV0]
  rw[decide_eq_false (by omega),cond_false,show decide ((l.length:Int)≤6)=decide (l.length≤6) from n_le l.length 6]
  exact qpeb _ _ _
theorem c_fae (m:MMade)(hm:m.Bd 1048576):out qle [.agg [Cell.str (bs m.Task),encL 2 MFile.enc m.Outs,Cell.str (bs m.Log)]]=some [.one (Cell.bool (qfsb m))]:=by
 obtain⟨b0,b1,b2⟩:=hm
 refine qbb (H:=[]) (qaxb 0 ?_)
 unfold qfsb
 simp only[fae,c_far m.Task (Nat.le_trans b0 (by omega)),c_fas m.Outs b1,EV0]
 rw[show decide ((m.Log.length:Int)≤200)=decide (m.Log.length≤200) from n_le m.Log.length 200]
 cases (qbp m.Task).2.2<;>cases qbeb m.Outs<;>rfl
def b16 (n:Nat):Str:=[UInt8.ofNat (n / 256),UInt8.ofNat n]
def encT (s:Str):Str:=if 60000 < s.length then [] else b16 s.length++s
def numT (n:Nat):Str:=Lib.decDigits n
theorem qcc {u:Nat}(h:u < 10):Lib.decDigits u=[UInt8.ofNat (48+u)]:=by
 unfold Lib.decDigits
 rw[dif_pos h]
theorem qck {u:Nat}(h:¬ u < 10):Lib.decDigits u=Lib.decDigits (u / 10)++[UInt8.ofNat (48+u % 10)]:=by
 rw[Lib.decDigits,dif_neg h]
theorem qcl (s:Str):(encT s).length≤60002∧(encT s).length≤s.length+2:=by
 unfold encT b16
 split
 ·simp
 ·simp;omega
theorem qnt (n:Nat)(h:n≤1099511627776):(numT n).length≤21:=by
 have:=Lib.itoa_length_le (n:Int) (by omega) (by omega)
 have e:Lib.itoa (n:Int)=numT n:=by unfold Lib.itoa numT;rw[if_neg (by omega)];simp
 rwa [e] at this
theorem hi_u8 (n:Nat):IntKind.u8.wrap (shrI .i64 (n:Int) 8)=((UInt8.ofNat (n / 256)).toNat:Int):=by
 rw[← wrap_u8]
 congr 1
 unfold shrI
 rw[show(2:Int) ^ (min (8:Int).toNat IntKind.i64.bits)=256 from rfl,Int.fdiv_eq_ediv_of_nonneg _ (by omega)]
 omega
theorem qiv (n:Nat):[[Cell.sc (.int .u8 (IntKind.u8.wrap (shrI .i64 (n:Int) 8)))],[Cell.sc (.int .u8 (IntKind.u8.wrap (n:Int)))]]=(b16 n).map qbf:=by
 rw[hi_u8,wrap_u8]
 rfl
theorem qma (s:Str):qcg (bs s)=s.map qbf:=by
 unfold qcg
 rw[show(bs s).data.toList=s from by simp[bs]]
 rfl
theorem qsp (H:List Entry)(e:Str):qbw H 1 (qaw e)=some (e.map qbf):=by simp[qbw,rowsOf,encL]
def BytM (H:List Entry)(c:Cell)(b:Str):Prop:=∃ ids,Rep H true true 2 ids c (trL 1 qdq b)∧ids.Nodup
theorem BytM.nil (H:List Entry):BytM H (.lst true 1 []) []:=⟨[],.inl ⟨rfl,rfl,true,rfl⟩,by simp⟩
theorem BytM.read {H:List Entry}{c:Cell}{b:Str}(h:BytM H c b):qak false H (.one c)=some (.one (qaw b)):=by
 obtain⟨ids,h,_⟩:=h
 have:=qek h (by omega)
 rwa [qbm] at this
theorem BytM.of {H E:List Entry}{c:Cell}{b:Str}{is:List Nat}{lo hi:Nat}(h:Rep (H++E) true true 2 is c (trL 1 qdq b))(w:Mine lo hi is):BytM (H++E) c b:=⟨is,h,w.nd⟩
theorem qhm {H:List Entry}{ids:List Nat}{c:Cell}{xs:Str}(h:Rep H true true 2 ids c (trL 1 qdq xs)):(xs=[]∧ids=[]∧∃ f,c=.lst f 1 [])∨∃ id ep,c=.vs id 1 0 xs.length ep∧ids=[id]∧H[id]?=some ⟨1,xs.map qbf,ep,false⟩:=by
 rcases h with⟨h1,h2,h3⟩ | ⟨id,off,ep,e,fr,is,rfl,rfl,he,hq,hwh,hl,hr,hs⟩
 ·exact .inl ⟨List.map_eq_nil_iff.1 h1,h2,h3⟩
 ·obtain⟨rfl,hle⟩:=hwh rfl
  obtain rfl:=hq rfl
  rw[List.drop_zero,hle,List.take_of_length_le (Nat.le_refl _)] at hs
  have key:∀ {is:List Nat} {e:List (List Cell)} {xs:Str},Sp (Sp (Rep H true true 1)) is e (xs.map qdq)→(∀ r∈e,r.length=1)→e=xs.map qbf∧is=[]:=by
   intro is e xs
   induction xs generalizing is e with
   | nil=>intro h _;obtain⟨rfl,rfl⟩:=h.nil_inv;exact⟨rfl,rfl⟩
   | cons x xs ih=>
    intro h hl
    obtain⟨i,i',a,as',rfl,rfl,h1,h2⟩:=h.cons_inv
    obtain⟨h3,h4⟩:=ih h2 fun r hr=>hl r (List.mem_cons_of_mem _ hr)
    obtain⟨k,k',a0,r',rfl,rfl,h5,h6⟩:=h1.cons_inv
    obtain⟨rfl,rfl⟩:=h6.nil_inv
    obtain⟨rfl,rfl⟩:=h5
    subst h3 h4
    exact⟨rfl,rfl⟩
  obtain⟨h1,h2⟩:=key hs hr
  subst h1 h2
  exact .inr ⟨id,ep,by simp,rfl,he⟩
theorem Grow.bytes {c:Cell}{H:List Entry}{b:Str}(h:Grow 1 c H (b.map qbf)):∃ ids,Rep H true true 2 ids c (trL 1 qdq b)∧ids.Nodup:=by
 obtain⟨ids,h1,h2,_⟩:=h.rep (tr:=qdq) (fun _ _=>rfl) (fun x _ H'=>Sp.leaf1 _)
 exact⟨ids,h1,h2⟩
theorem f_fbx (b s:Str)(hb:b.length≤8796093022208)(hs:s.length≤1073741824):Fresh qdl true 2 [.one (qaw b),.one (Cell.str (bs s))] [.one (trL 1 qdq (b++encT s))]:=by
 obtain⟨p1,a1,g1⟩:=(Grow.nil 1).app (by':=1) (b.map qbf) (by unfold bound;simp;omega) (by unfold bound;simp;omega)
 rw[List.nil_append] at g1
 by_cases h:60000 < s.length
 ·have e:encT s=[]:=if_pos h
  rw[e,List.append_nil]
  obtain⟨ids,r1,r2⟩:=g1.bytes
  refine Fresh.one (qqi 0 ?_) r1 r2
  simp only[fbx,qsp,a1,Option.bind_some,qbi]
  rw[decide_eq_true (by omega),cond_true]
 ·have e:encT s=b16 s.length++s:=if_neg h
  obtain⟨p2,a2,g2⟩:=g1.app (by':=1) ((b16 s.length).map qbf) (by unfold bound b16;simp;omega) (by unfold bound b16;simp;omega)
  rw[← List.map_append] at g2
  obtain⟨p3,a3,g3⟩:=g2.app (by':=1) (s.map qbf) (by unfold bound b16;simp;omega) (by unfold bound b16;simp;omega)
  rw[← List.map_append,List.append_assoc,← e] at g3
  obtain⟨ids,r1,r2⟩:=g3.bytes
  refine Fresh.one (qqi 0 ?_) r1 r2
  simp only[fbx,qsp,a1,Option.bind_some,qbi]
  rw[decide_eq_false (by omega),cond_false]
  simp only[qiv,qma,a2,a3,Option.bind_some]
theorem qduc {H:List Entry}{c:Cell}{b:Str}(h:BytM H c b)(s:Str)(hb:b.length≤8796093022208)(hs:s.length≤1073741824):∃ d E,qcr qdl [.one c,.one (Cell.str (bs s))] H=some ([.one d],H++E)∧BytM (H++E) d (b++encT s):=by
 obtain⟨d,E,is,e1,r1,w1,_⟩:=qpe (f_fbx b s hb hs) H (qca h.read (qay [.one (Cell.str (bs s))] _ _))
 exact⟨d,E,e1,is,r1,w1.nd⟩
theorem qamb (H:List Entry)(n:Nat):bytesOf H (.lst true 1 [[.sc (.int .u8 (IntKind.u8.wrap (IntKind.i64.wrap (48+(((n:Nat):Int).tmod 10)))))]])=some (bs [UInt8.ofNat (48+n % 10)]):=by
 have e:IntKind.i64.wrap (48+((n:Int).tmod 10))=((48+n % 10:Nat):Int):=by
  rw[Int.tmod_eq_emod_of_nonneg (by omega),wrap_small (by omega) (by omega)]
  omega
 rw[e,wrap_u8]
 generalize UInt8.ofNat (48+n % 10)=v
 simp[bytesOf,rowsOf,mapO,qulb,ofBytes,bs]
theorem c_fbr (n:Nat)(hn:n≤1099511627776):out qiw [.one (Cell.int n)]=some [.one (Cell.str (bs (numT n)))]:=by
 have loop:∀ (u:Nat) (s:Str) (q:Nat),u≤1099511627776→u+s.length < 2199023255552→u < q→∀ k m,qxy k m q u (bs s)=some ([.one (Cell.str (bs (if u < 10 then s else Lib.decDigits (u / 10)++s)))],[]):=by
  intro u
  induction u using Nat.strongRecOn with
  | _ u ih=>
   intro s q hu hs hq k m
   obtain⟨q,rfl⟩:∃ j,q=j+1:=⟨q - 1,by omega⟩
   simp only[qxy]
   by_cases h:u < 10
   ·rw[decide_eq_false (by omega),cond_false,if_pos h]
   ·have e:IntKind.i64.wrap ((u:Int).tdiv 10)=((u / 10:Nat):Int):=by
     rw[Int.tdiv_eq_ediv_of_nonneg (by omega),wrap_small (by omega) (by omega)]
     omega
    rw[decide_eq_true (by omega),cond_true,if_neg h,e,qamb]
    simp only[Option.bind_some]
    rw[qmqb (by simp;omega)]
    simp only[Option.bind_some]
    rw[ih (u / 10) (by omega) _ q (by omega) (by simp;omega) (by omega)]
    by_cases h2:u / 10 < 10
    ·rw[if_pos h2,qcc h2,Nat.mod_eq_of_lt h2]
    ·rw[if_neg h2,qck h2]
     simp
 refine qbb (H:=[]) (qzm n ?_)
 simp only[fbr]
 rw[decide_eq_false (by omega),cond_false,qamb]
 simp only[Option.bind_some]
 rw[loop n _ (n+1) hn (by simp;omega) (by omega)]
 unfold numT
 by_cases h:n < 10
 ·rw[if_pos h,qcc h,Nat.mod_eq_of_lt h]
 ·rw[if_neg h,qck h]
theorem c_fag (n:Nat)(hn:n≤1099511627776):out qjp [.one (Cell.int n)]=some [.one (Cell.str (bs (numT n)))]:=by
 have e:out qtl [.one (Cell.int n)]=some [.one (Cell.str (bs (numT n)))]:=by
  refine qbb (H:=[]) ?_
  show qiy _ _=_
  simp only[qiy]
  rw[if_pos ⟨by omega,by omega⟩]
  have:Lib.itoa (n:Int)=numT n:=by unfold Lib.itoa numT;rw[if_neg (by omega)];simp
  rw[this]
  rfl
 refine qbb (H:=[]) (qdhb 0 ?_)
 simp only[fag]
 rw[if_neg (by omega)]
 simp only[e,EV0]
theorem f_fcb (b:Str)(n:Nat)(hb:b.length≤8796093022208)(hn:n≤1099511627776):Fresh qpn true 2 [.one (qaw b),.one (Cell.int n)] [.one (trL 1 qdq (b++encT (numT n)))]:=by
 have:=qnt n hn
 refine Fresh.tailO (f_fbx b (numT n) hb (by omega)) [] (qay [.one (qaw b),.one (Cell.str (bs (numT n)))] _ _) fun c E h=>qbkb 0 ?_
 simp only[fcb,c_fbr n hn,h,EV0]
theorem qxib {c:Cell}{H:List Entry}{b:Str}(h:Grow 1 c H (b.map qbf))(s:Str)(hb:b.length≤8796093022208)(hs:s.length≤1073741824):∃ p:Cell×List Entry,qfb [.one c,.one (Cell.str (bs s))] H=some ([.one p.1],p.2)∧Grow 1 p.1 p.2 ((b++encT s).map qbf):=by
 by_cases h2:60000 < s.length
 ·have e:encT s=[]:=if_pos h2
  rw[e,List.append_nil]
  refine⟨(c,H),qoq 0 ?_,h⟩
  simp only[fau,qbi]
  rw[decide_eq_true (by omega),cond_true]
 ·have e:encT s=b16 s.length++s:=if_neg h2
  obtain⟨p2,a2,g2⟩:=h.app (by':=1) ((b16 s.length).map qbf) (by unfold bound b16;simp;omega) (by unfold bound b16;simp;omega)
  rw[← List.map_append] at g2
  obtain⟨p3,a3,g3⟩:=g2.app (by':=1) (s.map qbf) (by unfold bound b16;simp;omega) (by unfold bound b16;simp;omega)
  rw[← List.map_append,List.append_assoc,← e] at g3
  refine⟨p3,qoq 0 ?_,g3⟩
  simp only[fau,qbi]
  rw[decide_eq_false (by omega),cond_false]
  simp only[qiv,qma,a2,a3,Option.bind_some]
def qkg (l:List MFile):Str:=l.flatMap fun f=>encT f.Path++encT f.Text
def qbt (l:List MFile):Str:=encT (numT l.length)++qkg l
theorem qtdb (l:List MFile):(qkg l).length≤120004*l.length:=by
 induction l with
 | nil=>simp[qkg]
 | cons f l ih=>
  have h1:=(qcl f.Path).1
  have h2:=(qcl f.Text).1
  simp only[qkg,List.flatMap_cons,List.length_append,List.length_cons] at ih ⊢
  omega
theorem qyq (l:List MFile):(qbt l).length≤60002+120004*l.length:=by
 have h1:=(qcl (numT l.length)).1
 have h2:=qtdb l
 simp only[qbt,List.length_append]
 omega
theorem f_fcc (b:Str)(l:List MFile)(hb:b.length≤4398046511104)(hl:bdL 1048576 (MFile.Bd 1048576) l):Fresh qlz true 2 [.one (qaw b),.one (encL 2 MFile.enc l)] [.one (trL 1 qdq (b++qbt l))]:=by
 have hM:=qai
 have hxl:=hl.1
 have loop:∀ (r:List MFile) (i n:Nat) (b:Str) (c:Cell) (H:List Entry),BytM H c b→l.drop i=r→r.length < n→b.length+120004*r.length≤8796093022208→∀ k m,∃ d H',qrg k m n c (encL 2 MFile.enc l) i H=some ([.one d],H')∧BytM H' d (b++qkg r):=by
  intro r
  induction r with
  | nil=>
   intro i n b c H h hd hn hc k m
   obtain⟨n,rfl⟩:∃ j,n=j+1:=⟨n - 1,by omega⟩
   have:=drop_nil hd
   refine⟨c,H,?_,by simpa[qkg] using h⟩
   simp only[qrg,qag,Option.bind_some]
   rw[decide_eq_false (by omega),cond_false]
  | cons f r ih=>
   intro i n b c H h hd hn hc k m
   obtain⟨n,rfl⟩:∃ j,n=j+1:=⟨n - 1,by omega⟩
   obtain⟨hlt,hx,hd'⟩:=qas hd
   simp only[List.length_cons] at hn hc
   have hf:=hl.2 f (List.mem_of_getElem? hx)
   have h1:=(qcl f.Path).1
   have h2:=(qcl f.Text).1
   have k1:f.Path.length≤1048576:=hf.1
   have k2:f.Text.length≤1048576:=hf.2
   obtain⟨c1,E1,e1,g1⟩:=qduc h f.Path (by omega) (by omega)
   obtain⟨c2,E2,e2,g2⟩:=qduc g1 f.Text (by simp;omega) (by omega)
   obtain⟨d,H',e3,g3⟩:=ih (i+1) n _ c2 _ g2 hd' (by omega) (by simp;omega) k m
   refine⟨d,H',?_,by simpa[qkg] using g3⟩
   simp only[qrg,qag,qat,hx,MFile.enc,qdy,Nat.zero_add,e1,e2,EV0]
   rw[decide_eq_true (by omega),cond_true,qaj (by omega)]
   exact e3
 have h3:=(qcl (numT l.length)).1
 obtain⟨c1,E1,i1,e1,q1,w1,_⟩:=qpe (f_fcb b l.length (by omega) (by omega)) [] (qay [.one (qaw b),.one (Cell.int l.length)] _ _)
 obtain⟨d,H',e2,is,r1,r2⟩:=loop l 0 (l.length+1+1) (b++encT (numT l.length)) c1 _ ⟨i1,q1,w1.nd⟩ rfl (by omega) (by simp;omega) (l.length+1+1) (l.length+1+1)
 rw[show(b++encT (numT l.length))++qkg l=b++qbt l by simp[qbt]] at r1
 refine Fresh.one (qakb (l.length+1) ?_) r1 r2
 rw[show((0:Nat):Int)=0 from rfl] at e2
 simp only[fcc,qag,e1,e2,EV0]
theorem g_fcc {H:List Entry}{c:Cell}{b:Str}(h:BytM H c b)(l:List MFile)(hb:b.length≤4398046511104)(hl:bdL 1048576 (MFile.Bd 1048576) l):∃ d E,qcr qlz [.one c,.one (encL 2 MFile.enc l)] H=some ([.one d],H++E)∧BytM (H++E) d (b++qbt l):=by
 obtain⟨d,E,is,e1,r1,w1,_⟩:=qpe (f_fcc b l hb hl) H (qca h.read (qay [.one (encL 2 MFile.enc l)] _ _))
 exact⟨d,E,e1,is,r1,w1.nd⟩
theorem g_fat {c:Cell}{H:List Entry}{b:Str}(h:Grow 1 c H (b.map qbf))(l:List MFile)(hb:b.length≤4398046511104)(hl:bdL 1048576 (MFile.Bd 1048576) l):
  ∃ p:Cell×List Entry,qqq [.one c,.one (encL 2 MFile.enc l)] H=some ([.one p.1],p.2)∧Grow 1 p.1 p.2 ((b++qbt l).map qbf):=by
 have hM:=qai
 have hxl:=hl.1
 have loop:∀ (r:List MFile) (i n:Nat) (b:Str) (c:Cell) (H:List Entry),Grow 1 c H (b.map qbf)→l.drop i=r→r.length < n→b.length+120004*r.length≤8796093022208→∀ k m,
   ∃ p:Cell×List Entry,qsi k m n c (encL 2 MFile.enc l) l.length i H=some ([.one p.1],p.2)∧Grow 1 p.1 p.2 ((b++qkg r).map qbf):=by
  intro r
  induction r with
  | nil=>
   intro i n b c H h hd hn hc k m
   obtain⟨n,rfl⟩:∃ j,n=j+1:=⟨n - 1,by omega⟩
   have:=drop_nil hd
   refine⟨(c,H),?_,by simpa[qkg] using h⟩
   simp only[qsi]
   rw[decide_eq_false (by omega),cond_false]
  | cons f r ih=>
   intro i n b c H h hd hn hc k m
   obtain⟨n,rfl⟩:∃ j,n=j+1:=⟨n - 1,by omega⟩
   obtain⟨hlt,hx,hd'⟩:=qas hd
   simp only[List.length_cons] at hn hc
   have hf:=hl.2 f (List.mem_of_getElem? hx)
   have h1:=(qcl f.Path).1
   have h2:=(qcl f.Text).1
   have k1:f.Path.length≤1048576:=hf.1
   have k2:f.Text.length≤1048576:=hf.2
   obtain⟨p,e1,g1⟩:=qxib h f.Path (by omega) (by omega)
   obtain⟨q,e2,g2⟩:=qxib g1 f.Text (by simp;omega) (by omega)
   obtain⟨z,e3,g3⟩:=ih (i+1) n _ q.1 q.2 g2 hd' (by omega) (by simp;omega) k m
   refine⟨z,?_,by simpa[qkg] using g3⟩
   simp only[qsi,qat,hx,MFile.enc,e1,e2,EV0]
   rw[decide_eq_true (by omega),cond_true,qaj (by omega)]
   exact e3
 have h3:=(qcl (numT l.length)).1
 obtain⟨p,e1,g1⟩:=qxib h (numT l.length) (by omega) (by have:=qnt l.length (by omega);omega)
 obtain⟨q,e2,g2⟩:=loop l 0 (l.length+1+1) _ p.1 p.2 g1 rfl (by omega) (by simp;omega) (l.length+1+1) (l.length+1+1)
 refine⟨q,qchb (l.length+1) ?_,by simpa[qbt] using g2⟩
 rw[show((0:Nat):Int)=0 from rfl] at e2
 simp only[fat,qag,c_fag l.length (by omega),e1,e2,EV0]
theorem Grow.at {sz:Nat}{c:Cell}{H:List Entry}{rows:List (List Cell)}{i:Nat}{row:List Cell}(h:Grow sz c H rows)(hr:rows[i]?=some row):∃ a,idxA sz c (i:Int)=some a∧deref H a=some (row,0):=by
 have hlt:=(List.getElem?_eq_some_iff.1 hr).1
 rcases h with⟨rfl,_,_⟩ | ⟨ep,rfl,rfl⟩
 ·simp at hr
 ·exact⟨.ptr 0 sz i 0 ep,qgx _ _ _ _ _ hlt,by simp[deref,entry?,hr]⟩
theorem Grow.len {sz:Nat}{c:Cell}{H:List Entry}{rows:List (List Cell)}(h:Grow sz c H rows):lenC c=some rows.length:=by
 rcases h with⟨rfl,rfl,_⟩ | ⟨ep,rfl,rfl⟩<;>rfl
def sumB (b:Str):Nat:=(b.map UInt8.toNat).sum
theorem qwob (b:Str):sumB b≤255*b.length:=by
 induction b with
 | nil=>simp[sumB]
 | cons x b ih=>
  have:=x.toNat_lt
  simp only[sumB,List.map_cons,List.sum_cons,List.length_cons] at ih ⊢
  omega
theorem qso (n:Nat):b16 (n % 65536)=b16 n:=by
 unfold b16
 have h1:UInt8.ofNat (n % 65536 / 256)=UInt8.ofNat (n / 256):=by
  apply UInt8.toNat_inj.1
  simp only[UInt8.toNat_ofNat']
  omega
 have h2:UInt8.ofNat (n % 65536)=UInt8.ofNat n:=by
  apply UInt8.toNat_inj.1
  simp only[UInt8.toNat_ofNat']
  omega
 rw[h1,h2]
theorem c_fce (b:Str)(hb:b.length≤8796093022208):out qdx [.one (qaw b)]=some [.one (Cell.int ((sumB b % 65536:Nat):Int))]:=by
 have hM:=qai
 have loop:∀ (r:Str) (i n a:Nat),b.drop i=r→r.length < n→a < 65536→∀ k m,qqx k m n (qaw b) a i=some ([.one (Cell.int (((a+sumB r) % 65536:Nat):Int))],[]):=by
  intro r
  induction r with
  | nil=>
   intro i n a hd hn ha k m
   obtain⟨n,rfl⟩:∃ j,n=j+1:=⟨n - 1,by omega⟩
   have:=drop_nil hd
   simp only[qqx,qag,Option.bind_some]
   rw[decide_eq_false (by omega),cond_false,show(a+sumB []) % 65536=a by simp[sumB];omega]
  | cons x r ih=>
   intro i n a hd hn ha k m
   obtain⟨n,rfl⟩:∃ j,n=j+1:=⟨n - 1,by omega⟩
   obtain⟨hlt,hx,hd'⟩:=qas hd
   simp only[List.length_cons] at hn
   have hx8:=x.toNat_lt
   simp only[qqx,qag,qat,hx,qbf,EV0]
   rw[decide_eq_true (by omega),cond_true,qaj (by omega),wrap_small (n:=(x.toNat:Int)) (by omega) (by omega),wrap_small (by omega) (by omega),Int.tmod_eq_emod_of_nonneg (by omega),
    show((a:Int)+(x.toNat:Int)) % 65536=(((a+x.toNat) % 65536:Nat):Int) by omega,ih (i+1) n ((a+x.toNat) % 65536) hd' (by omega) (by omega) k m]
   congr 5
   simp only[sumB,List.map_cons,List.sum_cons]
   omega
 refine qbb (H:=[]) (qdyb (b.length+1) ?_)
 have:=loop b 0 (b.length+1+1) 0 rfl (by omega) (by omega) (b.length+1+1) (b.length+1+1)
 simpa[fce] using this
def qcm (m:MMade):Str:=encT m.Task++encT m.Log++qbt m.Outs
def qah (m:MMade):Str:=qcm m++b16 (sumB (qcm m))
theorem qrz (m:MMade)(hm:m.Bd 1048576):(qcm m).length≤137438953472:=by
 have h1:=(qcl m.Task).1
 have h2:=(qcl m.Log).1
 have h3:=qyq m.Outs
 have h4:=hm.2.1.1
 simp only[qcm,List.length_append]
 omega
theorem qhnb (m:MMade)(hm:m.Bd 1048576):bdS 1099511627776 (qah m):=by
 have:=qrz m hm
 unfold bdS qah b16
 simp
 omega
theorem x_fbw (m:MMade)(hm:m.Bd 1048576):∃ c H ids,qlr [.agg [Cell.str (bs m.Task),encL 2 MFile.enc m.Outs,Cell.str (bs m.Log)]] []=some ([.one c],H)∧Rep H true true 2 ids c (trL 1 qdq (qah m))∧ids.Nodup:=by
 have hle:=qrz m hm
 obtain⟨b0,b1,b2⟩:=hm
 have k0:m.Task.length≤1048576:=b0
 have k2:m.Log.length≤1048576:=b2
 have h1:=(qcl m.Task).1
 have h2:=(qcl m.Log).1
 obtain⟨c1,E1,e1,g1⟩:=qduc (BytM.nil []) m.Task (by simp) (by omega)
 obtain⟨c2,E2,e2,g2⟩:=qduc g1 m.Log (by simp;omega) (by omega)
 obtain⟨c3,E3,e3,g3⟩:=g_fcc g2 m.Outs (by simp;omega) b1
 rw[show []++encT m.Task++encT m.Log++qbt m.Outs=qcm m from rfl] at g3
 have e4:qba qdx [.one c3] ([]++E1++E2++E3)=some [.one (Cell.int ((sumB (qcm m) % 65536:Nat):Int))]:=by
  rw[qgj (qca g3.read (qaz _)),c_fce _ (by omega)]
 obtain⟨ids,r1,r2⟩:=g3
 have hne:qcm m≠[]:=by
  intro h
  have:=congrArg List.length h
  simp only[qcm,qbt,List.length_append,List.length_nil] at this
  have h5:(encT (numT m.Outs.length)).length=0:=by omega
  have h6:=qnt m.Outs.length (by have:=b1.1;omega)
  unfold encT b16 at h5
  rw[if_neg (by omega)] at h5
  simp at h5
 rcases qhm r1 with⟨h,_⟩ | ⟨id,ep,rfl,rfl,he⟩
 ·exact absurd h hne
 ·have hid:id < ([]++E1++E2++E3).length:=(List.getElem?_eq_some_iff.1 he).1
  have e5:app ([]++E1++E2++E3) 1 1 (.vs id 1 0 (qcm m).length ep) ((b16 (sumB (qcm m))).map qbf)=some (.vs id 1 0 (qah m).length (ep+1),([]++E1++E2++E3).set id ⟨1,(qah m).map qbf,ep+1,false⟩):=by
   have hl:(qcm m).length+(b16 (sumB (qcm m))).length=(qah m).length:=by simp[qah]
   have hb:=qhnb m ⟨b0,b1,b2⟩
   unfold bdS at hb
   simp only[app,entry?,he,if_true,List.length_map,Nat.zero_add]
   rw[if_pos ⟨trivial,Nat.le_refl _,.inl trivial,by unfold bound;omega,by unfold bound;omega⟩,hl]
   simp[qah,List.take_of_length_le]
  refine⟨.vs id 1 0 (qah m).length (ep+1),([]++E1++E2++E3).set id ⟨1,(qah m).map qbf,ep+1,false⟩,[id],qcjb 0 ?_,.inr ⟨id,0,ep+1,(qah m).map qbf,false,[],by simp[trL],rfl,by rw[List.getElem?_set_self hid],fun _=>rfl,fun _=>⟨rfl,by simp⟩,by simp,?_,?_⟩,by simp⟩
  ·rw[← qso] at e5
   rw[← qiv] at e5
   simp only[fbw,e1,e2,e3,e4,e5,EV0]
  ·intro r hr
   obtain⟨x,_,rfl⟩:=List.mem_map.1 hr
   rfl
  ·rw[List.drop_zero,List.take_of_length_le (by simp)]
   have:∀ (l:Str) (G:List Entry),Sp (Sp (Rep G true true 1)) [] (l.map qbf) (l.map qdq):=by
    intro l G
    induction l with
    | nil=>exact .nil
    | cons x l ih=>exact .cons (i:=[]) (is:=[]) (Sp.leaf1 _) ih
   exact this _ _
theorem f_fbw (m:MMade)(hm:m.Bd 1048576):Fresh qlr true 2 [.agg [Cell.str (bs m.Task),encL 2 MFile.enc m.Outs,Cell.str (bs m.Log)]] [.one (trL 1 qdq (qah m))]:=by
 obtain⟨c,H,ids,e,r,n⟩:=x_fbw m hm
 exact Fresh.one e r n
theorem f_fak (m:MMade)(hm:m.Bd 1048576):Fresh qfs true 2 [.agg [Cell.str (bs m.Task),encL 2 MFile.enc m.Outs,Cell.str (bs m.Log)]] [.one (trL 1 qdq (qah m))]:=by
 have hM:=qai
 have hle:=qrz m hm
 obtain⟨b0,b1,b2⟩:=hm
 have k0:m.Task.length≤1048576:=b0
 have k2:m.Log.length≤1048576:=b2
 have h1:=(qcl m.Task).1
 have h2:=(qcl m.Log).1
 obtain⟨p1,e1,g1⟩:=qxib (b:=[]) (Grow.nil 1) m.Task (by simp) (by omega)
 obtain⟨p2,e2,g2⟩:=qxib g1 m.Log (by simp;omega) (by omega)
 obtain⟨p3,e3,g3⟩:=g_fat g2 m.Outs (by simp;omega) b1
 rw[show []++encT m.Task++encT m.Log++qbt m.Outs=qcm m from rfl] at g3
 obtain⟨p4,a4,g4⟩:=g3.app (by':=1) ((b16 (sumB (qcm m))).map qbf) (by unfold bound b16;simp;omega) (by unfold bound b16;simp;omega)
 rw[← List.map_append] at g4
 have loop:∀ (r:Str) (i n a:Nat),(qcm m).drop i=r→r.length < n→a+sumB r=sumB (qcm m)→∀ k q,qra k q n p3.1 a p3.1 (qcm m).length i p3.2=some ([.one p4.1],p4.2):=by
  intro r
  induction r with
  | nil=>
   intro i n a hd hn ha k q
   obtain⟨n,rfl⟩:∃ j,n=j+1:=⟨n - 1,by omega⟩
   have:=drop_nil hd
   have ha':a=sumB (qcm m):=by simpa[sumB] using ha
   subst ha'
   simp only[qra]
   rw[decide_eq_false (by omega),cond_false]
   rw[← qiv] at a4
   simp only[a4,Option.bind_some]
  | cons x r ih=>
   intro i n a hd hn ha k q
   obtain⟨n,rfl⟩:∃ j,n=j+1:=⟨n - 1,by omega⟩
   obtain⟨hlt,hx,hd'⟩:=qas hd
   simp only[List.length_cons] at hn
   have hx8:=x.toNat_lt
   have hs:=qwob (qcm m)
   have ha':a+(x.toNat+sumB r)=sumB (qcm m):=by simpa[sumB] using ha
   obtain⟨ad,q1,q2⟩:=g3.at (i:=i) (row:=qbf x) (by rw[List.getElem?_map,hx];rfl)
   simp only[qra,q1,q2,qbf,EV0]
   rw[decide_eq_true (by omega),cond_true,qaj (by omega),wrap_small (n:=(x.toNat:Int)) (by omega) (by omega),wrap_small (by omega) (by omega),show(a:Int)+(x.toNat:Int)=((a+x.toNat:Nat):Int) by omega]
   exact ih (i+1) n (a+x.toNat) hd' (by omega) (by omega) k q
 obtain⟨ids,r1,r2⟩:=g4.bytes
 refine Fresh.one (qbyb (qcm m).length ?_) r1 r2
 have hlen:=g3.len
 rw[List.length_map] at hlen
 simp only[fak,e1,e2,e3,hlen,EV0]
 exact loop (qcm m) 0 _ 0 rfl (by omega) (by simp) _ _
def tk:Str→Option (Str×Str) | x::y::r=>if x.toNat*256+y.toNat≤60000∧x.toNat*256+y.toNat≤r.length then some (r.take (x.toNat*256+y.toNat),r.drop (x.toNat*256+y.toNat)) else none | _=>none
def digits:Str→Nat→Nat | [],n=>n | b::r,n=>digits r (n*10+(b.toNat - 48))
def qar (s:Str)(most:Nat):Option Nat:=if s.all qax=true∧1≤s.length∧s.length≤7∧(s.length=1∨s.head?≠some 48)∧digits s 0≤most then some (digits s 0) else none
theorem qpz (n:Nat)(h:n < 65536):(UInt8.ofNat (n / 256)).toNat*256+(UInt8.ofNat n).toNat=n:=by
 simp only[UInt8.toNat_ofNat']
 omega
theorem qweb (x y:UInt8):b16 (x.toNat*256+y.toNat)=[x,y]:=by
 have hx:=x.toNat_lt
 have hy:=y.toNat_lt
 unfold b16
 have h1:UInt8.ofNat ((x.toNat*256+y.toNat) / 256)=x:=by
  apply UInt8.toNat_inj.1
  simp only[UInt8.toNat_ofNat']
  omega
 have h2:UInt8.ofNat (x.toNat*256+y.toNat)=y:=by
  apply UInt8.toNat_inj.1
  simp only[UInt8.toNat_ofNat']
  omega
 rw[h1,h2]
theorem qzr (s r:Str)(h:s.length≤60000):tk (encT s++r)=some (s,r):=by
 unfold encT
 rw[if_neg (by omega)]
 show tk (UInt8.ofNat (s.length / 256)::UInt8.ofNat s.length::(s++r))=_
 simp only[tk,qpz s.length (by omega)]
 rw[if_pos ⟨h,by simp⟩]
 simp
theorem qfc {r s z:Str}(h:tk r=some (s,z)):r=encT s++z∧s.length≤60000:=by
 cases r with
 | nil=>simp[tk] at h
 | cons x r=>
  cases r with
  | nil=>simp[tk] at h
  | cons y r=>
   simp only[tk] at h
   split at h
   ·rename_i hn
    simp only[Option.some.injEq,Prod.mk.injEq] at h
    obtain⟨rfl,rfl⟩:=h
    have hl:(r.take (x.toNat*256+y.toNat)).length=x.toNat*256+y.toNat:=by rw[List.length_take];omega
    refine⟨?_,by omega⟩
    unfold encT
    rw[hl,if_neg (by omega),qweb]
    simp
   ·simp at h
theorem qee {b:UInt8}(h:qax b=true):48≤b.toNat∧b.toNat≤57:=by
 unfold qax inR at h
 simp only[Bool.and_eq_true,decide_eq_true_eq] at h
 omega
theorem qft:∀ (s t:Str) (n:Nat),digits (s++t) n=digits t (digits s n):=by
 intro s
 induction s with
 | nil=>intro t n;rfl
 | cons b r ih=>intro t n;exact ih t _
theorem qmw:∀ (s:Str) (n N:Nat),(∀ b∈s,qax b=true)→n < 10 ^ N→digits s n < 10 ^ (N+s.length):=by
 intro s
 induction s with
 | nil=>intro n N _ h;exact h
 | cons b r ih=>
  intro n N h hn
  have h2:=qee (h b List.mem_cons_self)
  have h1:=ih (n*10+(b.toNat - 48)) (N+1) (fun x hx=>h x (List.mem_cons_of_mem _ hx)) (by rw[Nat.pow_succ];omega)
  simp only[digits,List.length_cons]
  rw[show N+(r.length+1)=N+1+r.length by omega]
  exact h1
theorem qva {n:Nat}(h:n < 10):qax (UInt8.ofNat (48+n))=true:=by
 unfold qax inR
 simp only[Bool.and_eq_true,decide_eq_true_eq,UInt8.toNat_ofNat']
 omega
theorem qnr:∀ n:Nat,(numT n).all qax=true∧1≤(numT n).length∧((numT n).length=1∨(numT n).head?≠some 48)∧digits (numT n) 0=n∧(0 < n→(numT n).head?≠some 48):=by
 intro n
 induction n using Nat.strongRecOn with
 | _ n ih=>
  unfold numT at ih ⊢
  by_cases h:n < 10
  ·rw[qcc h]
   refine⟨by rw[List.all_cons,qva h,List.all_nil];rfl,by simp,.inl rfl,?_,?_⟩
   ·simp only[digits,UInt8.toNat_ofNat']
    omega
   ·intro h0 e
    simp only[List.head?_cons,Option.some.injEq] at e
    have:=congrArg UInt8.toNat e
    simp only[UInt8.toNat_ofNat'] at this
    have h48:(48:UInt8).toNat=48:=rfl
    omega
  ·rw[qck h]
   obtain⟨i1,i2,i3,i4,i5⟩:=ih (n / 10) (by omega)
   have hh:(Lib.decDigits (n / 10)++[UInt8.ofNat (48+n % 10)]).head?=(Lib.decDigits (n / 10)).head?:=by
    cases hd:Lib.decDigits (n / 10) with
    | nil=>rw[hd] at i2;simp at i2
    | cons x r=>rfl
   have i6:=i5 (by omega)
   refine⟨?_,by simp,.inr ?_,?_,fun _=>?_⟩
   ·rw[List.all_append,i1]
    rw[List.all_cons,qva (show n % 10 < 10 by omega),List.all_nil]
    rfl
   ·rw[hh];exact i6
   ·rw[qft,i4]
    simp only[digits,UInt8.toNat_ofNat']
    omega
   ·rw[hh];exact i6
theorem qkt:∀ (k:Nat) (s:Str),s.length=k→(∀ b∈s,qax b=true)→1≤s.length→(s.length=1∨s.head?≠some 48)→numT (digits s 0)=s:=by
 intro k
 induction k with
 | zero=>intro s h1 _ h2 _;omega
 | succ k ih=>
  intro s h1 h2 h3 h4
  have hne:s≠[]:=by intro h;subst h;simp at h3
  obtain⟨t,d,rfl⟩:∃ t d,s=t++[d]:=⟨s.dropLast,s.getLast hne,(List.dropLast_concat_getLast hne).symm⟩
  have hd:=qee (h2 d (by simp))
  simp only[List.length_append,List.length_cons,List.length_nil] at h1 h4
  have hdd:UInt8.ofNat (48+(d.toNat - 48))=d:=by
   apply UInt8.toNat_inj.1
   simp only[UInt8.toNat_ofNat']
   have:=d.toNat_lt
   omega
  by_cases ht:t=[]
  ·subst ht
   simp only[List.nil_append,digits]
   unfold numT
   rw[qcc (by omega),show 0*10+(d.toNat - 48)=d.toNat - 48 by omega,hdd]
  ·have htl:=List.length_pos_iff.2 ht
   have hhead:t.head?≠some 48:=by
    rcases h4 with h4 | h4
    ·omega
    ·cases t with
     | nil=>exact absurd rfl ht
     | cons x r=>exact h4
   have i1:=ih t (by omega) (fun b hb=>h2 b (List.mem_append_left _ hb)) htl (.inr hhead)
   have hpos:1≤digits t 0:=by
    rcases Nat.eq_zero_or_pos (digits t 0) with h | h
    ·rw[h] at i1
     have:numT 0=[48]:=by unfold numT;rw[qcc (by omega)];rfl
     rw[this] at i1
     rw[← i1] at hhead
     exact absurd rfl hhead
    ·exact h
   rw[qft]
   simp only[digits]
   unfold numT at i1 ⊢
   rw[qck (by omega),show(digits t 0*10+(d.toNat - 48)) / 10=digits t 0 by omega,i1,show(digits t 0*10+(d.toNat - 48)) % 10=d.toNat - 48 by omega,hdd]
theorem qgq {k most:Nat}(h:k≤most)(hm:k < 10000000):qar (numT k) most=some k:=by
 obtain⟨h1,h2,h3,h4,h5⟩:=qnr k
 have h6:(numT k).length≤7:=by
  have:=List.all_eq_true.1 h1
  rcases Nat.lt_or_ge 7 (numT k).length with h7 | h7
  ·exfalso
   have hx:k≥10000000:=by
    have key:∀ n:Nat,n < 10000000→(numT n).length≤7:=by
     intro n hn
     unfold numT
     have s1:∀ u:Nat,u < 10→(Lib.decDigits u).length=1:=fun u hu=>by rw[qcc hu];rfl
     have st:∀ (c u:Nat),(∀ v:Nat,v < 10 ^ c→(Lib.decDigits v).length≤c)→1≤c→u < 10 ^ (c+1)→(Lib.decDigits u).length≤c+1:=by
      intro c u hc h1c hu
      by_cases h:u < 10
      ·rw[s1 u h];omega
      ·rw[qck h,List.length_append]
       have:=hc (u / 10) (by rw[Nat.pow_succ] at hu;omega)
       simp
       omega
     have t1:∀ v:Nat,v < 10 ^ 1→(Lib.decDigits v).length≤1:=fun v hv=>by rw[s1 v (by simpa using hv)];exact Nat.le_refl _
     have t2:=fun v hv=>st 1 v t1 (by omega) hv
     have t3:=fun v hv=>st 2 v t2 (by omega) hv
     have t4:=fun v hv=>st 3 v t3 (by omega) hv
     have t5:=fun v hv=>st 4 v t4 (by omega) hv
     have t6:=fun v hv=>st 5 v t5 (by omega) hv
     exact st 6 n t6 (by omega) (by simpa using hn)
    rcases Nat.lt_or_ge k 10000000 with h8 | h8
    ·have:=key k h8;omega
    ·exact h8
   omega
  ·exact h7
 unfold qar
 rw[if_pos ⟨h1,h2,h6,h3,by rw[h4];exact h⟩,h4]
theorem qci {s:Str}{k most:Nat}(h:qar s most=some k):s=numT k∧k≤most∧s.length≤7:=by
 unfold qar at h
 split at h
 ·rename_i hc
  obtain⟨h1,h2,h3,h4,h5⟩:=hc
  simp only[Option.some.injEq] at h
  subst h
  exact⟨(qkt _ s rfl (List.all_eq_true.1 h1) h2 h4).symm,h5,h3⟩
 ·simp at h
theorem qqy (x y:UInt8):orI .i64 (shlI .i64 (IntKind.i64.wrap (x.toNat:Int)) 8) (IntKind.i64.wrap (y.toNat:Int))=((x.toNat*256+y.toNat:Nat):Int):=by
 have hx:=x.toNat_lt
 have hy:=y.toNat_lt
 rw[wrap_small (n:=(x.toNat:Int)) (by omega) (by omega),wrap_small (n:=(y.toNat:Int)) (by omega) (by omega)]
 have e1:shlI .i64 (x.toNat:Int) 8=((x.toNat*256:Nat):Int):=by
  unfold shlI
  rw[show(2:Int) ^ (min (8:Int).toNat IntKind.i64.bits)=256 from rfl,wrap_small (by omega) (by omega)]
  omega
 rw[e1]
 show IntKind.i64.wrap (((BitVec.ofInt 64 ((x.toNat*256:Nat):Int)||| BitVec.ofInt 64 (y.toNat:Int)).toNat:Nat):Int)=_
 have e2:∀ n:Nat,n < 65536→(BitVec.ofInt 64 (n:Int))=BitVec.ofNat 64 n:=fun n hn=>by
  apply BitVec.eq_of_toNat_eq
  rw[BitVec.toNat_ofInt,BitVec.toNat_ofNat]
  omega
 rw[e2 _ (by omega),e2 _ (by omega),BitVec.toNat_or,BitVec.toNat_ofNat,BitVec.toNat_ofNat,Nat.mod_eq_of_lt (by omega),Nat.mod_eq_of_lt (by omega)]
 have e3:x.toNat*256||| y.toNat=x.toNat*256+y.toNat:=by
  rw[Nat.mul_comm,show(256:Nat)=2 ^ 8 from rfl]
  exact(Nat.two_pow_add_eq_or_of_lt (by omega) _).symm
 rw[e3]
 exact wrap_small (by omega) (by omega)
def quob (b:Str)(at':Nat):List AV:=match tk (b.drop at') with
 | some (s,r)=>[.one (Cell.str (bs s)),.one (Cell.int ((b.length - r.length:Nat):Int)),.one (Cell.bool true)]
 | none=>[.one (Cell.str (bs [])),.one (Cell.int 0),.one (Cell.bool false)]
theorem qmd (b:Str)(lo hi:Nat)(h1:lo≤hi)(h2:hi≤b.length):slcC 1 (qaw b) (lo:Int) (some (hi:Int)) none=some (qaw ((b.drop lo).take (hi - lo))):=by
 simp only[slcC,encL,List.length_map,Option.getD_some,Option.getD_none]
 rw[if_pos (.inl trivial),if_pos ⟨by omega,by omega,by omega,by omega⟩]
 simp[qckb,List.map_take,List.map_drop]
theorem qbx (H:List Entry)(s:Str):bytesOf H (qaw s)=some (bs s):=by
 have e:∀ s:Str,mapO qulb (s.map qbf)=some (s.map fun x=>(x.toNat:Int)):=by
  intro s
  induction s with
  | nil=>rfl
  | cons x s ih=>
   rw[List.map_cons,List.map_cons,mapO,ih]
   simp[qulb,qbf]
 simp only[bytesOf,rowsOf,encL,if_true,true_or,Option.bind_some,e,Option.map_some]
 simp only[ofBytes,List.map_map]
 rw[show((fun n:Int=>UInt8.ofNat n.toNat) ∘ fun x:UInt8=>(x.toNat:Int))=id from funext fun x=>by simp,List.map_id]
 rfl
theorem c_fbo (b:Str)(i:Nat)(hb:b.length≤1048576)(hi:i≤b.length):out qnn [.one (qaw b),.one (Cell.int i)]=some (quob b i):=by
 have hM:=qai
 refine qbb (H:=[]) (qcgb 0 ?_)
 unfold quob
 simp only[fbo,qag,qltb,EV0]
 cases hd:b.drop i with
 | nil=>
  have:=drop_nil hd
  rw[show inR (i:Int) 0 (IntKind.i64.wrap ((b.length:Int) - 2))=false by
   rw[wrap_small (by omega) (by omega)]
   unfold inR
   rw[decide_eq_false (p:=(i:Int)≤(b.length:Int) - 2) (by omega),Bool.and_false]]
  rfl
 | cons x r=>
  obtain⟨hlt,hx,hd'⟩:=qas hd
  cases r with
  | nil=>
   have:=drop_nil hd'
   rw[show inR (i:Int) 0 (IntKind.i64.wrap ((b.length:Int) - 2))=false by
    rw[wrap_small (by omega) (by omega)]
    unfold inR
    rw[decide_eq_false (p:=(i:Int)≤(b.length:Int) - 2) (by omega),Bool.and_false]]
   rfl
  | cons y r=>
   obtain⟨hlt2,hy,hd2⟩:=qas hd'
   have hrl:r.length=b.length - (i+2):=by rw[← hd2];simp
   have hx8:=x.toNat_lt
   have hy8:=y.toNat_lt
   rw[show inR (i:Int) 0 (IntKind.i64.wrap ((b.length:Int) - 2))=true by
    rw[wrap_small (by omega) (by omega)]
    unfold inR
    rw[decide_eq_true (p:=(i:Int)≤(b.length:Int) - 2) (by omega),decide_eq_true (by omega)]
    rfl]
   simp only[Bool.not_true,cond_false,qaj (show i < maxLen by omega),qat,hx,hy,qbf,EV0,qqy]
   rw[wrap_small (n:=(b.length:Int) - (i:Int)) (by omega) (by omega),wrap_small (n:=(b.length:Int) - (i:Int) - 2) (by omega) (by omega)]
   simp only[tk]
   by_cases h1:x.toNat*256+y.toNat≤r.length
   ·rw[decide_eq_false (by omega),cond_false]
    by_cases h2:x.toNat*256+y.toNat≤60000
    ·rw[decide_eq_false (by omega),cond_false,if_pos ⟨h2,h1⟩]
     rw[wrap_small (n:=(i:Int)+2) (by omega) (by omega),wrap_small (by omega) (by omega),show(i:Int)+2=((i+2:Nat):Int) by omega,show((i+2:Nat):Int)+((x.toNat*256+y.toNat:Nat):Int)=((i+2+(x.toNat*256+y.toNat):Nat):Int) by omega,
      qmd b (i+2) (i+2+(x.toNat*256+y.toNat)) (by omega) (by omega)]
     simp only[Option.bind_some,qbx]
     rw[show b.drop (i+2)=r from hd2,show i+2+(x.toNat*256+y.toNat) - (i+2)=x.toNat*256+y.toNat by omega]
     have:b.length - (r.drop (x.toNat*256+y.toNat)).length=i+2+(x.toNat*256+y.toNat):=by rw[List.length_drop];omega
     rw[this]
    ·rw[decide_eq_true (by omega),cond_true,if_neg fun h=>h2 h.1]
   ·rw[decide_eq_true (by omega),cond_true,if_neg fun h=>h1 h.2]
theorem c_fad (b:Str)(i:Nat)(hb:b.length≤1048576)(hi:i≤b.length):out qno [.one (qaw b),.one (Cell.int i)]=some (quob b i):=by
 have hM:=qai
 refine qbb (H:=[]) (qcub 0 ?_)
 unfold quob
 simp only[fad,qag,EV0]
 rw[decide_eq_false (p:=(i:Int) < 0) (by omega),cond_false,wrap_small (n:=(b.length:Int) - 2) (by omega) (by omega)]
 cases hd:b.drop i with
 | nil=>
  have:=drop_nil hd
  rw[decide_eq_true (by omega),cond_true]
  rfl
 | cons x r=>
  obtain⟨hlt,hx,hd'⟩:=qas hd
  cases r with
  | nil=>
   have:=drop_nil hd'
   rw[decide_eq_true (by omega),cond_true]
   rfl
  | cons y r=>
   obtain⟨hlt2,hy,hd2⟩:=qas hd'
   have hrl:r.length=b.length - (i+2):=by rw[← hd2];simp
   have hx8:=x.toNat_lt
   have hy8:=y.toNat_lt
   rw[decide_eq_false (by omega),cond_false]
   simp only[qaj (show i < maxLen by omega),qat,hx,hy,qbf,EV0,qqy]
   rw[wrap_small (n:=(i:Int)+2) (by omega) (by omega),wrap_small (n:=(b.length:Int) - ((i:Int)+2)) (by omega) (by omega)]
   simp only[tk]
   by_cases h2:x.toNat*256+y.toNat≤60000
   ·rw[decide_eq_false (by omega),cond_false]
    by_cases h1:x.toNat*256+y.toNat≤r.length
    ·rw[decide_eq_false (by omega),cond_false,if_pos ⟨h2,h1⟩]
     rw[wrap_small (by omega) (by omega),show(i:Int)+2=((i+2:Nat):Int) by omega,show((i+2:Nat):Int)+((x.toNat*256+y.toNat:Nat):Int)=((i+2+(x.toNat*256+y.toNat):Nat):Int) by omega,
      qmd b (i+2) (i+2+(x.toNat*256+y.toNat)) (by omega) (by omega)]
     simp only[Option.bind_some,qbx]
     rw[show b.drop (i+2)=r from hd2,show i+2+(x.toNat*256+y.toNat) - (i+2)=x.toNat*256+y.toNat by omega]
     have:b.length - (r.drop (x.toNat*256+y.toNat)).length=i+2+(x.toNat*256+y.toNat):=by rw[List.length_drop];omega
     rw[this]
    ·rw[decide_eq_true (by omega),cond_true,if_neg fun h=>h1 h.2]
   ·rw[decide_eq_true (by omega),cond_true,if_neg fun h=>h2 h.1]
def numV (o:Option Nat):List AV:=match o with
 | some k=>[.one (Cell.int (k:Int)),.one (Cell.bool true)]
 | none=>[.one (Cell.int 0),.one (Cell.bool false)]
theorem qmhb {x:UInt8}(h:qax x=true):IntKind.i64.wrap (IntKind.u8.wrap ((x.toNat:Int) - 48))=((x.toNat - 48:Nat):Int):=by
 have h1:=qee h
 have e:((x.toNat:Int) - 48)=((x.toNat - 48:Nat):Int):=by omega
 rw[e,wrap_u8]
 have:(UInt8.ofNat (x.toNat - 48)).toNat=x.toNat - 48:=by simp only[UInt8.toNat_ofNat'];omega
 rw[this]
 exact wrap_small (by omega) (by omega)
theorem c_fbs (s:Str)(most:Nat)(hs:s.length≤1073741824)(hm:most≤1073741824):out qjm [.one (Cell.str (bs s)),.one (Cell.int most)]=some (numV (qar s most)):=by
 have hM:=qai
 have fin:∀ (v:Nat),s.length≤7→s.all qax=true→v=digits s 0→((qba qcf [.one (Cell.int (s.length:Int)),.one (Cell.int 1),.one (Cell.int 7)] []).bind fun r14=>
  cond (qab qmi r14)
  ((cB (qaa r14 0) 0).bind fun b15=>
  cond (!b15)
  (some ([AV.one (Cell.int 0),AV.one (Cell.bool false)],[]))
  (cond (decide ((s.length:Int) > 1))
  ((bytS (bs s) 0).bind fun i16=>
  cond (i16==48)
  (some ([AV.one (Cell.int 0),AV.one (Cell.bool false)],[]))
  (cond (decide ((v:Int) > (most:Int)))
  (some ([AV.one (Cell.int 0),AV.one (Cell.bool false)],[]))
  (some ([AV.one (Cell.int (v:Int)),AV.one (Cell.bool true)],([]:List Entry)))))
  (cond (decide ((v:Int) > (most:Int)))
  (some ([AV.one (Cell.int 0),AV.one (Cell.bool false)],[]))
  (some ([AV.one (Cell.int (v:Int)),AV.one (Cell.bool true)],[])))))
  none)=some (numV (qar s most),[]):=by
  intro v h7 ha hv
  simp only[qltb,EV0]
  unfold qar
  cases s with
  | nil=>rfl
  | cons x r=>
   rw[show inR (((x::r:Str).length:Nat):Int) 1 7=true by
    unfold inR
    rw[decide_eq_true (by simp only[List.length_cons];omega),decide_eq_true (by omega)]
    rfl,Bool.not_true,cond_false]
   by_cases h1:r=[]
   ·subst h1
    rw[decide_eq_false (by simp),cond_false]
    by_cases hm:v≤most
    ·rw[decide_eq_false (by omega),cond_false,if_pos ⟨ha,by simp,by simp,.inl rfl,by omega⟩,hv]
     rfl
    ·rw[decide_eq_true (by omega),cond_true,if_neg fun h=>hm (by omega)]
     rfl
   ·have hr:=List.length_pos_iff.2 h1
    rw[decide_eq_true (by simp;omega),cond_true,qvo]
    simp only[Option.bind_some]
    rw[show((x.toNat:Int)==48)=(x==48) from qmsb x 48 (by omega)]
    cases hx:x==48 with
    | true=>
     have:x=48:=by simpa using hx
     rw[cond_true,if_neg]
     ·rfl
     ·rintro ⟨_,_,_,h,_⟩
      rcases h with h | h
      ·simp only[List.length_cons] at h;omega
      ·rw[this] at h;exact h rfl
    | false=>
     have:x≠48:=by simpa using hx
     rw[cond_false]
     by_cases hm:v≤most
     ·rw[decide_eq_false (by omega),cond_false,if_pos ⟨ha,by simp,h7,.inr (by simpa using this),by omega⟩,hv]
      rfl
     ·rw[decide_eq_true (by omega),cond_true,if_neg fun h=>hm (by omega)]
      rfl
 have loop:∀ (r:Str) (i n a:Nat),s.drop i=r→i≤8→r.length < n→(s.take i).all qax=true→a=digits (s.take i) 0→∀ k m,qqw k m n (bs s) most a i=some (numV (qar s most),[]):=by
  intro r
  induction r with
  | nil=>
   intro i n a hd hi hn ht ha k m
   obtain⟨n,rfl⟩:∃ j,n=j+1:=⟨n - 1,by omega⟩
   have h1:=drop_nil hd
   rw[List.take_of_length_le h1] at ht ha
   simp only[qqw,qbi]
   rw[decide_eq_false (by omega),cond_false]
   by_cases h7:s.length≤7
   ·exact fin a h7 ht ha
   ·simp only[qltb,EV0]
    rw[show inR (s.length:Int) 1 7=false by
     unfold inR
     rw[decide_eq_false (p:=(s.length:Int)≤7) (by omega),Bool.and_false]]
    unfold qar
    rw[if_neg fun h=>h7 h.2.2.1]
    rfl
  | cons x r ih=>
   intro i n a hd hi hn ht ha k m
   obtain⟨n,rfl⟩:∃ j,n=j+1:=⟨n - 1,by omega⟩
   obtain⟨hlt,hx,hd'⟩:=qas hd
   simp only[List.length_cons] at hn
   simp only[qqw,qbi]
   rw[decide_eq_true (by omega),cond_true]
   by_cases h8:i < 8
   ·rw[decide_eq_true (by omega),cond_true]
    simp only[qhb,hx,Option.map_some,c_fci,EV0]
    cases hf:qax x with
    | false=>
     simp only[Bool.not_false,cond_true]
     unfold qar
     rw[if_neg]
     ·rfl
     ·rintro ⟨h,_⟩
      have:=List.all_eq_true.1 h x (List.mem_of_getElem? hx)
      rw[hf] at this
      simp at this
    | true=>
     have hsn:s.take (i+1)=s.take i++[x]:=by rw[List.take_add_one,hx];rfl
     have hal:a < 10 ^ 8:=by
      rw[ha]
      refine Nat.lt_of_lt_of_le (qmw (s.take i) 0 0 (List.all_eq_true.1 ht) (by simp)) ?_
      rw[Nat.zero_add]
      refine Nat.pow_le_pow_right (by omega) ?_
      rw[List.length_take]
      omega
     have hf2:=qee hf
     simp only[Bool.not_true,cond_false]
     rw[qmhb hf,wrap_small (n:=(a:Int)*10) (by omega) (by omega),wrap_small (by omega) (by omega),qaj (by omega),show(a:Int)*10+((x.toNat - 48:Nat):Int)=((a*10+(x.toNat - 48):Nat):Int) by omega]
     refine ih (i+1) n _ hd' (by omega) (by omega) ?_ ?_ k m
     ·rw[hsn,List.all_append,ht,List.all_cons,hf,List.all_nil]
      rfl
     ·rw[hsn,qft,← ha]
      rfl
   ·rw[decide_eq_false (by omega),cond_false]
    simp only[qltb,EV0]
    rw[show inR (s.length:Int) 1 7=false by
     unfold inR
     rw[decide_eq_false (p:=(s.length:Int)≤7) (by omega),Bool.and_false]]
    unfold qar
    rw[if_neg fun h=>by have:=h.2.2.1;omega]
    rfl
 refine qbb (H:=[]) (qahb (s.length+1) ?_)
 have:=loop s 0 (s.length+1+1) 0 rfl (by omega) (by omega) (by simp) (by simp[digits]) (s.length+1+1) (s.length+1+1)
 simpa[fbs] using this
theorem c_fah (s:Str)(most:Nat)(hs:s.length≤1073741824)(hm:most≤1073741824):out qlp [.one (Cell.str (bs s)),.one (Cell.int most)]=some (numV (qar s most)):=by
 have hM:=qai
 by_cases h17:1≤s.length∧s.length≤7
 ·obtain⟨h1,h7⟩:=h17
  have loop:∀ (r:Str) (i n a:Nat),s.drop i=r→r.length < n→(s.take i).all qax=true→a=digits (s.take i) 0→∀ k m,qrx k m n (bs s) most a i=some (numV (qar s most),[]):=by
   intro r
   induction r with
   | nil=>
    intro i n a hd hn ht ha k m
    obtain⟨n,rfl⟩:∃ j,n=j+1:=⟨n - 1,by omega⟩
    have h2:=drop_nil hd
    rw[List.take_of_length_le h2] at ht ha
    have hal:a < 10 ^ 7:=by
     rw[ha]
     refine Nat.lt_of_lt_of_le (qmw s 0 0 (List.all_eq_true.1 ht) (by simp)) ?_
     rw[Nat.zero_add]
     exact Nat.pow_le_pow_right (by omega) h7
    simp only[qrx,qbi]
    rw[decide_eq_false (by omega),cond_false]
    simp only[c_fag a (by omega),EV0]
    by_cases hc:s.length=1∨s.head?≠some 48
    ·have e:=qkt _ s rfl (List.all_eq_true.1 ht) h1 hc
     rw[ha,e,show(s==s)=true by simp,Bool.not_true,cond_false]
     unfold qar
     by_cases hm:digits s 0≤most
     ·rw[decide_eq_false (by omega),cond_false,if_pos ⟨ht,h1,h7,hc,hm⟩]
      rfl
     ·rw[decide_eq_true (by omega),cond_true,if_neg fun h=>hm h.2.2.2.2]
      rfl
    ·have hne:(numT a==s)=false:=by
      rw[beq_eq_false_iff_ne]
      intro e
      have:=(qnr a).2.2.1
      rw[e] at this
      exact hc this
     rw[hne,Bool.not_false,cond_true]
     unfold qar
     rw[if_neg fun h=>hc h.2.2.2.1]
     rfl
   | cons x r ih=>
    intro i n a hd hn ht ha k m
    obtain⟨n,rfl⟩:∃ j,n=j+1:=⟨n - 1,by omega⟩
    obtain⟨hlt,hx,hd'⟩:=qas hd
    simp only[List.length_cons] at hn
    simp only[qrx,qbi]
    rw[decide_eq_true (by omega),cond_true]
    simp only[qhb,hx,Option.map_some,c_fao,EV0]
    cases hf:qax x with
    | false=>
     simp only[Bool.not_false,cond_true]
     unfold qar
     rw[if_neg]
     ·rfl
     ·rintro ⟨h,_⟩
      have:=List.all_eq_true.1 h x (List.mem_of_getElem? hx)
      rw[hf] at this
      simp at this
    | true=>
     have hsn:s.take (i+1)=s.take i++[x]:=by rw[List.take_add_one,hx];rfl
     have hal:a < 10 ^ 8:=by
      rw[ha]
      refine Nat.lt_of_lt_of_le (qmw (s.take i) 0 0 (List.all_eq_true.1 ht) (by simp)) ?_
      rw[Nat.zero_add]
      refine Nat.pow_le_pow_right (by omega) ?_
      rw[List.length_take]
      omega
     have hf2:=qee hf
     simp only[Bool.not_true,cond_false]
     rw[qmhb hf,wrap_small (n:=(a:Int)*10) (by omega) (by omega),wrap_small (by omega) (by omega),qaj (by omega),show(a:Int)*10+((x.toNat - 48:Nat):Int)=((a*10+(x.toNat - 48):Nat):Int) by omega]
     refine ih (i+1) n _ hd' (by omega) ?_ ?_ k m
     ·rw[hsn,List.all_append,ht,List.all_cons,hf,List.all_nil]
      rfl
     ·rw[hsn,qft,← ha]
      rfl
  refine qbb (H:=[]) (qpu (s.length+1) ?_)
  have z:=loop s 0 (s.length+1+1) 0 rfl (by omega) (by simp) (by simp[digits]) (s.length+1+1) (s.length+1+1)
  simp only[fah,qbi,qcoc,EV0]
  rw[show inR (s.length:Int) 1 7=true by
   unfold inR
   rw[decide_eq_true (by omega),decide_eq_true (by omega)]
   rfl,Bool.not_true,cond_false]
  exact z
 ·refine qbb (H:=[]) (qpu 0 ?_)
  simp only[fah,qbi,qcoc,EV0]
  rw[show inR (s.length:Int) 1 7=false by
   unfold inR
   rcases Nat.lt_or_ge s.length 1 with h | h
   ·rw[decide_eq_false (by omega),Bool.false_and]
   ·rw[decide_eq_false (p:=(s.length:Int)≤7) (by omega),Bool.and_false]]
  unfold qar
  rw[if_neg fun h=>h17 ⟨h.2.1,h.2.2.1⟩]
  rfl
def decF:Nat→Str→Option (List MFile×Str) | 0,r=>some ([],r) | k+1,r=>(tk r).bind fun p=>(tk p.2).bind fun q=>(decF k q.2).map fun z=>(⟨p.1,q.1⟩::z.1,z.2)
def decM (r:Str):Option (MMade×Str):=(tk r).bind fun t=>(tk t.2).bind fun l=>(tk l.2).bind fun c=>(qar c.1 1000).bind fun k=>(decF k c.2).map fun z=>(⟨t.1,z.1,l.1⟩,z.2)
def wfF (l:List MFile):Prop:=∀ f∈l,f.Path.length≤60000∧f.Text.length≤60000
def wfM (m:MMade):Prop:=m.Task.length≤60000∧m.Log.length≤60000∧m.Outs.length≤1000∧wfF m.Outs
theorem qcyb:∀ (k:Nat) (r z:Str) (l:List MFile),decF k r=some (l,z)→r=qkg l++z∧l.length=k∧wfF l:=by
 intro k
 induction k with
 | zero=>
  intro r z l h
  simp only[decF,Option.some.injEq,Prod.mk.injEq] at h
  obtain⟨rfl,rfl⟩:=h
  exact⟨rfl,rfl,fun f hf=>by simp at hf⟩
 | succ k ih=>
  intro r z l h
  simp only[decF,Option.bind_eq_some_iff,Option.map_eq_some_iff] at h
  obtain⟨⟨p,r1⟩,h1,⟨q,r2⟩,h2,⟨fs,z'⟩,h3,h4⟩:=h
  simp only[Prod.mk.injEq] at h4
  obtain⟨rfl,rfl⟩:=h4
  obtain⟨e1,k1⟩:=qfc h1
  obtain⟨e2,k2⟩:=qfc h2
  obtain⟨e3,k3,k4⟩:=ih _ _ _ h3
  dsimp only at e1 e2 e3
  refine⟨?_,by simp[k3],fun f hf=>?_⟩
  ·rw[e1,e2,e3]
   simp[qkg]
  ·rcases List.mem_cons.1 hf with rfl | hf
   ·exact⟨k1,k2⟩
   ·exact k4 f hf
theorem qtqb:∀ (l:List MFile) (z:Str),wfF l→decF l.length (qkg l++z)=some (l,z):=by
 intro l
 induction l with
 | nil=>intro z _;rfl
 | cons f l ih=>
  intro z h
  have hf:=h f List.mem_cons_self
  have e:qkg (f::l)++z=encT f.Path++(encT f.Text++(qkg l++z)):=by simp[qkg]
  rw[e]
  simp only[List.length_cons,decF,qzr _ _ hf.1,qzr _ _ hf.2,Option.bind_some,ih z fun g hg=>h g (List.mem_cons_of_mem _ hg),Option.map_some]
theorem qgf {r z:Str}{m:MMade}(h:decM r=some (m,z)):r=qcm m++z∧wfM m:=by
 simp only[decM,Option.bind_eq_some_iff,Option.map_eq_some_iff] at h
 obtain⟨⟨t,r1⟩,h1,⟨l,r2⟩,h2,⟨c,r3⟩,h3,k,h4,⟨fs,z'⟩,h5,h6⟩:=h
 simp only[Prod.mk.injEq] at h6
 obtain⟨rfl,rfl⟩:=h6
 obtain⟨e1,k1⟩:=qfc h1
 obtain⟨e2,k2⟩:=qfc h2
 obtain⟨e3,k3⟩:=qfc h3
 obtain⟨e4,k4,_⟩:=qci h4
 obtain⟨e5,k5,k6⟩:=qcyb _ _ _ _ h5
 dsimp only at e1 e2 e3 e4 e5
 refine⟨?_,k1,k2,by rw[k5];exact k4,k6⟩
 rw[e1,e2,e3,e5,e4]
 simp[qcm,qbt,k5]
theorem qml (m:MMade)(z:Str)(h:wfM m):decM (qcm m++z)=some (m,z):=by
 obtain⟨k1,k2,k3,k4⟩:=h
 have e:qcm m++z=encT m.Task++(encT m.Log++(encT (numT m.Outs.length)++(qkg m.Outs++z))):=by simp[qcm,qbt]
 have k5:=(qci (qgq k3 (by omega))).2.2
 rw[e]
 simp only[decM,qzr _ _ k1,qzr _ _ k2,qzr _ _ (show(numT m.Outs.length).length≤60000 by omega),Option.bind_some,qgq k3 (by omega),qtqb m.Outs z k4,Option.map_some]
def qbk (b:Str):Option MMade:=match decM b with
 | some (m,_)=>if qah m=b then some m else none
 | none=>none
theorem qen (m:MMade):qah m=qcm m++b16 (sumB (qcm m)):=rfl
theorem qdvb (b:Str)(x y:UInt8)(r:Str)(hb:b=r++[x,y]):qbk b=(if sumB r % 65536=x.toNat*256+y.toNat then (match decM r with
  | some (m,z)=>if z=[] then some m else none
  | none=>none) else none):=by
 have hx:=x.toNat_lt
 have hy:=y.toNat_lt
 have hbx:b16 (sumB r)=[x,y]↔sumB r % 65536=x.toNat*256+y.toNat:=by
  rw[← qso,← qweb x y]
  constructor
  ·intro h
   have h1:=congrArg (fun l:Str=>match l with | [p,q]=>p.toNat*256+q.toNat | _=>0) h
   simp only[b16] at h1
   rw[qpz _ (Nat.mod_lt _ (by omega)),qpz _ (by omega)] at h1
   exact h1
  ·intro h;rw[h]
 unfold qbk
 cases hd:decM b with
 | none=>
  simp only
  split
  ·cases hr:decM r with
   | none=>rfl
   | some p=>
    obtain⟨m,z⟩:=p
    simp only
    split
    ·rename_i hz
     subst hz
     obtain⟨e1,k1⟩:=qgf hr
     rw[List.append_nil] at e1
     rw[hb,e1,qml m [x,y] k1] at hd
     simp at hd
    ·rfl
  ·rfl
 | some p=>
  obtain⟨m,z⟩:=p
  obtain⟨e1,k1⟩:=qgf hd
  simp only
  by_cases hp:qah m=b
  ·rw[if_pos hp]
   rw[hb,qen] at hp
   have h2:qcm m=r∧b16 (sumB (qcm m))=[x,y]:=List.append_inj' hp rfl
   obtain⟨h3,h4⟩:=h2
   rw[h3] at h4
   rw[if_pos (hbx.1 h4)]
   have:=qml m [] k1
   rw[List.append_nil,h3] at this
   rw[this]
   simp
  ·rw[if_neg hp]
   split
   ·rename_i hs
    cases hr:decM r with
    | none=>rfl
    | some q=>
     obtain⟨m',z'⟩:=q
     simp only
     split
     ·rename_i hz
      subst hz
      exfalso
      obtain⟨e2,k2⟩:=qgf hr
      rw[List.append_nil] at e2
      have e3:=qml m' [x,y] k2
      rw[← e2,← hb,hd] at e3
      simp only[Option.some.injEq,Prod.mk.injEq] at e3
      obtain⟨rfl,rfl⟩:=e3
      exact hp (by rw[qen,← e2,hbx.2 hs,hb])
     ·rfl
   ·rfl
theorem qpr {b:Str}(h:b.length < 2):qbk b=none:=by
 unfold qbk
 cases hd:decM b with
 | none=>rfl
 | some p=>
  obtain⟨m,z⟩:=p
  simp only
  rw[if_neg]
  intro e
  have:=congrArg List.length e
  rw[qen,List.length_append] at this
  simp only[b16,List.length_cons,List.length_nil] at this
  omega
def nxS (b:Str)(st:Nat×Bool):Str×(Nat×Bool):=match tk (b.drop st.1) with
 | some (s,r)=>if st.2 then ([],(st.1,true)) else (s,(b.length - r.length,false))
 | none=>([],(st.1,true))
def qbs (b:Str):Nat→Nat×Bool→List MFile×(Nat×Bool) | 0,st=>([],st) | k+1,st=>let p:=nxS b st;let q:=nxS b p.2;let z:=qbs b k q.2;(⟨p.1,q.1⟩::z.1,z.2)
theorem qhg {b:Str}{st:Nat×Bool}(h:st.1≤b.length):(nxS b st).2.1≤b.length:=by
 unfold nxS
 split
 ·split
  ·exact h
  ·exact Nat.sub_le _ _
 ·exact h
theorem qjy {b s r:Str}{i:Nat}(h:tk (b.drop i)=some (s,r)):nxS b (i,false)=(s,(b.length - r.length,false))∧b.drop (b.length - r.length)=r:=by
 refine⟨by simp[nxS,h],?_⟩
 obtain⟨e,_⟩:=qfc h
 have hl:b=b.take i++(encT s++r):=by rw[← e,List.take_append_drop]
 have:b.length - r.length=(b.take i++encT s).length:=by
  have:=congrArg List.length hl
  simp only[List.length_append] at this ⊢
  omega
 rw[this]
 have h3:=List.drop_left (l₁:=b.take i++encT s) (l₂:=r)
 rw[List.append_assoc,← hl] at h3
 exact h3
theorem qie {b:Str}{i:Nat}(h:tk (b.drop i)=none):nxS b (i,false)=([],(i,true)):=by simp[nxS,h]
theorem qgy (b:Str)(i:Nat):nxS b (i,true)=([],(i,true)):=by
 unfold nxS
 split<;>rfl
theorem qjs (b:Str):∀ (k i:Nat),(qbs b k (i,true)).2=(i,true):=by
 intro k
 induction k with
 | zero=>intro i;rfl
 | succ k ih=>intro i;simp only[qbs,qgy,ih]
theorem qavb (b:Str):∀ (k i:Nat),(match decF k (b.drop i) with
  | some (fs,r)=>qbs b k (i,false)=(fs,((qbs b k (i,false)).2.1,false))∧b.drop (qbs b k (i,false)).2.1=r
  | none=>(qbs b k (i,false)).2.2=true):=by
 intro k
 induction k with
 | zero=>intro i;exact⟨rfl,rfl⟩
 | succ k ih=>
  intro i
  cases h1:tk (b.drop i) with
  | none=>simp only[decF,h1,Option.bind_none,qbs,qie h1,qgy,qjs]
  | some p=>
   obtain⟨s,r⟩:=p
   obtain⟨e1,e2⟩:=qjy h1
   cases h2:tk r with
   | none=>
    have h2':tk (b.drop (b.length - r.length))=none:=by rw[e2];exact h2
    simp only[decF,h1,h2,Option.bind_some,Option.bind_none,qbs,e1,qie h2',qjs]
   | some q=>
    obtain⟨t,r2⟩:=q
    have h2':tk (b.drop (b.length - r.length))=some (t,r2):=by rw[e2];exact h2
    obtain⟨e3,e4⟩:=qjy h2'
    have i1:=ih (b.length - r2.length)
    rw[e4] at i1
    simp only[decF,h1,h2,Option.bind_some,qbs,e1,e3]
    cases h3:decF k r2 with
    | none=>rw[h3] at i1;exact i1
    | some z=>
     obtain⟨fs,r3⟩:=z
     rw[h3] at i1
     simp only[Option.map_some]
     obtain⟨j1,j2⟩:=i1
     refine⟨?_,j2⟩
     rw[j1]
theorem qlg (b:Str)(st:Nat×Bool):(nxS b st).1.length≤60000:=by
 unfold nxS
 split
 ·rename_i h
  split
  ·simp
  ·exact(qfc h).2
 ·simp
theorem qidb {b:Str}:∀ (k:Nat) (st:Nat×Bool),st.1≤b.length→(qbs b k st).2.1≤b.length:=by
 intro k
 induction k with
 | zero=>intro st h;exact h
 | succ k ih=>intro st h;exact ih _ (qhg (qhg h))
theorem qdpb (b:Str):∀ (k:Nat) (st:Nat×Bool),(qbs b k st).1.length=k∧wfF (qbs b k st).1:=by
 intro k
 induction k with
 | zero=>intro st;exact⟨rfl,fun f hf=>by simp[qbs] at hf⟩
 | succ k ih=>
  intro st
  obtain⟨i1,i2⟩:=ih (nxS b (nxS b st).2).2
  refine⟨by simp only[qbs,List.length_cons,i1],fun f hf=>?_⟩
  simp only[qbs] at hf
  rcases List.mem_cons.1 hf with rfl | hf
  ·exact⟨qlg _ _,qlg _ _⟩
  ·exact i2 f hf
theorem mach (b:Str):(match qar (nxS b (nxS b (nxS b (0,false)).2).2).1 1000 with
  | none=>decM b=none
  | some k=>if (qbs b k (nxS b (nxS b (nxS b (0,false)).2).2).2).2.2=true then decM b=none
   else decM b=some (⟨(nxS b (0,false)).1,(qbs b k (nxS b (nxS b (nxS b (0,false)).2).2).2).1,(nxS b (nxS b (0,false)).2).1⟩,b.drop (qbs b k (nxS b (nxS b (nxS b (0,false)).2).2).2).2.1)):=by
 have h0:∀ m,qar [] m=none:=fun m=>by
  unfold qar
  rw[if_neg]
  rintro ⟨_,h,_⟩
  simp at h
 cases h1:tk (b.drop 0) with
 | none=>
  rw[qie h1,qgy,qgy,h0]
  simp only
  rw[List.drop_zero] at h1
  simp[decM,h1]
 | some p=>
  obtain⟨t,r1⟩:=p
  obtain⟨e1,f1⟩:=qjy h1
  rw[List.drop_zero] at h1
  rw[e1]
  cases h2:tk (b.drop (b.length - r1.length)) with
  | none=>
   rw[qie h2,qgy,h0]
   simp only
   rw[f1] at h2
   simp[decM,h1,h2]
  | some p=>
   obtain⟨l,r2⟩:=p
   obtain⟨e2,f2⟩:=qjy h2
   rw[f1] at h2
   rw[e2]
   cases h3:tk (b.drop (b.length - r2.length)) with
   | none=>
    rw[qie h3,h0]
    simp only
    rw[f2] at h3
    simp[decM,h1,h2,h3]
   | some p=>
    obtain⟨c,r3⟩:=p
    obtain⟨e3,f3⟩:=qjy h3
    rw[f2] at h3
    rw[e3]
    simp only
    cases h4:qar c 1000 with
    | none=>simp[decM,h1,h2,h3,h4]
    | some k=>
     simp only
     have hf:=qavb b k (b.length - r3.length)
     rw[f3] at hf
     cases h5:decF k r3 with
     | none=>
      rw[h5] at hf
      simp only at hf
      rw[if_pos hf]
      simp[decM,h1,h2,h3,h4,h5]
     | some z=>
      obtain⟨fs,r4⟩:=z
      rw[h5] at hf
      simp only at hf
      obtain⟨j1,j2⟩:=hf
      rw[if_neg (by rw[j1];simp)]
      rw[j2,j1]
      simp[decM,h1,h2,h3,h4,h5]
def qao (b:Str):MMade×Bool:=match qbk b with
 | some m=>(m,true)
 | none=>(⟨[],[],[]⟩,false)
theorem qzz {b:Str}{m:MMade}(h:qbk b=some m):wfM m:=by
 unfold qbk at h
 split at h
 ·rename_i m' z hd
  split at h
  ·simp only[Option.some.injEq] at h
   subst h
   exact(qgf hd).2
  ·simp at h
 ·simp at h
theorem qwab {m:MMade}(h:wfM m):m.Bd 1048576:=by
 obtain⟨h1,h2,h3,h4⟩:=h
 exact⟨Nat.le_trans h1 (by omega),⟨Nat.le_trans h3 (by omega),fun f hf=>⟨Nat.le_trans (h4 f hf).1 (by omega),Nat.le_trans (h4 f hf).2 (by omega)⟩⟩,Nat.le_trans h2 (by omega)⟩
theorem qgeb (b:Str)(hb:bdS 1048576 b):(qao b).1.Bd 1048576:=by
 unfold qao
 cases h:qbk b with
 | none=>exact⟨Nat.zero_le _,⟨Nat.zero_le _,fun f hf=>by simp at hf⟩,Nat.zero_le _⟩
 | some m=>exact qwab (qzz h)
abbrev rdE (b:Str)(st:Nat×Bool):Entry:=Entry.mk 3 [[qaw b,Cell.int st.1,Cell.bool st.2]] 0 false
theorem n_fcf (b:Str)(hb:b.length≤1048576)(st:Nat×Bool)(hst:st.1≤b.length)(T:List Entry):qdk [.one (.ptr 0 3 0 0 0)] (rdE b st::T)=some ([.one (Cell.str (bs (nxS b st).1))],rdE b (nxS b st).2::T):=by
 refine qbcb 0 ?_
 have d:∀ j,deref (rdE b st::T) (.ptr 0 3 0 j 0)=some ([qaw b,Cell.int st.1,Cell.bool st.2],j):=fun j=>by simp[deref,entry?]
 obtain⟨i,bad⟩:=st
 dsimp only at hst
 simp only[fcf,ptrC,qig,Nat.zero_add,d,c_fbo b i hb hst,quob,EV0]
 unfold nxS
 cases ht:tk (b.drop i) with
 | none=>
  simp only[EV0]
  cases bad<;>rfl
 | some p=>
  obtain⟨s,r⟩:=p
  simp only[EV0]
  cases bad<;>rfl
theorem n_fav (b:Str)(hb:b.length≤1048576)(st:Nat×Bool)(hst:st.1≤b.length)(T:List Entry):qew [.one (.ptr 0 3 0 0 0)] (rdE b st::T)=some ([.one (Cell.str (bs (nxS b st).1))],rdE b (nxS b st).2::T):=by
 refine qdab 0 ?_
 have d:∀ j,deref (rdE b st::T) (.ptr 0 3 0 j 0)=some ([qaw b,Cell.int st.1,Cell.bool st.2],j):=fun j=>by simp[deref,entry?]
 obtain⟨i,bad⟩:=st
 dsimp only at hst
 simp only[fav,ptrC,qig,Nat.zero_add,d,c_fad b i hb hst,quob,EV0]
 unfold nxS
 cases ht:tk (b.drop i) with
 | none=>
  simp only[EV0]
  cases bad<;>rfl
 | some p=>
  obtain⟨s,r⟩:=p
  simp only[EV0]
  cases bad<;>rfl
theorem c_fbn (b:Str)(hb0:bdS 1048576 b):outL qpf [.one (qaw b)]=some [.agg [Cell.str (bs (qao b).1.Task),encL 2 MFile.enc (qao b).1.Outs,Cell.str (bs (qao b).1.Log)],.one (Cell.bool (qao b).2)]:=by
 have hM:=qai
 have hb:b.length≤1048576:=hb0
 have failR:∀ H:List Entry,mapO (qak false H) [.agg [Cell.str (bs []),.lst true 2 [],Cell.str (bs [])],.one (Cell.bool false)]=some [.agg [Cell.str (bs []),encL 2 MFile.enc [],Cell.str (bs [])],.one (Cell.bool false)]:=fun H=>by
  simp[mapO,qak,depth,reify,qkmb,qxv,norm,normRows,encL]
 by_cases h2:b.length < 2
 ·have:qao b=(⟨[],[],[]⟩,false):=by unfold qao;rw[qpr h2]
  rw[this]
  refine qcx (H:=[]) (qnw 0 ?_) (failR [])
  simp only[fbn,qag,Option.bind_some]
  rw[wrap_small (by omega) (by omega),decide_eq_true (by omega),cond_true]
 obtain⟨r,x,y,hbr⟩:∃ r x y,b=r++[x,y]:=by
  refine⟨b.take (b.length - 2),b[b.length - 2]'(by omega),b[b.length - 1]'(by omega),?_⟩
  have e:=(List.take_append_drop (b.length - 2) b).symm
  rw[List.drop_eq_getElem_cons (by omega),List.drop_eq_getElem_cons (by omega),List.drop_eq_nil_of_le (by omega)] at e
  have e2:b.length - 2+1=b.length - 1:=by omega
  simpa only[e2] using e
 have hlen:b.length=r.length+2:=by rw[hbr];simp
 have hg1:b[r.length]?=some x:=by rw[hbr];simp
 have hg2:b[r.length+1]?=some y:=by rw[hbr,List.getElem?_append_right (by omega)];simp
 have htake:(b.drop 0).take (r.length - 0)=r:=by rw[hbr];simp
 have hx:=x.toNat_lt
 have hy:=y.toNat_lt
 have hge:=qdvb b x y r hbr
 have n1:=fun (st:Nat×Bool) hst T=>n_fcf r (by omega) st hst T
 have loop:∀ (d i n:Nat) (st:Nat×Bool) (c:Cell) (T:List Entry) (xs:List MFile) (K:Nat),i+d=K→d < n→st.1≤r.length→K≤1000→xs.length=i→GrowAt 1 2 c T (xs.map MFile.enc)→∀ (t l:Str) k m,
   ∃ av H',qko k m n r.length K true i (bs t) c (bs l) (rdE r st::T)=some (av,H')∧mapO (qak false H') av=some (if (qbs r d st).2.2=true∨(qbs r d st).2.1≠r.length then [.agg [Cell.str (bs []),encL 2 MFile.enc [],Cell.str (bs [])],.one (Cell.bool false)]
    else [.agg [Cell.str (bs t),encL 2 MFile.enc (xs++(qbs r d st).1),Cell.str (bs l)],.one (Cell.bool true)]):=by
  intro d
  induction d with
  | zero=>
   intro i n st c T xs K hi hn hst hK hxs hG t l k m
   obtain⟨n,rfl⟩:∃ q,n=q+1:=⟨n - 1,by omega⟩
   obtain⟨at',bad⟩:=st
   have d1:deref (rdE r (at',bad)::T) (.ptr 0 3 0 1 0)=some ([qaw r,Cell.int at',Cell.bool bad],1):=by simp[deref,entry?]
   have d2:deref (rdE r (at',bad)::T) (.ptr 0 3 0 2 0)=some ([qaw r,Cell.int at',Cell.bool bad],2):=by simp[deref,entry?]
   simp only[qko,d1,d2,EV0,qbs,List.append_nil]
   rw[decide_eq_false (by omega),cond_false]
   cases bad with
   | true=>exact⟨_,_,rfl,by rw[if_pos (.inl rfl)];exact failR _⟩
   | false=>
    simp only[Bool.not_true,cond_false]
    by_cases ha:at'=r.length
    ·rw[show((at':Int) != (r.length:Int))=false by simp[ha],cond_false]
     refine⟨_,_,rfl,?_⟩
     rw[if_neg (by simp[ha])]
     obtain⟨ids,r1,_⟩:=hG.rep (A:=[rdE r (at',false)]) (tr:=MFile.tr) (fun _ _=>rfl) (fun f _ H'=>.cons (i:=[]) (is:=[]) ⟨rfl,rfl⟩ (.cons (i:=[]) (is:=[]) ⟨rfl,rfl⟩ .nil))
     have:=qdh (cs:=[Cell.str (bs t),c,Cell.str (bs l)]) (ts:=[.leaf (.string (bs t)),trL 2 MFile.tr xs,.leaf (.string (bs l))]) (n:=2) (.cons (i:=[]) (is:=ids++[]) ⟨rfl,rfl⟩ (.cons (i:=ids) (is:=[]) r1 (.cons (i:=[]) (is:=[]) ⟨rfl,rfl⟩ .nil))) (by omega)
     refine qca (this.trans ?_) (qay [.one (Cell.bool true)] _ _)
     rw[List.map_cons,List.map_cons,List.map_cons,List.map_nil,qbc,qbc,qbm]
    ·rw[show((at':Int) != (r.length:Int))=true by simp only[bne_iff_ne,ne_eq];omega,cond_true]
     exact⟨_,_,rfl,by rw[if_pos (.inr ha)];exact failR _⟩
  | succ d ih=>
   intro i n st c T xs K hi hn hst hK hxs hG t l k m
   obtain⟨n,rfl⟩:∃ q,n=q+1:=⟨n - 1,by omega⟩
   obtain⟨at',bad⟩:=st
   have d2:deref (rdE r (at',bad)::T) (.ptr 0 3 0 2 0)=some ([qaw r,Cell.int at',Cell.bool bad],2):=by simp[deref,entry?]
   simp only[qko,d2,EV0]
   rw[decide_eq_true (by omega),cond_true]
   cases bad with
   | true=>
    simp only[Bool.not_true,cond_false,cond_true]
    refine⟨_,_,rfl,?_⟩
    rw[if_pos (.inl (by rw[qjs]))]
    exact failR _
   | false=>
    have s1:=qhg hst
    have s2:=qhg s1
    obtain⟨d',T',a1,g1⟩:=qahc (A:=[rdE r (nxS r (nxS r (at',false)).2).2]) (by':=32) hG (MFile.enc ⟨(nxS r (at',false)).1,(nxS r (nxS r (at',false)).2).1⟩) (by simp only[List.length_map,bound];omega) (by simp only[List.length_map,bound];omega)
    replace g1:GrowAt 1 2 d' T' ((xs++[(⟨(nxS r (at',false)).1,(nxS r (nxS r (at',false)).2).1⟩:MFile)]).map MFile.enc):=by rw[List.map_append];exact g1
    obtain⟨av,H',e1,e2⟩:=ih (i+1) n (nxS r (nxS r (at',false)).2).2 d' T' (xs++[⟨(nxS r (at',false)).1,(nxS r (nxS r (at',false)).2).1⟩]) K (by omega) (by omega) s2 hK (by simp[hxs]) g1 t l k m
    refine⟨av,H',?_,?_⟩
    ·simp only[Bool.not_false,cond_true,n1 (at',false) hst T,n1 _ s1 T,EV0]
     rw[show app (rdE r (nxS r (nxS r (at',false)).2).2::T) 2 32 c [[Cell.str (bs (nxS r (at',false)).1),Cell.str (bs (nxS r (nxS r (at',false)).2).1)]]=some (d',rdE r (nxS r (nxS r (at',false)).2).2::T') from a1]
     simp only[Option.bind_some]
     rw[qaj (by omega)]
     exact e1
    ·rw[e2]
     simp only[qbs,List.append_assoc,List.singleton_append]
     rfl
 have fails:∀ (K:Nat) (ok:Bool) (st:Nat×Bool) (c:Cell) (T:List Entry) (t l:Str) k m n,st.2=true∨ok=false→K=0∨ok=true→qko k m (n+1) r.length K ok ((0:Nat):Int) (bs t) c (bs l) (rdE r st::T)=some ([.agg [Cell.str (bs []),.lst true 2 [],Cell.str (bs [])],.one (Cell.bool false)],rdE r st::T):=by
  intro K ok st c T t l k m n h hk
  obtain⟨at',bad⟩:=st
  have d1:deref (rdE r (at',bad)::T) (.ptr 0 3 0 1 0)=some ([qaw r,Cell.int at',Cell.bool bad],1):=by simp[deref,entry?]
  have d2:deref (rdE r (at',bad)::T) (.ptr 0 3 0 2 0)=some ([qaw r,Cell.int at',Cell.bool bad],2):=by simp[deref,entry?]
  simp only[qko,d1,d2,EV0]
  cases decide (((0:Nat):Int) < (K:Int))<;>cases ok<;>cases bad<;>simp at h hk ⊢
 have key:∀ (bad0:Bool),∃ av H',((qdk [.one (.ptr 0 3 0 0 0)] [rdE r (0,bad0)]).bind fun r13=>
 cond (qab qmh r13.1)
 ((cS (qaa r13.1 0) 0).bind fun s14=>
 (qdk [.one (.ptr 0 3 0 0 0)] r13.2).bind fun r15=>
 cond (qab qmh r15.1)
 ((cS (qaa r15.1 0) 0).bind fun s16=>
 (qdk [.one (.ptr 0 3 0 0 0)] r15.2).bind fun r17=>
 cond (qab qmh r17.1)
 ((cS (qaa r17.1 0) 0).bind fun s18=>
 (out qjm [.one (Cell.str s18),.one (Cell.int 1000)]).bind fun r19=>
 cond (qab qrmb r19)
 ((cI .i64 (qaa r19 0) 0).bind fun i20=>
 (cB (qaa r19 1) 0).bind fun b21=>
 qko 1002 1002 1002 r.length i20 b21 0 s14 (.lst true 2 []) s16 r17.2)
 none)
 none)
 none)
 none)=some (av,H')∧mapO (qak false H') av=some (match (if bad0=true then none else (match decM r with
  | some (m,z)=>if z=[] then some m else none
  | none=>none)) with
  | some m=>[.agg [Cell.str (bs m.Task),encL 2 MFile.enc m.Outs,Cell.str (bs m.Log)],.one (Cell.bool true)]
  | none=>[.agg [Cell.str (bs []),encL 2 MFile.enc [],Cell.str (bs [])],.one (Cell.bool false)]):=by
  intro bad0
  have s0:(0,bad0).1≤r.length:=Nat.zero_le _
  have s1:=qhg (b:=r) (st:=(0,bad0)) s0
  have s2:=qhg s1
  have s3:=qhg s2
  have hp:out qjm [.one (Cell.str (bs (nxS r (nxS r (nxS r (0,bad0)).2).2).1)),.one (Cell.int 1000)]=some (numV (qar (nxS r (nxS r (nxS r (0,bad0)).2).2).1 1000)):=c_fbs _ 1000 (Nat.le_trans (qlg _ _) (by omega)) (by omega)
  simp only[n1 (0,bad0) s0 [],n1 _ s1 [],n1 _ s2 [],hp,EV0]
  cases bad0 with
  | true=>
   rw[if_pos rfl]
   simp only
   rw[qgy,qgy,qgy] at*
   have h0:qar [] 1000=none:=by
    unfold qar
    rw[if_neg]
    rintro ⟨_,h,_⟩
    simp at h
   simp only[h0,numV,EV0]
   exact⟨_,_,fails 0 false (0,true) _ _ _ _ _ _ _ (.inl rfl) (.inl rfl),failR _⟩
  | false=>
   rw[if_neg (by simp)]
   have hm:=mach r
   cases hk:qar (nxS r (nxS r (nxS r (0,false)).2).2).1 1000 with
   | none=>
    rw[hk] at hm
    simp only at hm
    rw[hm]
    simp only[numV,EV0]
    exact⟨_,_,fails 0 false _ _ _ _ _ _ _ _ (.inr rfl) (.inl rfl),failR _⟩
   | some K=>
    rw[hk] at hm
    simp only at hm
    have hK:=(qci hk).2.1
    obtain⟨av,H',e1,e2⟩:=loop K 0 1002 (nxS r (nxS r (nxS r (0,false)).2).2).2 (.lst true 2 []) [] [] K (by omega) (by omega) s3 hK rfl (.inl ⟨rfl,rfl,rfl⟩) (nxS r (0,false)).1 (nxS r (nxS r (0,false)).2).1 1002 1002
    refine⟨av,H',?_,?_⟩
    ·simp only[numV,EV0]
     exact e1
    ·rw[e2]
     congr 1
     by_cases hbad:(qbs r K (nxS r (nxS r (nxS r (0,false)).2).2).2).2.2=true
     ·rw[if_pos hbad] at hm
      rw[if_pos (.inl hbad),hm]
     ·rw[if_neg hbad] at hm
      rw[hm]
      simp only
      have hat:=qidb K _ s3
      by_cases hn:(qbs r K (nxS r (nxS r (nxS r (0,false)).2).2).2).2.1=r.length
      ·rw[if_neg (by rintro (h | h);exact hbad h;exact h hn),if_pos (by rw[hn];simp)]
       simp
      ·rw[if_pos (.inr hn),if_neg]
       intro h
       have:=congrArg List.length h
       simp only[List.length_drop,List.length_nil] at this
       omega
 obtain⟨av,H',k1,k2⟩:=key (((sumB r % 65536:Nat):Int) != ((x.toNat*256+y.toNat:Nat):Int))
 have hfin:some (match (if (((sumB r % 65536:Nat):Int) != ((x.toNat*256+y.toNat:Nat):Int))=true then none else (match decM r with
  | some (m,z)=>if z=[] then some m else none
  | none=>none)) with
  | some m=>[AV.agg [Cell.str (bs m.Task),encL 2 MFile.enc m.Outs,Cell.str (bs m.Log)],AV.one (Cell.bool true)]
  | none=>[AV.agg [Cell.str (bs []),encL 2 MFile.enc ([]:List MFile),Cell.str (bs [])],AV.one (Cell.bool false)])=some [.agg [Cell.str (bs (qao b).1.Task),encL 2 MFile.enc (qao b).1.Outs,Cell.str (bs (qao b).1.Log)],.one (Cell.bool (qao b).2)]:=by
  unfold qao
  rw[hge]
  by_cases hs:sumB r % 65536=x.toNat*256+y.toNat
  ·rw[if_neg (by simp[hs]),if_pos hs]
   cases (match decM r with
    | some (m,z)=>if z=[] then some m else none
    | none=>none)<;>rfl
  ·rw[if_pos (by simp only[bne_iff_ne,ne_eq];omega),if_neg hs]
 refine qcx (qnw 1001 ?_) (k2.trans hfin)
 have hwr:IntKind.i64.wrap ((b.length:Int) - 2)=(r.length:Int):=by rw[wrap_small (by omega) (by omega)];omega
 have hs:=qmd b 0 r.length (by omega) (by omega)
 rw[htake] at hs
 simp only[fbn,qag,Option.bind_some,hwr]
 rw[decide_eq_false (by omega),cond_false,show((0:Int))=((0:Nat):Int) from rfl,hs]
 simp only[c_fce r (by omega),qat,hg1,qaj (show r.length < maxLen by omega),hg2,qbf,qqy,EV0]
 exact k1
theorem c_faa (x y:Str):out qkz [.one (qaw x),.one (qaw y)]=some [.one (Cell.bool (x==y))]:=by
 refine qbb (H:=[]) (qdwb 0 ?_)
 simp only[faa,qbx,EV0]
theorem f_fac (b:Str)(hb0:bdS 1048576 b):Fresh qcp true 2 [.one (qaw b)] [.agg (qao b).1.tr,.one (.leaf (.bool (qao b).2))]:=by
 have hM:=qai
 have hb:b.length≤1048576:=hb0
 have n1:=fun (st:Nat×Bool) hst T=>n_fav b hb st hst T
 have s0:((0,false):Nat×Bool).1≤b.length:=Nat.zero_le _
 have s1:=qhg (b:=b) (st:=(0,false)) s0
 have s2:=qhg s1
 have s3:=qhg s2
 have loop:∀ (d i n:Nat) (st:Nat×Bool) (c:Cell) (T:List Entry) (xs:List MFile) (K:Nat),i+d=K→d < n→st.1≤b.length→K≤1000→xs.length=i→GrowAt 1 2 c T (xs.map MFile.enc)→∀ (ok:Bool) (t l:ByteArray) k m,
   ∃ c' T' n',qks k m n (qaw b) ok K i t c l (rdE b st::T)=qks k m (n'+1) (qaw b) ok K K t c' l (rdE b (qbs b d st).2::T')∧GrowAt 1 2 c' T' ((xs++(qbs b d st).1).map MFile.enc):=by
  intro d
  induction d with
  | zero=>
   intro i n st c T xs K hi hn hst hK hxs hG ok t l k m
   obtain⟨n,rfl⟩:∃ q,n=q+1:=⟨n - 1,by omega⟩
   refine⟨c,T,n,?_,by simpa[qbs] using hG⟩
   rw[show i=K by omega]
   rfl
  | succ d ih=>
   intro i n st c T xs K hi hn hst hK hxs hG ok t l k m
   obtain⟨n,rfl⟩:∃ q,n=q+1:=⟨n - 1,by omega⟩
   have t1:=qhg hst
   have t2:=qhg t1
   obtain⟨d',T',a1,g1⟩:=qahc (A:=[rdE b (nxS b (nxS b st).2).2]) (by':=32) hG (MFile.enc ⟨(nxS b st).1,(nxS b (nxS b st).2).1⟩) (by simp only[List.length_map,bound];omega) (by simp only[List.length_map,bound];omega)
   replace g1:GrowAt 1 2 d' T' ((xs++[(⟨(nxS b st).1,(nxS b (nxS b st).2).1⟩:MFile)]).map MFile.enc):=by rw[List.map_append];exact g1
   obtain⟨c',T'',n',e1,e2⟩:=ih (i+1) n (nxS b (nxS b st).2).2 d' T' (xs++[⟨(nxS b st).1,(nxS b (nxS b st).2).1⟩]) K (by omega) (by omega) t2 hK (by simp[hxs]) g1 ok t l k m
   refine⟨c',T'',n',?_,by simpa[qbs] using e2⟩
   simp only[qks]
   rw[decide_eq_true (by omega),cond_true]
   simp only[n1 st hst T,n1 _ t1 T,EV0]
   rw[show app (rdE b (nxS b (nxS b st).2).2::T) 2 32 c [[Cell.str (bs (nxS b st).1),Cell.str (bs (nxS b (nxS b st).2).1)]]=some (d',rdE b (nxS b (nxS b st).2).2::T') from a1]
   simp only[Option.bind_some]
   rw[qaj (by omega)]
   exact e1
 have hp:out qlp [.one (Cell.str (bs (nxS b (nxS b (nxS b (0,false)).2).2).1)),.one (Cell.int 1000)]=some (numV (qar (nxS b (nxS b (nxS b (0,false)).2).2).1 1000)):=c_fah _ 1000 (Nat.le_trans (qlg _ _) (by omega)) (by omega)
 have hm:=mach b
 have e0:qew [.one (.ptr 0 3 0 0 0)] [Entry.mk 3 [[qaw b,Cell.int 0,Cell.bool false]] 0 false]=some ([.one (Cell.str (bs (nxS b (0,false)).1))],[rdE b (nxS b (0,false)).2]):=n1 (0,false) s0 []
 have failF:∀ H,qcp [.one (qaw b)] []=some ([.agg [Cell.str (bs []),.lst true 2 [],Cell.str (bs [])],.one (Cell.bool false)],H)→qbk b=none→Fresh qcp true 2 [.one (qaw b)] [.agg (qao b).1.tr,.one (.leaf (.bool (qao b).2))]:=by
  intro H h hn
  have:qao b=(⟨[],[],[]⟩,false):=by unfold qao;rw[hn]
  rw[this]
  exact Fresh.agg1 (n:=1) (ids:=[]) h (.cons (i:=[]) (is:=[]) ⟨rfl,rfl⟩ (.cons (i:=[]) (is:=[]) (.inl ⟨rfl,rfl,true,rfl⟩) (.cons (i:=[]) (is:=[]) ⟨rfl,rfl⟩ .nil))) (by simp)
 cases hk:qar (nxS b (nxS b (nxS b (0,false)).2).2).1 1000 with
 | none=>
  rw[hk] at hm hp
  simp only at hm
  refine failF (rdE b (nxS b (nxS b (nxS b (0,false)).2).2).2::[]) (qfm 0 ?_) (by unfold qbk;rw[hm])
  simp only[fac,e0,n1 _ s1 [],n1 _ s2 [],hp,numV,EV0]
  simp[qks]
 | some K=>
  rw[hk] at hm hp
  simp only at hm
  have hK:=(qci hk).2.1
  obtain⟨c',T',n',e1,g1⟩:=loop K 0 1002 _ (.lst true 2 []) [] [] K (by omega) (by omega) s3 hK rfl (.inl ⟨rfl,rfl,rfl⟩) true (bs (nxS b (0,false)).1) (bs (nxS b (nxS b (0,false)).2).1) 1002 1002
  rw[List.nil_append] at g1
  generalize hz:qbs b K (nxS b (nxS b (nxS b (0,false)).2).2).2=z at*
  obtain⟨fs,at',bad⟩:=z
  dsimp only at e1 g1 hm
  have d2:deref (rdE b (at',bad)::T') (.ptr 0 3 0 2 0)=some ([qaw b,Cell.int at',Cell.bool bad],2):=by simp[deref,entry?]
  cases bad with
  | true=>
   rw[if_pos rfl] at hm
   refine failF (rdE b (at',true)::T') (qfm 1001 ?_) (by unfold qbk;rw[hm])
   simp only[fac,e0,n1 _ s1 [],n1 _ s2 [],hp,numV,EV0]
   refine e1.trans ?_
   simp only[qks,d2,EV0]
   rw[decide_eq_false (by omega),cond_false]
   rfl
  | false=>
   rw[if_neg (by simp)] at hm
   obtain⟨ids,r1,r2,_⟩:=g1.rep (A:=[rdE b (at',false)]) (tr:=MFile.tr) (fun _ _=>rfl) (fun f _ H'=>.cons (i:=[]) (is:=[]) ⟨rfl,rfl⟩ (.cons (i:=[]) (is:=[]) ⟨rfl,rfl⟩ .nil))
   have hfl:fs.length=K∧wfF fs:=by
    have:=qdpb b K (nxS b (nxS b (nxS b (0,false)).2).2).2
    rw[hz] at this
    exact this
   have hwf:wfM ⟨(nxS b (0,false)).1,fs,(nxS b (nxS b (0,false)).2).1⟩:=⟨qlg _ _,qlg _ _,by rw[hfl.1];exact hK,hfl.2⟩
   have hrd:qak false ([rdE b (at',false)]++T') (.agg [Cell.str (bs (nxS b (0,false)).1),c',Cell.str (bs (nxS b (nxS b (0,false)).2).1)])=some (.agg [Cell.str (bs (nxS b (0,false)).1),encL 2 MFile.enc fs,Cell.str (bs (nxS b (nxS b (0,false)).2).1)]):=by
    have:=qdh (cs:=[Cell.str (bs (nxS b (0,false)).1),c',Cell.str (bs (nxS b (nxS b (0,false)).2).1)]) (ts:=[.leaf (.string (bs (nxS b (0,false)).1)),trL 2 MFile.tr fs,.leaf (.string (bs (nxS b (nxS b (0,false)).2).1))]) (n:=2) (.cons (i:=[]) (is:=ids++[]) ⟨rfl,rfl⟩ (.cons (i:=ids) (is:=[]) r1 (.cons (i:=[]) (is:=[]) ⟨rfl,rfl⟩ .nil))) (by omega)
    rw[List.map_cons,List.map_cons,List.map_cons,List.map_nil,qbc,qbc,qbm] at this
    exact this
   obtain⟨c2,E,is,e2,q1,w1,_⟩:=qpe (f_fak ⟨(nxS b (0,false)).1,fs,(nxS b (nxS b (0,false)).2).1⟩ (qwab hwf)) ([rdE b (at',false)]++T') (qca hrd (qaz _))
   have hq:BytM ([rdE b (at',false)]++T'++E) c2 (qah ⟨(nxS b (0,false)).1,fs,(nxS b (nxS b (0,false)).2).1⟩):=⟨is,q1,w1.nd⟩
   have e3:qba qkz [.one c2,.one (qaw b)] ([rdE b (at',false)]++T'++E)=some [.one (Cell.bool (qah ⟨(nxS b (0,false)).1,fs,(nxS b (nxS b (0,false)).2).1⟩==b))]:=by
    rw[qgj (qca hq.read (qay [.one (qaw b)] _ _)),c_faa]
   have fin:qcp [.one (qaw b)] []=cond (qah ⟨(nxS b (0,false)).1,fs,(nxS b (nxS b (0,false)).2).1⟩==b) (some ([.agg [Cell.str (bs (nxS b (0,false)).1),c',Cell.str (bs (nxS b (nxS b (0,false)).2).1)],.one (Cell.bool true)],[rdE b (at',false)]++T'++E)) (some ([.agg [Cell.str (bs []),.lst true 2 [],Cell.str (bs [])],.one (Cell.bool false)],[rdE b (at',false)]++T'++E)):=by
    have hstep:fac 1002 1002 (qaw b)=cond (qah ⟨(nxS b (0,false)).1,fs,(nxS b (nxS b (0,false)).2).1⟩==b) (some ([.agg [Cell.str (bs (nxS b (0,false)).1),c',Cell.str (bs (nxS b (nxS b (0,false)).2).1)],.one (Cell.bool true)],[rdE b (at',false)]++T'++E)) (some ([.agg [Cell.str (bs []),.lst true 2 [],Cell.str (bs [])],.one (Cell.bool false)],[rdE b (at',false)]++T'++E)):=by
     simp only[fac,e0,n1 _ s1 [],n1 _ s2 [],hp,numV,EV0]
     refine e1.trans ?_
     simp only[qks,d2,EV0]
     rw[decide_eq_false (by omega),cond_false]
     rw[show qcr qfs [.agg [Cell.str (bs (nxS b (0,false)).1),c',Cell.str (bs (nxS b (nxS b (0,false)).2).1)]] (rdE b (at',false)::T')=some ([.one c2],[rdE b (at',false)]++T'++E) from e2]
     simp only[e3,EV0]
     cases (qah ⟨(nxS b (0,false)).1,fs,(nxS b (nxS b (0,false)).2).1⟩==b)<;>rfl
    cases h:(qah ⟨(nxS b (0,false)).1,fs,(nxS b (nxS b (0,false)).2).1⟩==b) with
    | true=>rw[h] at hstep;exact qfm 1001 hstep
    | false=>rw[h] at hstep;exact qfm 1001 hstep
   by_cases hpm:qah ⟨(nxS b (0,false)).1,fs,(nxS b (nxS b (0,false)).2).1⟩=b
   ·have hg:qbk b=some ⟨(nxS b (0,false)).1,fs,(nxS b (nxS b (0,false)).2).1⟩:=by unfold qbk;rw[hm];exact if_pos hpm
    have hmm:qao b=(⟨(nxS b (0,false)).1,fs,(nxS b (nxS b (0,false)).2).1⟩,true):=by unfold qao;rw[hg]
    rw[hmm]
    rw[show(qah ⟨(nxS b (0,false)).1,fs,(nxS b (nxS b (0,false)).2).1⟩==b)=true by simpa using hpm,cond_true] at fin
    refine Fresh.agg1 (n:=1) (ids:=[]++(ids++([]++[]))) fin (.cons (i:=[]) (is:=ids++([]++[])) ⟨rfl,rfl⟩ (.cons (i:=ids) (is:=[]++[]) ?_ (.cons (i:=[]) (is:=[]) ⟨rfl,rfl⟩ .nil))) (by simpa using r2)
    exact(r1.app E).weak (fun h=>h) fun h=>h
   ·have hg:qbk b=none:=by unfold qbk;rw[hm];exact if_neg hpm
    rw[show(qah ⟨(nxS b (0,false)).1,fs,(nxS b (nxS b (0,false)).2).1⟩==b)=false by simpa using hpm,cond_false] at fin
    exact failF _ fin hg
def curE (code:Str)(i:Nat)(h:Int):Entry:=Entry.mk 3 [[qaw code,Cell.int i,Cell.int h]] 0 false
def eI (i:Int):List Cell:=[Cell.int i]
def Cur (H:List Entry)(id:Nat)(code:Str):Prop:=∃ i h,i≤code.length∧H[id]?=some (curE code i h)
structure Dr (id:Nat)(code:Str)(H H':List Entry):Prop where
 len:H.length≤H'.length
 old:∀ j,j≠id→j < H.length→H'[j]?=H[j]?
 cur:Cur H' id code
theorem Dr.refl {id:Nat}{code:Str}{H:List Entry}(h:Cur H id code):Dr id code H H:=⟨Nat.le_refl _,fun _ _ _=>rfl,h⟩
theorem Dr.trans {id:Nat}{code:Str}{H H1 H2:List Entry}(h:Dr id code H H1)(k:Dr id code H1 H2):Dr id code H H2:=
 ⟨Nat.le_trans h.len k.len,fun j hj hl=>by rw[k.old j hj (Nat.lt_of_lt_of_le hl h.len),h.old j hj hl],k.cur⟩
theorem Dr.app {id:Nat}{code:Str}{H:List Entry}(h:Cur H id code)(T:List Entry):Dr id code H (H++T):=by
 obtain⟨i,x,h1,h2⟩:=h
 have hid:id < H.length:=(List.getElem?_eq_some_iff.1 h2).1
 exact⟨by simp,fun j _ hj=>List.getElem?_append_left hj,i,x,h1,by rw[List.getElem?_append_left hid];exact h2⟩
structure DrN (N id:Nat)(code:Str)(H H':List Entry):Prop where
 len:H.length≤H'.length
 old:∀ j,j≠id→j < N→H'[j]?=H[j]?
 cur:Cur H' id code
theorem Dr.toN {id:Nat}{code:Str}{H H':List Entry}(h:Dr id code H H'){N:Nat}(hN:N≤H.length):DrN N id code H H':=⟨h.len,fun j hj hl=>h.old j hj (by omega),h.cur⟩
theorem DrN.trans {N id:Nat}{code:Str}{H H1 H2:List Entry}(h:DrN N id code H H1)(k:DrN N id code H1 H2):DrN N id code H H2:=
 ⟨Nat.le_trans h.len k.len,fun j hj hl=>by rw[k.old j hj hl,h.old j hj hl],k.cur⟩
theorem DrN.full {id:Nat}{code:Str}{H H':List Entry}(h:DrN H.length id code H H'):Dr id code H H':=⟨h.len,h.old,h.cur⟩
theorem and255 (x:Int):0≤andI .i64 x 255∧andI .i64 x 255≤255:=by
 unfold andI
 have h1:(BitVec.ofInt 64 x&&& BitVec.ofInt 64 255).toNat≤255:=by
  rw[BitVec.toNat_and]
  have:(BitVec.ofInt 64 255).toNat=255:=rfl
  rw[this]
  exact Nat.and_le_right
 have h2:IntKind.i64.wrap (((BitVec.ofInt 64 x&&& BitVec.ofInt 64 255).toNat:Nat):Int)=(((BitVec.ofInt 64 x&&& BitVec.ofInt 64 255).toNat:Nat):Int):=wrap_small (by omega) (by omega)
 show 0≤IntKind.i64.wrap (((BitVec.ofInt 64 x&&& BitVec.ofInt 64 255).toNat:Nat):Int)∧IntKind.i64.wrap (((BitVec.ofInt 64 x&&& BitVec.ofInt 64 255).toNat:Nat):Int)≤255
 rw[h2]
 omega
theorem qmv {id:Nat}{code:Str}{H:List Entry}(hc:Cur H id code)(hl:code.length≤1048576):∃ v H',qgs [.one (.ptr id 3 0 0 0)] H=some ([.one (Cell.int v)],H')∧Dr id code H H'∧0≤v∧v≤255:=by
 have hM:=qai
 obtain⟨i,h,hi,he⟩:=hc
 have hid:id < H.length:=(List.getElem?_eq_some_iff.1 he).1
 have dd:∀ (G:List Entry) (i':Nat) (h':Int) (j:Nat),G[id]?=some (curE code i' h')→deref G (.ptr id 3 0 j 0)=some ([qaw code,Cell.int i',Cell.int h'],j):=fun G i' h' j hg=>by simp[deref,entry?,hg,curE]
 have st2:∀ (G:List Entry) (i':Nat) (h' v:Int),G[id]?=some (curE code i' h')→qby G (.ptr id 3 0 2 0) [Cell.int v]=some (G.set id (curE code i' v)):=fun G i' h' v hg=>by simp[qby,entry?,hg,curE,splice]
 have st1:∀ (G:List Entry) (i':Nat) (h':Int) (v:Nat),G[id]?=some (curE code i' h')→qby G (.ptr id 3 0 1 0) [Cell.int v]=some (G.set id (curE code v h')):=fun G i' h' v hg=>by simp[qby,entry?,hg,curE,splice]
 have g1:∀ x,(H.set id (curE code i x))[id]?=some (curE code i x):=fun x=>List.getElem?_set_self hid
 obtain⟨x,hx⟩:∃ x,x=IntKind.i64.wrap (IntKind.i64.wrap (h*6364136223846793005)+1442695040888963407):=⟨_,rfl⟩
 by_cases hlt:i < code.length
 ·refine⟨andI .i64 (IntKind.i64.wrap ((andI .i64 (xorI .i64 (shrI .i64 x 33) (shrI .i64 x 47)) 255)+IntKind.i64.wrap ((code[i]).toNat:Int))) 255,(H.set id (curE code i x)).set id (curE code (i+1) x),qqo 0 ?_,?_,and255 _⟩
  ·simp only[fch,ptrC,qig,Nat.zero_add,dd H i h _ he,EV0]
   rw[← hx]
   clear hx
   simp only[st2 H i h _ he,dd _ i _ _ (g1 _),qag,EV0]
   rw[decide_eq_true (by omega),cond_true]
   simp only[qat,List.getElem?_eq_getElem hlt,qbf,EV0]
   rw[qaj (by omega),st1 _ i _ (i+1) (g1 _)]
   rfl
  ·rw[List.set_set]
   exact⟨by simp,fun j hj hjl=>by rw[List.getElem?_set_ne (Ne.symm hj)],i+1,_,by omega,List.getElem?_set_self hid⟩
 ·refine⟨andI .i64 (xorI .i64 (shrI .i64 x 33) (shrI .i64 x 47)) 255,H.set id (curE code i x),qqo 0 ?_,?_,and255 _⟩
  ·simp only[fch,ptrC,qig,Nat.zero_add,dd H i h _ he,EV0]
   rw[← hx]
   clear hx
   simp only[st2 H i h _ he,dd _ i _ _ (g1 _),qag,EV0]
   rw[decide_eq_false (by omega),cond_false]
  ·exact⟨by simp,fun j hj hjl=>by rw[List.getElem?_set_ne (Ne.symm hj)],i,_,hi,List.getElem?_set_self hid⟩
theorem qvc (code:Str)(hl:code.length≤1048576)(H:List Entry):∃ h,qdz [.one (qaw code)] H=some ([.one (.ptr H.length 3 0 0 0)],H++[curE code 0 h]):=by
 have hM:=qai
 have loop:∀ (r:Str) (i n:Nat) (x:Int),code.drop i=r→r.length < n→∀ k m,∃ h,qqt k m n (qaw code) x i H=some ([.one (.ptr H.length 3 0 0 0)],H++[curE code 0 h]):=by
  intro r
  induction r with
  | nil=>
   intro i n x hd hn k m
   obtain⟨n,rfl⟩:∃ j,n=j+1:=⟨n - 1,by omega⟩
   have:=drop_nil hd
   refine⟨x,?_⟩
   simp only[qqt,qag,Option.bind_some]
   rw[decide_eq_false (by omega),cond_false]
   rfl
  | cons b r ih=>
   intro i n x hd hn k m
   obtain⟨n,rfl⟩:∃ j,n=j+1:=⟨n - 1,by omega⟩
   obtain⟨hlt,hx,hd'⟩:=qas hd
   simp only[List.length_cons] at hn
   simp only[qqt,qag,Option.bind_some]
   rw[decide_eq_true (by omega),cond_true]
   by_cases h4:i < 4000
   ·rw[decide_eq_true (by omega),cond_true]
    simp only[qat,hx,qbf,EV0]
    rw[qaj (by omega)]
    exact ih (i+1) n _ hd' (by omega) k m
   ·rw[decide_eq_false (by omega),cond_false]
    exact⟨x,rfl⟩
 obtain⟨h,e⟩:=loop code 0 (code.length+1+1) (IntKind.i64.wrap (778778+(code.length:Int))) rfl (by omega) (code.length+1+1) (code.length+1+1)
 refine⟨h,qabb (code.length+1) ?_⟩
 rw[show((0:Nat):Int)=0 from rfl] at e
 have hle:lenC (qaw code)=some code.length:=qag ..
 unfold fcl
 rw[hle,Option.bind_some]
 exact e
theorem Cur.new (code:Str)(h:Int)(H:List Entry):Cur (H++[curE code 0 h]) H.length code:=⟨0,h,Nat.zero_le _,by simp⟩
theorem qcb {id:Nat}{code:Str}{H:List Entry}(hc:Cur H id code)(hl:code.length≤1048576)(n:Nat)(h0:0 < n)(hn:n≤1073741824):∃ (v:Nat) (H':List Entry),qbo [.one (.ptr id 3 0 0 0),.one (Cell.int n)] H=some ([.one (Cell.int (v:Int))],H')∧Dr id code H H'∧v < n:=by
 have hM:=qai
 have hne:(n:Int)≠0:=by omega
 by_cases h2:n≤256
 ·obtain⟨v,H',e,d,v0,v1⟩:=qmv hc hl
  obtain⟨v,rfl⟩:∃ w:Nat,v=(w:Int):=⟨v.toNat,by omega⟩
  refine⟨v % n,H',qnk 0 ?_,d,Nat.mod_lt _ h0⟩
  simp only[fcg,e,EV0]
  rw[decide_eq_false (by omega),cond_false,decide_eq_true (by omega),cond_true,if_neg hne,Int.tmod_eq_emod_of_nonneg v0]
  rfl
 ·obtain⟨v,H1,e1,d1,v0,v1⟩:=qmv hc hl
  obtain⟨x,H2,e2,d2,x0,x1⟩:=qmv d1.cur hl
  obtain⟨y,H3,e3,d3,y0,y1⟩:=qmv d2.cur hl
  obtain⟨v,rfl⟩:∃ w:Nat,v=(w:Int):=⟨v.toNat,by omega⟩
  obtain⟨x,rfl⟩:∃ w:Nat,x=(w:Int):=⟨x.toNat,by omega⟩
  obtain⟨y,rfl⟩:∃ w:Nat,y=(w:Int):=⟨y.toNat,by omega⟩
  refine⟨(v*65536+x*256+y) % n,H3,qnk 0 ?_,d1.trans (d2.trans d3),Nat.mod_lt _ h0⟩
  simp only[fcg,e1,e2,e3,EV0]
  rw[decide_eq_false (by omega),cond_false,decide_eq_false (by omega),cond_false,if_neg hne,wrap_small (n:=(v:Int)*65536) (by omega) (by omega),wrap_small (n:=(x:Int)*256) (by omega) (by omega),wrap_small (n:=(v:Int)*65536+(x:Int)*256) (by omega) (by omega),wrap_small (by omega) (by omega),Int.tmod_eq_emod_of_nonneg (by omega),
   show(v:Int)*65536+(x:Int)*256+(y:Int)=((v*65536+x*256+y:Nat):Int) by omega]
  rfl
theorem qsib {id:Nat}{code:Str}{H:List Entry}(hc:Cur H id code)(hl:code.length≤1048576)(n:Nat)(h0:0 < n)(hn:n≤1073741824):∃ (b:Bool) (H':List Entry),qqa [.one (.ptr id 3 0 0 0),.one (Cell.int n)] H=some ([.one (Cell.bool b)],H')∧Dr id code H H':=by
 obtain⟨v,H',e,d,_⟩:=qcb hc hl n h0 hn
 refine⟨((v:Int)==0),H',qbmb 0 ?_,d⟩
 simp only[fcm,e,EV0]
theorem qnv {id:Nat}{code:Str}{H:List Entry}(hc:Cur H id code)(hl:code.length≤1048576)(f:Bool)(xs:List Str)(h0:0 < xs.length)(hn:xs.length≤1073741824):∃ s H',qcz [.one (.ptr id 3 0 0 0),.one (.lst f 1 (xs.map eStr))] H=some ([.one (Cell.str (bs s))],H')∧Dr id code H H'∧s∈xs:=by
 obtain⟨v,H',e,d,hv⟩:=qcb hc hl xs.length h0 hn
 refine⟨xs[v],H',qaqb 0 ?_,d,List.getElem_mem hv⟩
 have hi:idxA 1 (.lst f 1 (xs.map eStr)) (v:Int)=some (.ref (eStr xs[v]) 0):=by rw[qmj,List.getElem?_map,List.getElem?_eq_getElem hv];rfl
 simp only[fco,lenC,List.length_map,e,hi,eStr,EV0]
theorem qzmb {id:Nat}{code:Str}{H:List Entry}(hc:Cur H id code)(hl:code.length≤1048576)(f:Bool)(xs:List Int)(h0:0 < xs.length)(hn:xs.length≤1073741824):∃ s H',qop [.one (.ptr id 3 0 0 0),.one (.lst f 1 (xs.map eI))] H=some ([.one (Cell.int s)],H')∧Dr id code H H'∧s∈xs:=by
 obtain⟨v,H',e,d,hv⟩:=qcb hc hl xs.length h0 hn
 refine⟨xs[v],H',qefb 0 ?_,d,List.getElem_mem hv⟩
 have hi:idxA 1 (.lst f 1 (xs.map eI)) (v:Int)=some (.ref (eI xs[v]) 0):=by rw[qmj,List.getElem?_map,List.getElem?_eq_getElem hv];rfl
 simp only[fck,lenC,List.length_map,e,hi,eI,EV0]
def OwnM (lo hi:Nat)(H:List Entry)(n:Nat)(c:Cell)(t:Tr):Prop:=∃ ids,Rep H true true n ids c t∧Mine lo hi ids∧qcq c
def OwnS (lo hi:Nat)(H:List Entry)(n:Nat)(cs:List Cell)(ts:List Tr):Prop:=∃ ids,Sp (Rep H true true n) ids cs ts∧Mine lo hi ids
theorem OwnM.nil (sz lo hi:Nat)(n:Nat)(H:List Entry)(h:lo≤hi):OwnM lo hi H (n+1) (.lst true sz []) (.list sz []):=⟨[],.inl ⟨rfl,rfl,true,rfl⟩,Mine.nil h,qbl _⟩
theorem Mine.wide {lo hi lo' hi':Nat}{ids:List Nat}(h:Mine lo hi ids)(h1:lo'≤lo)(h2:hi≤hi'):Mine lo' hi' ids:=⟨by have:=h.le;omega,h.nd,fun j hj=>by have:=h.lo j hj;omega,fun j hj=>by have:=h.hi j hj;omega⟩
theorem Mine.swap {lo hi:Nat}{a b:List Nat}(h:Mine lo hi (a++b)):Mine lo hi (b++a):=
 ⟨h.le,by have:=h.nd;rw[List.nodup_append] at this ⊢;exact⟨this.2.1,this.1,fun x hx y hy e=>this.2.2 y hy x hx e.symm⟩,fun j hj=>h.lo j (by simp at hj ⊢;exact hj.symm),fun j hj=>h.hi j (by simp at hj ⊢;exact hj.symm)⟩
theorem OwnM.wide {lo hi lo' hi' n:Nat}{H:List Entry}{c:Cell}{t:Tr}(h:OwnM lo hi H n c t)(h1:lo'≤lo)(h2:hi≤hi'):OwnM lo' hi' H n c t:=by
 obtain⟨ids,a,b,d⟩:=h
 exact⟨ids,a,b.wide h1 h2,d⟩
theorem OwnM.frame {lo hi n id N:Nat}{code:Str}{H H':List Entry}{c:Cell}{t:Tr}(h:OwnM lo hi H n c t)(d:DrN N id code H H')(hid:id < lo)(hN:hi≤N):OwnM lo hi H' n c t:=by
 obtain⟨ids,a,b,e⟩:=h
 exact⟨ids,a.frame fun j hj=>d.old j (fun h=>by have:=b.lo j hj;omega) (by have:=b.hi j hj;omega),b,e⟩
theorem OwnM.s1 {lo hi n:Nat}{H:List Entry}{c:Cell}{t:Tr}(h:OwnM lo hi H n c t):OwnS lo hi H n [c] [t]:=by
 obtain⟨ids,a,b,_⟩:=h
 exact⟨ids++[],.cons a .nil,by simpa using b⟩
theorem OwnS.leaf {lo hi n:Nat}{H:List Entry}{v:Value}{cs:List Cell}{ts:List Tr}(h:OwnS lo hi H (n+1) cs ts):OwnS lo hi H (n+1) (.sc v::cs) (.leaf v::ts):=by
 obtain⟨ids,a,b⟩:=h
 exact⟨[]++ids,.cons ⟨rfl,rfl⟩ a,by simpa using b⟩
theorem OwnM.push {lo mid n sz by' id:Nat}{code:Str}{H:List Entry}{c:Cell}{trs:List (List Tr)}{row:List Cell}{tr:List Tr}(h:OwnM lo mid H (n+1) c (.list sz trs))(hr:OwnS mid H.length H n row tr)(hrl:row.length=sz)
  (hc:Cur H id code) (hid:id < lo) (hlen:trs.length≤1048576) (hby:by'≤1000):
  ∃ p:Cell×List Entry,app (H++[Entry.mk sz [row] 0 false]) sz by' c [row]=some p∧OwnM lo p.2.length p.2 (n+1) p.1 (.list sz (trs++[tr]))∧DrN lo id code H p.2:=by
 obtain⟨ids,h1,h2,h3⟩:=h
 obtain⟨js,k1,k2⟩:=hr
 have hb:(trs.length+1)*by'≤1048577*1000:=Nat.mul_le_mul (by omega) hby
 obtain⟨d,H',ids',a,r,nl,nd,g,m,k,_⟩:=(h1.app [Entry.mk sz [row] 0 false]).append (by':=by') (ys:=[row]) (tys:=[tr]) (js:=js++[]) h3 h2.nd (.cons (Rep.app2 _ k1) .nil) (by intro r hr;simp at hr;rw[hr];exact hrl) (by simpa using k2.nd) (fun j hj h=>by
  have e1:=h2.hi j hj
  have e2:=k2.lo j (by simpa using h)
  omega) (by simp[bound];omega) (by simp[bound];omega)
 obtain⟨i,x,hi,he⟩:=hc
 have hidl:id < H.length:=(List.getElem?_eq_some_iff.1 he).1
 have hm:H.length+1≤H'.length:=by simpa using m
 have hle:=k2.le
 have hle2:=h2.le
 have old:∀ j,j < H.length→j∉ids→H'[j]?=H[j]?:=fun j hj hn=>by rw[k j (by simp;omega) hn,List.getElem?_append_left hj]
 refine⟨(d,H'),a,⟨ids',r,⟨by show lo≤H'.length;omega,nd,fun j hj=>?_,r.lt⟩,nl⟩,by show H.length≤H'.length;omega,fun j hj hl=>old j (by omega) fun h=>by have:=h2.lo j h;omega,i,x,hi,?_⟩
 ·rcases g j hj with h | h | h
  ·exact h2.lo j h
  ·have:=k2.lo j (by simpa using h)
   omega
  ·simp at h
   omega
 ·simp only
  rw[old id hidl fun h=>by have:=h2.lo id h;omega]
  exact he
def VecN (H:List Entry)(ids:List Nat)(c:Cell)(sz:Nat)(rows:List (List Cell)):Prop:=(rows=[]∧ids=[]∧c=.lst true sz [])∨∃ j ep,ids=[j]∧c=.vs j sz 0 rows.length ep∧H[j]?=some ⟨sz,rows,ep,false⟩
theorem VecN.nil (H:List Entry)(sz:Nat):VecN H [] (.lst true sz []) sz []:=.inl ⟨rfl,rfl,rfl⟩
theorem VecN.frame {H H':List Entry}{ids:List Nat}{c:Cell}{sz:Nat}{rows:List (List Cell)}(h:VecN H ids c sz rows)(k:∀ j∈ids,H'[j]?=H[j]?):VecN H' ids c sz rows:=by
 rcases h with h | ⟨j,ep,rfl,rfl,h⟩
 ·exact .inl h
 ·exact .inr ⟨j,ep,rfl,rfl,by rw[k j (by simp)];exact h⟩
theorem VecN.lt {H:List Entry}{ids:List Nat}{c:Cell}{sz:Nat}{rows:List (List Cell)}(h:VecN H ids c sz rows):∀ j∈ids,j < H.length:=by
 rcases h with⟨_,rfl,_⟩ | ⟨j,ep,rfl,rfl,h⟩
 ·simp
 ·intro k hk
  simp at hk
  subst hk
  exact(List.getElem?_eq_some_iff.1 h).1
theorem VecN.len {H:List Entry}{ids:List Nat}{c:Cell}{sz:Nat}{rows:List (List Cell)}(h:VecN H ids c sz rows):lenC c=some rows.length:=by
 rcases h with⟨rfl,_,rfl⟩ | ⟨j,ep,rfl,rfl,h⟩<;>simp[lenC]
theorem VecN.at {H:List Entry}{ids:List Nat}{c:Cell}{sz:Nat}{rows:List (List Cell)}(h:VecN H ids c sz rows){i:Nat}{r:List Cell}(hr:rows[i]?=some r):∃ a,idxA sz c (i:Int)=some a∧∀ f,∃ a',fldA a f=some a'∧deref H a'=some (r,f):=by
 rcases h with⟨rfl,_,_⟩ | ⟨j,ep,rfl,rfl,h⟩
 ·simp at hr
 ·exact⟨.ptr j sz i 0 ep,qgx _ _ _ _ _ (List.getElem?_eq_some_iff.1 hr).1,fun f=>⟨.ptr j sz i f ep,by rw[qig,Nat.zero_add],by simp[deref,entry?,h,hr]⟩⟩
theorem VecN.tail {H:List Entry}{ids:List Nat}{c:Cell}{sz:Nat}{rows:List (List Cell)}(h:VecN H ids c sz rows){n:Nat}(hn:n≤rows.length):
  ∃ c',slcC sz c (n:Int) none none=some c'∧∀ H',(∀ j∈ids,H'[j]?=H[j]?)→qbw H' sz c'=some (rows.drop n):=by
 rcases h with⟨rfl,_,rfl⟩ | ⟨j,ep,rfl,rfl,h⟩
 ·simp at hn
  subst hn
  exact⟨.lst (qckb true none 0 0) sz [],by simp[slcC],fun H' _=>by simp[qbw,rowsOf]⟩
 ·by_cases e:n=0∨n < rows.length
  ·refine⟨.vs j sz (0+n) (rows.length - n) ep,?_,fun H' k=>?_⟩
   ·simp only[slcC,Option.getD_none,if_true]
    rw[if_pos (by omega),if_pos (by omega)]
    simp only[Int.toNat_natCast,Nat.zero_add,Option.some.injEq,Cell.vs.injEq,true_and,and_true]
    omega
   ·have:=k j (by simp)
    rw[h] at this
    simp only[qbw,rowsOf,if_true,entry?,this]
    rw[if_pos (by omega)]
    simp only[Nat.zero_add,Option.some.injEq]
    exact List.take_of_length_le (by simp)
  ·refine⟨.lst false sz [],?_,fun H' k=>?_⟩
   ·simp only[slcC,Option.getD_none,if_true]
    rw[if_pos (by omega),if_neg (by omega)]
   ·simp only[qbw,rowsOf,if_true]
    rw[List.drop_eq_nil_of_le (by omega)]
theorem VecN.app {H:List Entry}{ids:List Nat}{c:Cell}{sz by':Nat}{rows:List (List Cell)}(h:VecN H ids c sz rows)(ys:List (List Cell))(hl:rows.length+ys.length≤1048576)(hby:by'≤1000):
  ∃ (p:Cell×List Entry) (ids':List Nat),app H sz by' c ys=some p∧VecN p.2 ids' p.1 sz (rows++ys)∧(∀ j,j < H.length→j∉ids→p.2[j]?=H[j]?)∧H.length≤p.2.length∧(∀ j∈ids',j∈ids∨H.length≤j):=by
 have hb:(rows.length+ys.length)*by'≤1048576*1000:=Nat.mul_le_mul hl hby
 rcases h with⟨rfl,rfl,rfl⟩ | ⟨j,ep,rfl,rfl,h⟩
 ·cases ys with
  | nil=>exact⟨(_,H),[],by simp[Ev.app],.inl ⟨rfl,rfl,rfl⟩,fun _ _ _=>rfl,Nat.le_refl _,by simp⟩
  | cons y ys=>
   simp only[List.length_nil] at hl hb
   refine⟨(.vs H.length sz 0 (0+(y::ys).length) 0,H++[⟨sz,[]++(y::ys),0,false⟩]),[H.length],?_,.inr ⟨H.length,0,rfl,by simp,by simp⟩,fun j hj _=>List.getElem?_append_left hj,by simp,by simp⟩
   simp only[Ev.app,List.isEmpty_cons,List.length_nil]
   rw[if_neg (by simp),if_pos ⟨trivial,.inr trivial,by unfold bound;omega,by unfold bound;omega⟩]
 ·have hj:=(List.getElem?_eq_some_iff.1 h).1
  refine⟨(.vs j sz 0 (rows.length+ys.length) (ep+1),H.set j ⟨sz,rows++ys,ep+1,false⟩),[j],?_,.inr ⟨j,ep+1,rfl,by simp,List.getElem?_set_self hj⟩,fun k hk hn=>List.getElem?_set_ne (fun e=>hn (by simp[e])),by simp,fun k hk=>.inl hk⟩
  simp only[Ev.app,entry?,h,if_true]
  rw[if_pos ⟨trivial,by simp,.inr trivial,by unfold bound;omega,by unfold bound;omega⟩]
  simp
theorem VecN.ownF {α:Type}{sz:Nat}{e:α→List Cell}{tr:α→List Tr}{lo hi:Nat}{H:List Entry}{ids:List Nat}{c:Cell}{l:List α}(h:VecN H ids c sz (l.map e))(hlo:∀ j∈ids,lo≤j)(hh:H.length≤hi)(hl:lo≤hi)(hs:∀ x,(e x).length=sz)(ht:∀ x,Sp (Rep H true true 1) [] (e x) (tr x)):OwnM lo hi H 2 c (trL sz tr l):=by
 have hlt:=h.lt
 rcases h with⟨h1,rfl,rfl⟩ | ⟨j,ep,rfl,rfl,h⟩
 ·simp only[List.map_eq_nil_iff] at h1
  subst h1
  exact OwnM.nil sz lo hi 1 H hl
 ·refine⟨[j],.inr ⟨j,0,ep,l.map e,false,[],by simp,rfl,h,fun _=>rfl,fun _=>⟨rfl,by simp⟩,by simp,?_,?_⟩,⟨hl,by simp,fun k hk=>hlo k hk,fun k hk=>by have:=hlt k hk;omega⟩,qdc _ _ _ _ _⟩
  ·intro r hr
   obtain⟨x,hx,rfl⟩:=List.mem_map.1 hr
   exact hs x
  ·rw[List.drop_zero,List.take_of_length_le (by simp)]
   clear hlt h hlo
   induction l with
   | nil=>exact .nil
   | cons y ys ih=>exact .cons (i:=[]) (is:=[]) (ht y) ih
theorem c_fbe (x:Str)(hx:bdS maxLen x):out qqr [.one (qaw x)]=some [.one (Cell.bool (decide (1048576 < x.length)))]:=by
 refine qbb (H:=[]) (qayb 0 ?_)
 simp only[fbe,qag,EV0]
 rw[show decide ((x.length:Int) > 1048576)=decide (1048576 < x.length) from decide_eq_decide.2 (by omega)]
theorem qhj (H:List Entry)(f:MFile):Sp (Rep H true true 1) [] (MFile.enc f) (MFile.tr f):=.cons (i:=[]) (is:=[]) ⟨rfl,rfl⟩ (.cons (i:=[]) (is:=[]) ⟨rfl,rfl⟩ .nil)
theorem f_fcr (l:List MFile)(f:MFile)(hl:l.length≤1048575):∃ o:List MFile,Fresh qhz true 2 [.one (encL 2 MFile.enc l),.agg [Cell.str (bs f.Path),Cell.str (bs f.Text)]] [.one (trL 2 MFile.tr o)]∧o.length≤l.length+1∧(∀ x∈o,x∈l∨x=f)∧
  ∃ c E,qhz [.one (encL 2 MFile.enc l),.agg [Cell.str (bs f.Path),Cell.str (bs f.Text)]] []=some ([.one c],E)∧qcq c:=by
 have hM:=qai
 have loop:∀ (r:List MFile) (i n:Nat) (b:Bool) (c:Cell) (H:List Entry) (o:List MFile),l.drop i=r→r.length < n→Grow 2 c H (o.map MFile.enc)→o.length+r.length+(if b=true then 0 else 1)≤2097152→∀ k m,
   ∃ (p:Cell×List Entry) (o':List MFile),qjn k m n (encL 2 MFile.enc l) c b i (bs f.Path) (bs f.Text) H=some ([.one p.1],p.2)∧Grow 2 p.1 p.2 (o'.map MFile.enc)∧o'.length≤o.length+r.length+(if b=true then 0 else 1)∧∀ x∈o',x∈o∨x∈r∨x=f:=by
  intro r
  induction r with
  | nil=>
   intro i n b c H o hd hn hG ho k m
   obtain⟨n,rfl⟩:∃ j,n=j+1:=⟨n - 1,by omega⟩
   have:=drop_nil hd
   simp only[qjn,qag,Option.bind_some]
   rw[decide_eq_false (by omega),cond_false]
   cases b with
   | true=>exact⟨(c,H),o,rfl,hG,by simp,fun x hx=>.inl hx⟩
   | false=>
    simp only[List.length_nil] at ho
    obtain⟨p,a,g⟩:=hG.app (by':=32) ([f].map MFile.enc) (by unfold bound;simp;omega) (by unfold bound;simp;omega)
    rw[← List.map_append] at g
    refine⟨p,o++[f],?_,g,by simp,fun x hx=>?_⟩
    ·rw[Bool.not_false,cond_true,show [[Cell.str (bs f.Path),Cell.str (bs f.Text)]]=[f].map MFile.enc from rfl,a]
     rfl
    ·rcases List.mem_append.1 hx with h | h
     ·exact .inl h
     ·exact .inr (.inr (by simpa using h))
  | cons x r ih=>
   intro i n b c H o hd hn hG ho k m
   obtain⟨n,rfl⟩:∃ j,n=j+1:=⟨n - 1,by omega⟩
   obtain⟨hlt,hx,hd'⟩:=qas hd
   simp only[List.length_cons] at hn ho
   have push:∀ (b':Bool) (c:Cell) (H:List Entry) (o:List MFile),Grow 2 c H (o.map MFile.enc)→o.length+r.length+(if b'=true then 0 else 1)≤2097151→∃ (p:Cell×List Entry) (o':List MFile),((app H 2 32 c [[Cell.str (bs x.Path),Cell.str (bs x.Text)]]).bind fun p30=>qjn k m n (encL 2 MFile.enc l) (p30.1) b' (IntKind.i64.wrap ((i:Int)+1)) (bs f.Path) (bs f.Text) p30.2)=some ([.one p.1],p.2)∧Grow 2 p.1 p.2 (o'.map MFile.enc)∧o'.length≤o.length+(r.length+1)+(if b'=true then 0 else 1)∧∀ y∈o',y∈o∨y∈x::r∨y=f:=by
    intro b' c H o hG ho
    obtain⟨p,a,g⟩:=hG.app (by':=32) ([x].map MFile.enc) (by unfold bound;simp;omega) (by unfold bound;simp;omega)
    rw[← List.map_append] at g
    obtain⟨q,o',e1,e2,e3,e4⟩:=ih (i+1) n b' p.1 p.2 (o++[x]) hd' (by omega) g (by simp only[List.length_append,List.length_singleton];omega) k m
    refine⟨q,o',?_,e2,by simp only[List.length_append,List.length_singleton] at e3;omega,fun y hy=>?_⟩
    ·rw[show [[Cell.str (bs x.Path),Cell.str (bs x.Text)]]=[x].map MFile.enc from rfl,a]
     simp only[Option.bind_some]
     rw[qaj (by omega)]
     exact e1
    ·rcases e4 y hy with h | h | h
     ·rcases List.mem_append.1 h with h | h
      ·exact .inl h
      ·exact .inr (.inl (by rw[List.mem_singleton.1 h];exact List.mem_cons_self))
     ·exact .inr (.inl (List.mem_cons_of_mem _ h))
     ·exact .inr (.inr h)
   simp only[qjn,qag,qat,hx,MFile.enc,qdy,Nat.zero_add,EV0]
   rw[decide_eq_true (by omega),cond_true]
   cases hp:x.Path==f.Path with
   | true=>
    rw[cond_true]
    obtain⟨q,o',e1,e2,e3,e4⟩:=ih (i+1) n b c H o hd' (by omega) hG (by omega) k m
    refine⟨q,o',?_,e2,by omega,fun y hy=>?_⟩
    ·rw[qaj (by omega)]
     exact e1
    ·rcases e4 y hy with h | h | h
     ·exact .inl h
     ·exact .inr (.inl (List.mem_cons_of_mem _ h))
     ·exact .inr (.inr h)
   | false=>
    rw[cond_false]
    cases b with
    | true=>
     rw[Bool.not_true,cond_false]
     exact push true c H o hG (by omega)
    | false=>
     rw[Bool.not_false,cond_true]
     generalize (!(Op.bytesLess x.Path f.Path||false))=q
     cases q with
     | false=>
      rw[cond_false]
      exact push false c H o hG (by omega)
     | true=>
      rw[cond_true]
      obtain⟨p,a,g⟩:=hG.app (by':=32) ([f].map MFile.enc) (by unfold bound;simp;omega) (by unfold bound;simp;omega)
      rw[← List.map_append] at g
      simp only[Bool.false_eq_true,if_false] at ho
      obtain⟨q,o',e1,e2,e3,e4⟩:=push true p.1 p.2 (o++[f]) g (by simp only[List.length_append,List.length_singleton,if_true];omega)
      refine⟨q,o',?_,e2,by simp only[List.length_append,List.length_singleton,if_true,Bool.false_eq_true,if_false] at e3 ⊢;omega,fun y hy=>?_⟩
      ·rw[show [[Cell.str (bs f.Path),Cell.str (bs f.Text)]]=[f].map MFile.enc from rfl,a]
       simp only[Option.bind_some]
       exact e1
      ·rcases e4 y hy with h | h | h
       ·rcases List.mem_append.1 h with h | h
        ·exact .inl h
        ·exact .inr (.inr (by simpa using h))
       ·exact .inr (.inl h)
       ·exact .inr (.inr h)
 obtain⟨p,o,e1,e2,e3,e4⟩:=loop l 0 (l.length+1+1) false (.lst true 2 []) [] [] rfl (by omega) (Grow.nil 2) (by simp;omega) (l.length+1+1) (l.length+1+1)
 obtain⟨ids,r1,r2,_⟩:=e2.rep (tr:=MFile.tr) (fun _ _=>rfl) (fun x _ H'=>qhj H' x)
 have er:qhz [.one (encL 2 MFile.enc l),.agg [Cell.str (bs f.Path),Cell.str (bs f.Text)]] []=some ([.one p.1],p.2):=by
  refine qagb (l.length+1) ?_
  rw[show((0:Nat):Int)=0 from rfl] at e1
  simpa[fcr] using e1
 refine⟨o,Fresh.one er r1 r2,by simpa using e3,fun x hx=>?_,p.1,p.2,er,?_⟩
 ·rcases e4 x hx with h | h | h
  ·simp at h
  ·exact .inl h
  ·exact .inr h
 ·rcases e2 with⟨_,h,_⟩ | ⟨ep,h,_⟩
  ·rw[h];exact qbl _
  ·rw[h];exact qdc _ _ _ _ _
theorem qwbb (A:List Entry)(sz by':Nat)(rows:List (List Cell))(h1:rows.length*by'≤bound)(h2:rows.length≤bound):∃ d T,app A sz by' (.lst true sz []) rows=some (d,A++T)∧GrowAt A.length sz d T rows:=by
 cases rows with
 | nil=>exact⟨.lst true sz [],[],by simp[app],.inl ⟨rfl,rfl,rfl⟩⟩
 | cons y ys=>
  refine⟨.vs A.length sz 0 (y::ys).length 0,[Entry.mk sz (y::ys) 0 false],?_,.inr ⟨0,rfl,rfl⟩⟩
  simp only[app,List.isEmpty_cons,List.length_nil,Nat.zero_add,List.nil_append]
  rw[if_neg (by simp),if_pos ⟨trivial,.inr trivial,h1,h2⟩]
def qcn (N id:Nat)(H:List Entry)(c:Cell)(l:List MFile):Prop:=∃ ids,Rep H true true 2 ids c (trL 2 MFile.tr l)∧ids.Nodup∧id∉ids∧(∀ j∈ids,N≤j)∧qcq c
theorem qcn.nil (N id:Nat)(H:List Entry):qcn N id H (.lst true 2 []) []:=⟨[],.inl ⟨rfl,rfl,true,rfl⟩,by simp,by simp,by simp,qbl _⟩
theorem qcn.frame {N id:Nat}{code:Str}{H H':List Entry}{c:Cell}{l:List MFile}(h:qcn N id H c l)(d:Dr id code H H'):qcn N id H' c l:=by
 obtain⟨ids,h1,h2,h3,h4,h5⟩:=h
 exact⟨ids,h1.frame fun j hj=>d.old j (fun e=>h3 (e▸hj)) (h1.lt j hj),h2,h3,h4,h5⟩
theorem qcn.read {N id:Nat}{H:List Entry}{c:Cell}{l:List MFile}(h:qcn N id H c l):qak false H (.one c)=some (.one (encL 2 MFile.enc l)):=by
 obtain⟨ids,h,_⟩:=h
 have:=qek h (by omega)
 rwa [qbm] at this
theorem qcn.readA {N id:Nat}{H:List Entry}{c:Cell}{l:List MFile}(h:qcn N id H c l)(a b:Str):qak false H (.agg [Cell.str (bs a),c,Cell.str (bs b)])=some (.agg [Cell.str (bs a),encL 2 MFile.enc l,Cell.str (bs b)]):=by
 obtain⟨ids,r1,_⟩:=h
 have:=qdh (cs:=[Cell.str (bs a),c,Cell.str (bs b)]) (ts:=[.leaf (.string (bs a)),trL 2 MFile.tr l,.leaf (.string (bs b))]) (n:=2) (.cons (i:=[]) (is:=ids++[]) ⟨rfl,rfl⟩ (.cons (i:=ids) (is:=[]) r1 (.cons (i:=[]) (is:=[]) ⟨rfl,rfl⟩ .nil))) (by omega)
 rw[List.map_cons,List.map_cons,List.map_cons,List.map_nil,qbc,qbc,qbm] at this
 exact this
theorem qcn.push {N id:Nat}{code:Str}{H:List Entry}{c:Cell}{l:List MFile}(h:qcn N id H c l)(hN:N≤H.length)(hc:Cur H id code)(f:MFile)(hl:l.length≤1048576):∃ p:Cell×List Entry,app H 2 32 c [[Cell.str (bs f.Path),Cell.str (bs f.Text)]]=some p∧DrN N id code H p.2∧qcn N id p.2 p.1 (l++[f]):=by
 obtain⟨ids,h1,h2,h3,h4,h5⟩:=h
 obtain⟨d,H',ids',a,r,nl,nd,g,m,k,_⟩:=h1.append (by':=32) (ys:=[MFile.enc f]) (tys:=[MFile.tr f]) (js:=[]) h5 h2 (.cons (i:=[]) (is:=[]) (qhj H f) .nil) (by intro r hr;simp at hr;subst hr;rfl) (by simp) (by simp) (by simp[bound];omega) (by simp[bound];omega)
 obtain⟨i,x,hi,he⟩:=hc
 have hid:id < H.length:=(List.getElem?_eq_some_iff.1 he).1
 refine⟨(d,H'),a,⟨m,fun j hj hl=>k j (by omega) fun h=>by have:=h4 j h;omega,i,x,hi,by rw[k id hid h3];exact he⟩,ids',by rw[trL,List.map_append];exact r,nd,fun hj=>?_,fun j hj=>?_,nl⟩
 ·rcases g id hj with h | h | h
  ·exact h3 h
  ·simp at h
  ·omega
 ·rcases g j hj with h | h | h
  ·exact h4 j h
  ·simp at h
  ·omega
theorem qol {p:Run}{args vs r r':List AV}{c d:Cell}{E H H2:List Entry}(ha:mapO (qak false H) args=some vs)(h:p vs []=some (.one c::r,E))(hc:qcr p args H=some (.one d::r',H2))(hn:qcq c):qcq d:=by
 unfold qcr at hc
 rw[ha] at hc
 simp only[h] at hc
 split at hc
 ·simp only[List.map_cons,Option.some.injEq,Prod.mk.injEq,List.cons.injEq,AV.one.injEq] at hc
  obtain⟨⟨h1,_⟩,_⟩:=hc
  subst h1
  intro f s q e
  cases c with
  | lst f' s' q'=>
   simp only[qes,Cell.lst.injEq] at e
   have:=hn f' s' q' rfl
   rw[← e.1];exact this
  | _=>simp[qes] at e
 ·simp at hc
def qeb (n:Nat)(l:List MFile):Prop:=l.length≤n∧∀ f∈l,f.Path.length≤200∧f.Text.length≤200
theorem qeb.bd {n:Nat}{l:List MFile}(h:qeb n l)(hn:n≤1048576):bdL 1048576 (MFile.Bd 1048576) l:=⟨Nat.le_trans h.1 hn,fun f hf=>⟨Nat.le_trans (h.2 f hf).1 (by omega),Nat.le_trans (h.2 f hf).2 (by omega)⟩⟩
theorem f_fbv (n:Nat)(hn:n≤1000)(l:List MFile)(f:MFile)(hl:qeb n l)(hf:f.Path.length≤200∧f.Text.length≤200):
  ∃ (o:List MFile) (ok:Bool),Fresh qgv true 2 [.one (encL 2 MFile.enc l),.agg [Cell.str (bs f.Path),Cell.str (bs f.Text)]] [.one (trL 2 MFile.tr o),.one (.leaf (.bool ok))]∧qeb (n+1) o∧
   ∃ c E,qgv [.one (encL 2 MFile.enc l),.agg [Cell.str (bs f.Path),Cell.str (bs f.Text)]] []=some ([.one c,.one (.sc (.bool ok))],E)∧qcq c:=by
 obtain⟨o,fo,ho1,ho2,c0,E0,er0,nl0⟩:=f_fcr l f (by have:=hl.1;omega)
 have hos:qeb (n+1) o:=⟨by have:=hl.1;omega,fun x hx=>(ho2 x hx).elim (hl.2 x) fun e=>by rw[e];exact hf⟩
 obtain⟨c1,E1,i1,e1,r1,w1,_⟩:=qpe fo [] (qay [.one (encL 2 MFile.enc l),.agg [Cell.str (bs f.Path),Cell.str (bs f.Text)]] _ _)
 have hrd:qak false ([]++E1) (.one c1)=some (.one (encL 2 MFile.enc o)):=by
  have:=qek r1 (by omega)
  rwa [qbm] at this
 have e2:qba qgr [.one c1] ([]++E1)=some [.one (Cell.bool (qey o))]:=by
  rw[qgj (qca hrd (qaz _)),c_fbm o (hos.bd (by omega))]
 cases hk:qey o with
 | true=>
  have er:qgv [.one (encL 2 MFile.enc l),.agg [Cell.str (bs f.Path),Cell.str (bs f.Text)]] []=some ([.one c1,.one (.sc (.bool true))],[]++E1):=qoc 0 (by simp only[fbv,e1,e2,hk,EV0];rfl)
  exact⟨o,true,Fresh.one1 (n:=1) er r1 w1.nd,hos,c1,_,er,qol (qay [.one (encL 2 MFile.enc l),.agg [Cell.str (bs f.Path),Cell.str (bs f.Text)]] _ _) er0 e1 nl0⟩
 | false=>
  obtain⟨d,T,a,g⟩:=qwbb ([]++E1) 2 32 (l.map MFile.enc) (by have:=hl.1;unfold bound;simp;omega) (by have:=hl.1;unfold bound;simp;omega)
  obtain⟨ids,r2,r3,_⟩:=g.rep (tr:=MFile.tr) (fun _ _=>rfl) (fun x _ H'=>qhj H' x)
  have hs:qbw ([]++E1) 2 (encL 2 MFile.enc l)=some (l.map MFile.enc):=by simp[qbw,rowsOf,encL]
  have er:qgv [.one (encL 2 MFile.enc l),.agg [Cell.str (bs f.Path),Cell.str (bs f.Text)]] []=some ([.one d,.one (.sc (.bool false))],[]++E1++T):=qoc 0 (by simp only[fbv,e1,e2,hk,hs,a,EV0];rfl)
  refine⟨l,false,Fresh.one1 (n:=1) er r2 r3,⟨by have:=hl.1;omega,hl.2⟩,d,_,er,?_⟩
  rcases g with⟨_,rfl,_⟩ | ⟨ep,rfl,_⟩
  ·exact qbl _
  ·exact qdc _ _ _ _ _
def qhd (n:Nat)(m:MMade):Prop:=m.Task.length≤200∧qeb n m.Outs∧m.Log.length≤300
theorem qhd.bd {n:Nat}{m:MMade}(h:qhd n m)(hn:n≤1000):m.Bd 1048576:=⟨Nat.le_trans h.1 (by omega),h.2.1.bd (by omega),Nat.le_trans h.2.2 (by omega)⟩
theorem qfgb {id:Nat}{code:Str}{H:List Entry}(hc:Cur H id code)(hl:code.length≤1048576)(t:Str)(ht:t.length≤200):
  ∃ m c H',qnj [.one (.ptr id 3 0 0 0),.one (Cell.str (bs t))] H=some ([.agg [Cell.str (bs m.Task),c,Cell.str (bs m.Log)]],H')∧DrN H.length id code H H'∧qcn H.length id H' c m.Outs∧qhd 2 m:=by
 have hM:=qai
 have loop:∀ (d:Nat) (n:Nat) (G:List Entry) (c:Cell) (l:List MFile) (q:Nat) (lg:Str),d < n→H.length≤G.length→Cur G id code→qcn H.length id G c l→qeb q l→q+d≤2→∀ k m,
   ∃ (c':Cell) (G':List Entry) (l':List MFile),qre k m n (.ptr id 3 0 0 0) (d:Int) (bs t) c (bs lg) G=some ([.agg [Cell.str (bs t),c',Cell.str (bs lg)]],G')∧DrN H.length id code G G'∧qcn H.length id G' c' l'∧qeb 2 l':=by
  intro d
  induction d with
  | zero=>
   intro n G c l q lg hn hG hcur hF hs hq k m
   obtain⟨n,rfl⟩:∃ j,n=j+1:=⟨n - 1,by omega⟩
   refine⟨c,G,l,?_,(Dr.refl hcur).toN hG,hF,⟨Nat.le_trans hs.1 (by omega),hs.2⟩⟩
   simp only[qre]
   rw[decide_eq_false (by omega),cond_false]
  | succ d ih=>
   intro n G c l q lg hn hG hcur hF hs hq k m
   obtain⟨n,rfl⟩:∃ j,n=j+1:=⟨n - 1,by omega⟩
   obtain⟨s1,G1,e1,d1,m1⟩:=qnv hcur hl true [[111],[112],[113]] (by simp) (by simp)
   obtain⟨s2,G2,e2,d2,m2⟩:=qnv d1.cur hl true [[],[104,105],[104,101,108,108,111]] (by simp) (by simp)
   have hF2:=(hF.frame d1).frame d2
   have hs1:s1.length≤200:=by simp at m1;rcases m1 with rfl | rfl | rfl<;>simp
   have hs2:s2.length≤200:=by simp at m2;rcases m2 with rfl | rfl | rfl<;>simp
   obtain⟨o,ok,fo,so,c0,E0,er,nl⟩:=f_fbv q (by omega) l ⟨s1,s2⟩ hs ⟨hs1,hs2⟩
   have ha:mapO (qak false G2) [.one c,.agg [Cell.str (bs s1),Cell.str (bs s2)]]=some [.one (encL 2 MFile.enc l),.agg [Cell.str (bs s1),Cell.str (bs s2)]]:=qca hF2.read (qay [.agg [Cell.str (bs s1),Cell.str (bs s2)]] _ _)
   obtain⟨c3,E,is,e3,r3,w3,_⟩:=qwzb fo G2 ha
   have hl2:H.length≤G2.length:=Nat.le_trans hG (Nat.le_trans d1.len d2.len)
   have hid:id < G2.length:=by obtain⟨i,x,_,he⟩:=d2.cur;exact(List.getElem?_eq_some_iff.1 he).1
   have hF3:qcn H.length id (G2++E) c3 o:=⟨is,r3,w3.nd,fun h=>by have:=w3.lo id h;omega,fun j hj=>by have:=w3.lo j hj;omega,qol ha er e3 nl⟩
   have d3:=Dr.app d2.cur E
   obtain⟨c',G',l',e4,d4,f4,s4⟩:=ih n (G2++E) c3 o (q+1) lg (by omega) (by simp;omega) d3.cur hF3 so (by omega) k m
   refine⟨c',G',l',?_,(d1.toN hG).trans ((d2.toN (by have:=d1.len;omega)).trans ((d3.toN hl2).trans d4)),f4,s4⟩
   rw[← e4]
   simp only[qre]
   rw[decide_eq_true (by omega),cond_true]
   rw[show qcz [.one (.ptr id 3 0 0 0),.one (.lst true 1 [[Cell.str (bs [111])],[Cell.str (bs [112])],[Cell.str (bs [113])]])] G=some ([.one (Cell.str (bs s1))],G1) from e1]
   simp only[EV0]
   rw[show qcz [.one (.ptr id 3 0 0 0),.one (.lst true 1 [[Cell.str (bs [])],[Cell.str (bs [104,105])],[Cell.str (bs [104,101,108,108,111])]])] G1=some ([.one (Cell.str (bs s2))],G2) from e2]
   simp only[e3,EV0]
   rw[qho (by omega)]
 obtain⟨s1,G1,e1,d1,m1⟩:=qnv hc hl true [[],[100,111,110,101,10],[120,32,121,10]] (by simp) (by simp)
 obtain⟨v,G2,e2,d2,hv⟩:=qcb d1.cur hl 3 (by omega) (by omega)
 have hl1:s1.length≤300:=by simp at m1;rcases m1 with rfl | rfl | rfl<;>simp
 obtain⟨c',G',l',e4,d4,f4,s4⟩:=loop v 1000 G2 (.lst true 2 []) [] 0 s1 (by omega) (Nat.le_trans d1.len d2.len) d2.cur (.nil _ _ _) ⟨by simp,by simp⟩ (by omega) 1000 1000
 refine⟨⟨t,l',s1⟩,c',G',qcvb 999 ?_,(d1.toN (Nat.le_refl _)).trans ((d2.toN d1.len).trans d4),f4,ht,s4,hl1⟩
 simp only[fca]
 rw[show qcz [.one (.ptr id 3 0 0 0),.one (.lst true 1 [[Cell.str (bs [])],[Cell.str (bs [100,111,110,101,10])],[Cell.str (bs [120,32,121,10])]])] H=some ([.one (Cell.str (bs s1))],G1) from e1]
 simp only[EV0]
 rw[show qbo [.one (.ptr id 3 0 0 0),.one (Cell.int 3)] G1=some ([.one (Cell.int (v:Int))],G2) from e2]
 simp only[EV0]
 exact e4
theorem qeb.app {n:Nat}{l:List MFile}(h:qeb n l){f:MFile}(hf:f.Path.length≤200∧f.Text.length≤200):qeb (n+1) (l++[f]):=⟨by have:=h.1;simp;omega,fun x hx=>by
 rcases List.mem_append.1 hx with h' | h'
 ·exact h.2 x h'
 ·simp only[List.mem_singleton] at h'
  rw[h'];exact hf⟩
theorem qeb.wide {n m:Nat}{l:List MFile}(h:qeb n l)(hm:n≤m):qeb m l:=⟨by have:=h.1;omega,h.2⟩
theorem qbgb (H:List Entry)(n:Nat):bytesOf (H++[Entry.mk 1 (qbh n [.sc (.int .u8 0)]) 0 false]) (.vs H.length 1 0 n 0)=some (bs (List.replicate n 0)):=by
 have h1:rowsOf (H++[Entry.mk 1 (qbh n [.sc (.int .u8 0)]) 0 false]) 1 (.vs H.length 1 0 n 0)=some ((List.replicate n (0:UInt8)).map qbf):=by
  simp[rowsOf,entry?,qbh,qbf]
 have h2:=qbx [] (List.replicate n 0)
 unfold bytesOf at h2 ⊢
 rw[h1]
 have h3:rowsOf [] 1 (qaw (List.replicate n 0))=some ((List.replicate n (0:UInt8)).map qbf):=by simp[rowsOf,encL]
 rw[h3] at h2
 exact h2
theorem qji {id:Nat}{code:Str}{H:List Entry}(hc:Cur H id code)(hl:code.length≤1048576):
    ∃ m c H', qdo [.one (.ptr id 3 0 0 0)] H = some ([.agg [Cell.str (bs m.Task), c, Cell.str (bs m.Log)]], H') ∧ DrN H.length id code H H' ∧ qcn H.length id H' c m.Outs ∧ qhd 10 m := by
  have hM := qai
  obtain ⟨s1, G1, e1, d1, m1⟩ := qnv hc hl true [[97, 35, 98, 117, 105, 108, 100], [98, 35, 116, 101, 115, 116], [120], []] (by simp) (by simp)
  have hs1 : s1.length ≤ 200 := (by decide : ∀ s ∈ ([[97, 35, 98, 117, 105, 108, 100], [98, 35, 116, 101, 115, 116], [120], []] : List Str), s.length ≤ 200) s1 m1
  simp only [List.map_cons, List.map_nil, eStr] at e1
  obtain ⟨m, c, G2, e2, d2, f2, q2⟩ := qfgb d1.cur hl s1 hs1
  obtain ⟨w, G3, e3, d3, hw⟩ := qcb d2.cur hl 8 (by omega) (by omega)
  have l1 := d1.len
  have l2 := d2.len
  have l3 := d3.len
  have f3 : qcn H.length id G3 c m.Outs := by
    obtain ⟨ids, a1, a2, a3, a4, a5⟩ := f2.frame d3
    exact ⟨ids, a1, a2, a3, fun j hj => by have := a4 j hj; omega, a5⟩
  have d03 : DrN H.length id code H G3 := ((d1.toN (Nat.le_refl _)).trans ⟨d2.len, fun j hj hjl => d2.old j hj (by omega), d2.cur⟩).trans (d3.toN (by omega))
  simp only [show ((8 : Nat) : Int) = 8 from rfl] at e3
  have hsplit : w = 0 ∨ w = 1 ∨ w = 2 ∨ 3 ≤ w := by omega
  rcases hsplit with rfl | rfl | rfl | hw3
  · obtain ⟨s, G4, e4, d4, m4⟩ := qnv d3.cur hl true [[97, 47, 98], [], [97], [122, 122]] (by simp) (by simp)
    have hs : s.length ≤ 200 := (by decide : ∀ s ∈ ([[97, 47, 98], [], [97], [122, 122]] : List Str), s.length ≤ 200) s m4
    simp only [List.map_cons, List.map_nil, eStr] at e4
    obtain ⟨p, e5, d5, f5⟩ := (f3.frame d4).push (by have := d4.len; omega) d4.cur ⟨s, []⟩ (by have := q2.2.1.1; omega)
    refine ⟨⟨m.Task, m.Outs ++ [⟨s, []⟩], m.Log⟩, p.1, p.2, qfv 0 ?_, (d03.trans (d4.toN (by omega))).trans d5, f5, q2.1, (q2.2.1.app ⟨hs, by simp⟩).wide (by omega), q2.2.2⟩
    simp only [fcd, e1, e2, e3, EV0]
    rw [show (((0 : Nat) : Int) == 0) = true from rfl, cond_true]
    simp only [e4, e5, EV0]
  · obtain ⟨v, G4, e4, d4, hv⟩ := qcb d3.cur hl 2 (by omega) (by omega)
    have hwr : IntKind.i64.wrap (200 + (v : Int)) = ((200 + v : Nat) : Int) := by rw [wrap_small (by omega) (by omega)]; omega
    have dE := Dr.app d4.cur [Entry.mk 1 (qbh (200 + v) [.sc (.int .u8 0)]) 0 false]
    refine ⟨⟨m.Task, m.Outs, List.replicate (200 + v) 0⟩, c, G4 ++ [Entry.mk 1 (qbh (200 + v) [.sc (.int .u8 0)]) 0 false], qfv 0 ?_, d03.trans ((d4.trans dE).toN (by omega)), (f3.frame d4).frame dE, q2.1, q2.2.1.wide (by omega), by simp; omega⟩
    simp only [show ((2 : Nat) : Int) = 2 from rfl] at e4
    simp only [fcd, e1, e2, e3, EV0]
    rw [show (((1 : Nat) : Int) == 0) = false from rfl, cond_false, show (((1 : Nat) : Int) == 1) = true from rfl, cond_true]
    simp only [e4, hwr, EV0]
    rw [if_pos ⟨by omega, Int.le_refl _, by unfold bound; omega, by unfold bound; omega⟩, Int.toNat_natCast, qbgb]
    rfl
  · have loop : ∀ (d i n : Nat) (l : List MFile) (c : Cell) (G : List Entry), i + d = 6 → d < n → H.length ≤ G.length → DrN H.length id code H G → qcn H.length id G c l → qeb (2 + i) l → ∀ k q,
        ∃ (c' : Cell) (G' : List Entry) (l' : List MFile), qsh k q n (i : Int) (bs m.Task) c (bs m.Log) G = some ([.agg [Cell.str (bs m.Task), c', Cell.str (bs m.Log)]], G') ∧ DrN H.length id code H G' ∧ qcn H.length id G' c' l' ∧ qeb 8 l' := by
      intro d
      induction d with
      | zero =>
        intro i n l c G hi hn hG hd hF hs k q
        obtain ⟨n, rfl⟩ : ∃ j, n = j + 1 := ⟨n - 1, by omega⟩
        refine ⟨c, G, l, ?_, hd, hF, hs.wide (by omega)⟩
        simp only [qsh]
        rw [decide_eq_false (by omega), cond_false]
      | succ d ih =>
        intro i n l c G hi hn hG hd hF hs k q
        obtain ⟨n, rfl⟩ : ∃ j, n = j + 1 := ⟨n - 1, by omega⟩
        have hnl : (numT i).length ≤ 21 := qnt i (by omega)
        have en := c_fbr i (by omega)
        have ec : catS (bs [122]) (bs (numT i)) = some (bs ([122] ++ numT i)) := qmqb (by simp; omega)
        obtain ⟨p, e5, d5, f5⟩ := hF.push hG hd.cur ⟨[122] ++ numT i, []⟩ (by have := hs.1; omega)
        obtain ⟨c', G', l', e6, r⟩ := ih (i + 1) n (l ++ [⟨[122] ++ numT i, []⟩]) p.1 p.2 (by omega) (by omega) (Nat.le_trans hG d5.len) (hd.trans d5) f5 (hs.app ⟨by simp; omega, by simp⟩) k q
        refine ⟨c', G', l', ?_, r⟩
        simp only [qsh]
        rw [decide_eq_true (by omega), cond_true]
        simp only [en, ec, e5, qaj (show i < maxLen by omega), EV0]
        exact e6
    obtain ⟨c', G', l', e4, d4, f4, q4⟩ := loop 6 0 1000 m.Outs c G3 (by omega) (by omega) d03.len d03 f3 (q2.2.1.wide (by omega)) 1000 1000
    refine ⟨⟨m.Task, l', m.Log⟩, c', G', qfv 999 ?_, d4, f4, q2.1, q4.wide (by omega), q2.2.2⟩
    rw [show ((0 : Nat) : Int) = 0 from rfl] at e4
    simp only [fcd, e1, e2, e3, EV0]
    rw [show (((2 : Nat) : Int) == 0) = false from rfl, cond_false, show (((2 : Nat) : Int) == 1) = false from rfl, cond_false, show (((2 : Nat) : Int) == 2) = true from rfl, cond_true]
    exact e4
  · refine ⟨m, c, G3, qfv 0 ?_, d03, f3, q2.1, q2.2.1.wide (by omega), q2.2.2⟩
    simp only [fcd, e1, e2, e3, EV0]
    rw [show ((w : Int) == 0) = false by simp; omega, cond_false, show ((w : Int) == 1) = false by simp; omega, cond_false, show ((w : Int) == 2) = false by simp; omega, cond_false]
theorem c_fbk (code:Str)(hl:code.length≤1048576):∃ m:MMade,qhd 10 m∧outL qpj [.one (qaw code)]=some [.agg [Cell.str (bs m.Task),encL 2 MFile.enc m.Outs,Cell.str (bs m.Log)]]:=by
 obtain⟨h,e1⟩:=qvc code hl []
 have hc:Cur ([]++[curE code 0 h]) 0 code:=Cur.new code h []
 obtain⟨m,c,H',e2,d2,f2,q2⟩:=qji hc hl
 refine⟨m,q2,qcx (xs:=[.agg [Cell.str (bs m.Task),c,Cell.str (bs m.Log)]]) (H:=H') (qdbb 0 ?_) (qca (f2.readA m.Task m.Log) (qaz _))⟩
 simp only[List.length_nil,List.nil_append] at e1 e2
 simp only[fbk,e1,e2,EV0]
theorem c_fbj (code:Str)(hl:code.length≤1048576):∃ m:MMade,qhd 10 m∧outL qng [.one (qaw code)]=some [.agg [Cell.str (bs m.Task),encL 2 MFile.enc m.Outs,Cell.str (bs m.Log)]]:=by
 obtain⟨h,e1⟩:=qvc code hl []
 have hc:Cur ([]++[curE code 0 h]) 0 code:=Cur.new code h []
 obtain⟨m,c,H',e2,d2,f2,q2⟩:=qji hc hl
 refine⟨m,q2,qcx (xs:=[.agg [Cell.str (bs m.Task),c,Cell.str (bs m.Log)]]) (H:=H') (qbab 0 ?_) (qca (f2.readA m.Task m.Log) (qaz _))⟩
 simp only[List.length_nil,List.nil_append] at e1 e2
 simp only[fbj,e1,e2,EV0]
theorem f_fbz (m:MMade)(h:m.Outs.length≤1000):Fresh qpk true 2 [.agg [Cell.str (bs m.Task),encL 2 MFile.enc m.Outs,Cell.str (bs m.Log)]] [.agg m.tr]:=by
 obtain⟨q,i1,a1,v1,f1,l1,m1⟩:=(VecN.nil ([]:List Entry) 2).app (by':=32) (m.Outs.map MFile.enc) (by simp;omega) (by omega)
 rw[List.nil_append] at v1
 obtain⟨ids,r1,r2,_⟩:=v1.ownF (lo:=0) (hi:=q.2.length) (tr:=MFile.tr) (by simp) (Nat.le_refl _) (Nat.zero_le _) (fun _=>rfl) (fun x=>qhj _ x)
 have s1:qbw [] 2 (encL 2 MFile.enc m.Outs)=some (m.Outs.map MFile.enc):=by simp[qbw,rowsOf,encL]
 refine Fresh.agg (ids:=[]++(ids++([]++[]))) (qbpb 0 (r:=([.agg [Cell.str (bs m.Task),q.1,Cell.str (bs m.Log)]],q.2)) ?_) ?_ (by simpa using r2.nd)
 ·simp only[fbz,s1,a1,EV0]
 ·unfold MMade.tr
  exact .cons ⟨rfl,rfl⟩ (.cons r1 (.cons ⟨rfl,rfl⟩ .nil))
theorem c_fbl (code:Str)(hl:code.length≤1048576):∃ a b:MMade,qhd 10 a∧qhd 10 b∧outL qni [.one (qaw code)]=some [.agg [Cell.str (bs a.Task),encL 2 MFile.enc a.Outs,Cell.str (bs a.Log)],.agg [Cell.str (bs b.Task),encL 2 MFile.enc b.Outs,Cell.str (bs b.Log)]]:=by
 obtain⟨h,e1⟩:=qvc code hl []
 have hc:Cur ([]++[curE code 0 h]) 0 code:=Cur.new code h []
 obtain⟨m,c,G,e2,d2,f2,q2⟩:=qji hc hl
 obtain⟨b,G2,e3,d3⟩:=qsib d2.cur hl 2 (by omega) (by omega)
 have f3:=f2.frame d3
 simp only[List.length_nil,List.nil_append,show((2:Nat):Int)=2 from rfl] at e1 e2 e3
 have hlo:1≤G.length:=by have:=d2.len;simp at this;omega
 cases b with
 | true=>
  obtain⟨cs,E,ids,e4,r4,w4,_⟩:=freshA (f_fbz m (by have:=q2.2.1.1;omega)) G2 (qca (f3.readA m.Task m.Log) (qaz _))
  have hr:=qdh r4 (by omega)
  obtain⟨c',rfl⟩:∃ c',cs=[Cell.str (bs m.Task),c',Cell.str (bs m.Log)]:=by
   unfold MMade.tr at r4
   obtain⟨i0,j1,x0,y1,_,rfl,k0,r5⟩:=r4.cons_inv
   obtain⟨i1,j2,x1,y2,_,rfl,k1,r6⟩:=r5.cons_inv
   obtain⟨i2,j3,x2,y3,_,rfl,k2,r7⟩:=r6.cons_inv
   obtain⟨_,rfl⟩:=r7.nil_inv
   obtain⟨_,rfl⟩:=k0
   obtain⟨_,rfl⟩:=k2
   exact⟨x1,rfl⟩
  unfold MMade.tr at hr
  rw[List.map_cons,List.map_cons,List.map_cons,List.map_nil,qbc,qbc,qbm] at hr
  have f5:qcn 1 0 (G2++E) c m.Outs:=by
   obtain⟨ids,a1,a2,a3,a4,a5⟩:=f3
   exact⟨ids,a1.app E,a2,a3,fun j hj=>by have:=a4 j hj;simp at this;omega,a5⟩
  refine⟨m,m,q2,q2,qcx (xs:=[.agg [Cell.str (bs m.Task),c,Cell.str (bs m.Log)],.agg [Cell.str (bs m.Task),c',Cell.str (bs m.Log)]]) (H:=G2++E) (qoo 0 ?_) (qca (f5.readA m.Task m.Log) (qca hr (qaz _)))⟩
  simp only[fbl,e1,e2,e3,e4,EV0]
 | false=>
  obtain⟨m',c',G3,e4,d4,f4,q4⟩:=qji d3.cur hl
  have f5:qcn 1 0 G3 c m.Outs:=by
   obtain⟨ids,a1,a2,a3,a4,a5⟩:=f3
   exact⟨ids,a1.frame fun j hj=>d4.old j (fun e=>by subst e;exact a3 hj) (a1.lt j hj),a2,a3,fun j hj=>by have:=a4 j hj;simp at this;omega,a5⟩
  refine⟨m,m',q2,q4,qcx (xs:=[.agg [Cell.str (bs m.Task),c,Cell.str (bs m.Log)],.agg [Cell.str (bs m'.Task),c',Cell.str (bs m'.Log)]]) (H:=G3) (qoo 0 ?_) (qca (f5.readA m.Task m.Log) (qca (f4.readA m'.Task m'.Log) (qaz _)))⟩
  simp only[fbl,e1,e2,e3,e4,EV0]
theorem qkb {s:Str}(h:s.length≤60000):(encT s).length=2+s.length:=by
 unfold encT b16
 rw[if_neg (by omega)]
 simp
 omega
theorem qyx {n:Nat}:∀ {l:List MFile},qeb n l→(qkg l).length≤404*l.length:=by
 intro l
 induction l with
 | nil=>intro _;simp[qkg]
 | cons f l ih=>
  intro h
  have h1:=ih ⟨by have:=h.1;simp at this;omega,fun g hg=>h.2 g (List.mem_cons_of_mem _ hg)⟩
  have h2:=h.2 f List.mem_cons_self
  have a:=qkb (s:=f.Path) (by omega)
  have b:=qkb (s:=f.Text) (by omega)
  simp only[qkg,List.flatMap_cons,List.length_append,List.length_cons] at h1 ⊢
  omega
theorem qed {m:MMade}(h:qhd 10 m):8≤(qah m).length∧(qah m).length≤10000:=by
 obtain⟨h1,h2,h3⟩:=h
 have a:=qkb (s:=m.Task) (by omega)
 have b:=qkb (s:=m.Log) (by omega)
 have n21:=qnt m.Outs.length (by have:=h2.1;omega)
 have c:=qkb (s:=numT m.Outs.length) (by omega)
 have d:=qyx h2
 have e:=h2.1
 have f:(qah m).length=(encT m.Task).length+(encT m.Log).length+((encT (numT m.Outs.length)).length+(qkg m.Outs).length)+2:=by
  simp[qah,qcm,qbt,b16]
  omega
 omega
theorem spB (H:List Entry)(w q:Bool):∀ l:Str,Sp (Sp (Rep H w q 1)) [] (l.map qbf) (l.map qdq)
 | []=>.nil
 | _::l=>.cons (i:=[]) (is:=[]) (Sp.leaf1 _) (spB H w q l)
theorem qgk {H:List Entry}{id ep n:Nat}{b:Str}(he:H[id]?=some ⟨1,b.map qbf,ep,false⟩)(hn:n≤b.length):qak false H (.one (.vs id 1 0 n ep))=some (.one (qaw (b.take n))):=by
 have r:Rep H false true 2 [id] (.vs id 1 0 n ep) (trL 1 qdq (b.take n)):=by
  refine .inr ⟨id,0,ep,b.map qbf,false,[],by simp[Nat.min_eq_left hn],rfl,he,fun _=>rfl,fun h=>by simp at h,by simp;omega,fun r hr=>?_,?_⟩
  ·obtain⟨x,_,rfl⟩:=List.mem_map.1 hr
   rfl
  ·simp only[List.drop_zero,List.length_map,List.length_take,Nat.min_eq_left hn]
   rw[← List.map_take]
   exact spB H false true _
 have:=qek r (by omega)
 rwa [qbm] at this
theorem qlsb {id len ep n:Nat}(h:n≤len):slcC 1 (.vs id 1 0 len ep) 0 (some (n:Int)) none=some (.vs id 1 0 n ep):=by
 simp only[slcC,Option.getD_some,Option.getD_none,if_true]
 rw[if_pos ⟨by omega,by omega,by omega,Int.le_refl _⟩,if_pos (.inl trivial)]
 simp
theorem xor_u8 (a b:Int):∃ x:UInt8,xorI .u8 a b=(x.toNat:Int):=⟨_,by unfold xorI;rw[wrap_u8]⟩
theorem qrp {H:List Entry}{id ep k:Nat}{b:Str}(he:H[id]?=some ⟨1,b.map qbf,ep,false⟩)(hk:k < b.length)(x:UInt8):
  qby H (.ptr id 1 k 0 ep) [.sc (.int .u8 (x.toNat:Int))]=some (H.set id ⟨1,(b.set k x).map qbf,ep,false⟩)∧(H.set id ⟨1,(b.set k x).map qbf,ep,false⟩)[id]?=some ⟨1,(b.set k x).map qbf,ep,false⟩:=by
 have hid:=(List.getElem?_eq_some_iff.1 he).1
 refine⟨?_,List.getElem?_set_self hid⟩
 have hent:entry? H id ep=some ⟨1,b.map qbf,ep,false⟩:=by simp[entry?,he]
 have hrow:(b.map qbf)[k]?=some (qbf b[k]):=by rw[List.getElem?_map,List.getElem?_eq_getElem hk];rfl
 simp only[qby,hent,hrow]
 rw[if_pos ⟨trivial,by simp,trivial⟩]
 simp[splice,qbf,List.map_set]
theorem qrv {H:List Entry}{id ep k:Nat}{b:Str}(he:H[id]?=some ⟨1,b.map qbf,ep,false⟩)(hk:k < b.length):deref H (.ptr id 1 k 0 ep)=some ([.sc (.int .u8 ((b[k]).toNat:Int))],0):=by
 have hrow:(b.map qbf)[k]?=some (qbf b[k]):=by rw[List.getElem?_map,List.getElem?_eq_getElem hk];rfl
 simp[deref,entry?,he,hrow,qbf]
theorem cI_u8 (n:Int):cI .u8 [Cell.sc (.int .u8 n)] 0=some n:=rfl
theorem eqC_u8 (a:Cell):eqC a a=true:=by unfold eqC;simp
theorem c_fbi (code:Str)(hl:code.length≤1048576):∃ c:Str,c.length≤1048576∧outL qob [.one (qaw code)]=some [.one (qaw c)]:=by
 have hM:=qai
 obtain⟨h,e1⟩:=qvc code hl []
 have hc:Cur ([]++[curE code 0 h]) 0 code:=Cur.new code h []
 obtain⟨m,c,G,e2,d2,f2,q2⟩:=qji hc hl
 obtain⟨hp8,hpl⟩:=qed q2
 obtain⟨c9,E,ids,e3,r3,w3,_⟩:=qpe (f_fbw m (q2.bd (by omega))) G (qca (f2.readA m.Task m.Log) (qaz _))
 obtain⟨b,hb⟩:∃ b,b=qah m:=⟨_,rfl⟩
 rw[← hb] at r3 hp8 hpl
 have hG1:1≤G.length:=by have:=d2.len;simp at this;omega
 rcases qhm r3 with⟨h0,_⟩ | ⟨i9,ep,rfl,rfl,he⟩
 ·rw[h0] at hp8;simp at hp8
 have hi9:G.length≤i9:=w3.lo i9 (by simp)
 have hi9l:=(List.getElem?_eq_some_iff.1 he).1
 have dE:=Dr.app d2.cur E
 obtain⟨w,G1,e4,d4,hw⟩:=qcb dE.cur hl 5 (by omega) (by omega)
 have he4:G1[i9]?=some ⟨1,b.map qbf,ep,false⟩:=by rw[d4.old i9 (by omega) hi9l];exact he
 have hi9l4:=(List.getElem?_eq_some_iff.1 he4).1
 have hlen:lenC (.vs i9 1 0 b.length ep)=some b.length:=rfl
 simp only[List.length_nil,List.nil_append,show((5:Nat):Int)=5 from rfl] at e1 e2 e3 e4
 have hsplit:w=0∨w=1∨w=2∨3≤w:=by omega
 rcases hsplit with rfl | rfl | rfl | hw3
 ·obtain⟨k,G2,e5,d5,hk⟩:=qcb d4.cur hl b.length (by omega) (by omega)
  obtain⟨v,G3,e6,d6,hv⟩:=qcb d5.cur hl 255 (by omega) (by omega)
  have he5:G2[i9]?=some ⟨1,b.map qbf,ep,false⟩:=by rw[d5.old i9 (by omega) hi9l4];exact he4
  have he6:G3[i9]?=some ⟨1,b.map qbf,ep,false⟩:=by rw[d6.old i9 (by omega) (List.getElem?_eq_some_iff.1 he5).1];exact he5
  obtain⟨x,hx⟩:=xor_u8 ((b[k]).toNat:Int) (IntKind.u8.wrap (IntKind.i64.wrap (1+(v:Int))))
  obtain⟨s1,s2⟩:=qrp he6 hk x
  have hr:=qgk (n:=(b.set k x).length) s2 (Nat.le_refl _)
  rw[List.take_length,List.length_set] at hr
  have hix:=qgx i9 1 b.length ep k hk
  refine⟨b.set k x,by simp;omega,qcx (xs:=[.one (.vs i9 1 0 b.length ep)]) (H:=G3.set i9 ⟨1,(b.set k x).map qbf,ep,false⟩) (qfz 0 ?_) (qca hr (qaz _))⟩
  simp only[show((255:Nat):Int)=255 from rfl] at e6
  simp only[fbi,e1,e2,e3,e4,EV0]
  rw[show(((0:Nat):Int)==0)=true from rfl,cond_true]
  simp only[hlen,e5,hix,qrv he5 hk,qrv he6 hk,cI_u8,e6,hx,s1,eqC_u8,EV0]
 ·obtain⟨k,G2,e5,d5,hk⟩:=qcb d4.cur hl b.length (by omega) (by omega)
  have he5:G2[i9]?=some ⟨1,b.map qbf,ep,false⟩:=by rw[d5.old i9 (by omega) hi9l4];exact he4
  have hr:=qgk (n:=k) he5 (by omega)
  refine⟨b.take k,by simp;omega,qcx (xs:=[.one (.vs i9 1 0 k ep)]) (H:=G2) (qfz 0 ?_) (qca hr (qaz _))⟩
  simp only[fbi,e1,e2,e3,e4,EV0]
  rw[show(((1:Nat):Int)==0)=false from rfl,cond_false,show(((1:Nat):Int)==1)=true from rfl,cond_true]
  simp only[hlen,e5,qlsb (show k≤b.length by omega),EV0]
 ·have hw2:IntKind.i64.wrap ((b.length:Int) - 2)=((b.length - 2:Nat):Int):=by rw[wrap_small (by omega) (by omega)];omega
  obtain⟨k,G2,e5,d5,hk⟩:=qcb d4.cur hl (b.length - 2) (by omega) (by omega)
  obtain⟨v,G3,e6,d6,hv⟩:=qzmb d5.cur hl true [0,1,48,255] (by simp) (by simp)
  have he5:G2[i9]?=some ⟨1,b.map qbf,ep,false⟩:=by rw[d5.old i9 (by omega) hi9l4];exact he4
  have he6:G3[i9]?=some ⟨1,b.map qbf,ep,false⟩:=by rw[d6.old i9 (by omega) (List.getElem?_eq_some_iff.1 he5).1];exact he5
  obtain⟨x,hx⟩:∃ x:UInt8,IntKind.u8.wrap v=(x.toNat:Int):=by
   simp only[List.mem_cons,List.not_mem_nil,or_false] at hv
   rcases hv with rfl | rfl | rfl | rfl
   ·exact⟨_,wrap_u8 0⟩
   ·exact⟨_,wrap_u8 1⟩
   ·exact⟨_,wrap_u8 48⟩
   ·exact⟨_,wrap_u8 255⟩
  obtain⟨s1,s2⟩:=qrp he6 (show k < b.length by omega) x
  obtain⟨F,hF⟩:∃ F,F=G3.set i9 ⟨1,(b.set k x).map qbf,ep,false⟩:=⟨_,rfl⟩
  rw[← hF] at s1 s2
  obtain⟨b2,hb2⟩:∃ b2,b2=(b.set k x).take (b.length - 2):=⟨_,rfl⟩
  have hb2l:b2.length=b.length - 2:=by rw[hb2];simp
  have hr:=qgk (n:=b.length - 2) s2 (by simp)
  rw[← hb2] at hr
  have es:qba qdx [.one (.vs i9 1 0 (b.length - 2) ep)] F=some [.one (Cell.int ((sumB b2 % 65536:Nat):Int))]:=by
   rw[qgj (qca hr (qaz _)),c_fce _ (by omega)]
  have hsr:qbw F 1 (.vs i9 1 0 (b.length - 2) ep)=some (b2.map qbf):=by
   have hent:entry? F i9 ep=some ⟨1,(b.set k x).map qbf,ep,false⟩:=by simp[entry?,s2]
   simp only[qbw,rowsOf,if_true,hent]
   rw[if_pos (by simp),List.drop_zero,← List.map_take,hb2]
  obtain⟨p1,j1,a1,v1,_,_,_⟩:=(VecN.nil F 1).app (by':=1) (b2.map qbf) (by simp;omega) (by omega)
  rw[List.nil_append] at v1
  obtain⟨p2,j2,a2,v2,_,_,_⟩:=v1.app (by':=1) ((b16 (sumB b2 % 65536)).map qbf) (by simp[b16];omega) (by omega)
  rw[← List.map_append] at v2
  obtain⟨ids2,r2,_⟩:=v2.ownF (lo:=0) (hi:=p2.2.length) (tr:=qdq) (by simp) (Nat.le_refl _) (Nat.zero_le _) (fun _=>rfl) (fun x=>Sp.leaf1 _)
  have hfin:=qek r2 (by omega)
  rw[qbm] at hfin
  have hix:=qgx i9 1 (b.length - 2) ep k hk
  have hlen2:lenC (.vs i9 1 0 (b.length - 2) ep)=some (b.length - 2):=rfl
  refine⟨b2++b16 (sumB b2 % 65536),by simp[b16];omega,qcx (xs:=[.one p2.1]) (H:=p2.2) (qfz 0 ?_) (qca hfin (qaz _))⟩
  simp only[List.map_cons,List.map_nil,eI] at e6
  simp only[fbi,e1,e2,e3,e4,EV0]
  rw[show(((2:Nat):Int)==0)=false from rfl,cond_false,show(((2:Nat):Int)==1)=false from rfl,cond_false,show(((2:Nat):Int)==2)=true from rfl,cond_true]
  simp only[hlen,hw2,qlsb (show b.length - 2≤b.length by omega),hlen2,e5,e6,hix,hx,s1,es,hsr,a1,qiv,a2,EV0]
 ·have hr:=qgk (n:=b.length) he4 (Nat.le_refl _)
  rw[List.take_length] at hr
  refine⟨b,by omega,qcx (xs:=[.one (.vs i9 1 0 b.length ep)]) (H:=G1) (qfz 0 ?_) (qca hr (qaz _))⟩
  simp only[fbi,e1,e2,e3,e4,EV0]
  rw[show((w:Int)==0)=false by simp;omega,cond_false,show((w:Int)==1)=false by simp;omega,cond_false,show((w:Int)==2)=false by simp;omega,cond_false]
theorem qxq {m:MMade}(h:wfM m):qbk (qah m)=some m:=by
 unfold qbk
 rw[qen,qml m _ h]
 simp[qen]
theorem qpv {b:Str}{m:MMade}(h:qbk b=some m):qah m=b:=by
 unfold qbk at h
 split at h
 ·split at h
  ·rename_i hp
   simp only[Option.some.injEq] at h
   rw[← h];exact hp
  ·simp at h
 ·simp at h
theorem qqtb:∀ (b:Str) (k:Nat) (v:UInt8) (hk:k < b.length),sumB (b.set k v)+(b[k]).toNat=sumB b+v.toNat:=by
 intro b
 induction b with
 | nil=>intro k v hk;simp at hk
 | cons x b ih=>
  intro k v hk
  cases k with
  | zero=>simp[sumB];omega
  | succ k=>
   have:=ih k v (by simpa using hk)
   simp only[sumB,List.set_cons_succ,List.map_cons,List.sum_cons,List.getElem_cons_succ] at this ⊢
   omega
theorem qxwb {n m:Nat}(h:b16 n=b16 m):n % 65536=m % 65536:=by
 rw[← qso,← qso m] at h
 have h1:=congrArg (fun l:Str=>match l with | [p,q]=>p.toNat*256+q.toNat | _=>0) h
 simp only[b16] at h1
 rw[qpz _ (Nat.mod_lt _ (by omega)),qpz _ (Nat.mod_lt _ (by omega))] at h1
 exact h1
theorem turned {b:Str}{k:Nat}{v:UInt8}{m:MMade}(hb:qah m=b)(hk:k < b.length)(hv:v≠b[k]):qbk (b.set k v)=none:=by
 cases hg:qbk (b.set k v) with
 | none=>rfl
 | some m'=>
  exfalso
  have h1:=qpv hg
  rw[qen] at hb h1
  have hl:(qcm m').length=(qcm m).length:=by
   have:=congrArg List.length h1
   rw[List.length_set,← hb] at this
   simp[b16] at this
   exact this
  subst hb
  by_cases hkn:k < (qcm m).length
  ·rw[List.set_append_left _ _ hkn] at h1
   obtain⟨h2,h3⟩:=List.append_inj h1 (by rw[List.length_set];exact hl)
   have h4:=qxwb h3
   rw[h2] at h4
   have h5:=qqtb (qcm m) k v hkn
   have e:(qcm m++b16 (sumB (qcm m)))[k]=(qcm m)[k]:=List.getElem_append_left hkn
   rw[e] at hv
   have a:=v.toNat_lt
   have c:=((qcm m)[k]).toNat_lt
   have:v.toNat≠((qcm m)[k]).toNat:=fun h=>hv (UInt8.toNat_inj.1 h)
   omega
  ·rw[List.set_append_right _ _ (by omega)] at h1
   obtain⟨h2,h3⟩:=List.append_inj h1 hl
   rw[h2] at h3
   have e:(qcm m++b16 (sumB (qcm m)))[k]=(b16 (sumB (qcm m)))[k - (qcm m).length]'(by simp at hk;omega):=List.getElem_append_right (by omega)
   rw[e] at hv
   apply hv
   have:=congrArg (fun l:Str=>l[k - (qcm m).length]?) h3
   rw[List.getElem?_set_self (by simp at hk;omega),List.getElem?_eq_getElem (by simp at hk;omega)] at this
   simpa using this.symm
theorem xor_ne (x:UInt8)(n:Nat)(h1:1≤n)(h2:n≤255):∃ v:UInt8,xorI .u8 (x.toNat:Int) (IntKind.u8.wrap (n:Int))=(v.toNat:Int)∧v≠x:=by
 have hx:=x.toNat_lt
 refine⟨UInt8.ofNat ((BitVec.ofInt 8 (x.toNat:Int) ^^^ BitVec.ofInt 8 (IntKind.u8.wrap (n:Int))).toNat),by unfold xorI;rw[wrap_u8];rfl,fun h=>?_⟩
 have hn:IntKind.u8.wrap (n:Int)=(n:Int):=by
  rw[wrap_u8]
  simp only[UInt8.toNat_ofNat']
  omega
 rw[hn] at h
 have h3:=congrArg UInt8.toNat h
 simp only[UInt8.toNat_ofNat'] at h3
 have h4:(BitVec.ofInt 8 (x.toNat:Int) ^^^ BitVec.ofInt 8 (n:Int)).toNat < 256:=BitVec.isLt _
 rw[Nat.mod_eq_of_lt (by omega)] at h3
 have h5:(BitVec.ofInt 8 (x.toNat:Int)).toNat=x.toNat:=by
  rw[BitVec.toNat_ofInt]
  omega
 have h6:BitVec.ofInt 8 (x.toNat:Int) ^^^ BitVec.ofInt 8 (n:Int)=BitVec.ofInt 8 (x.toNat:Int):=BitVec.eq_of_toNat_eq (by rw[h3,h5])
 have h7:BitVec.ofInt 8 (n:Int)=0#8:=by
  have:=congrArg (fun y=>BitVec.ofInt 8 (x.toNat:Int) ^^^ y) h6
  simp only[← BitVec.xor_assoc,BitVec.xor_self,BitVec.zero_xor] at this
  exact this
 have h8:=congrArg BitVec.toNat h7
 rw[BitVec.toNat_ofInt] at h8
 simp at h8
 omega
theorem c_fbd (x0:Str)(hx:x0.length≤1048576)(i:Nat)(hi:i≤1000):∃ a:Nat,a < 256∧out qfa [.one (qaw x0),.one (Cell.int i)]=some [.one (Cell.int (a:Int))]:=by
 have hM:=qai
 by_cases h:i < x0.length
 ·obtain⟨y,hy⟩:∃ y,x0[i]?=some y:=⟨_,List.getElem?_eq_getElem h⟩
  have hy8:=y.toNat_lt
  refine⟨y.toNat,hy8,qbb (H:=[]) (qpa 0 ?_)⟩
  simp only[fbd,qag,Option.bind_some]
  rw[decide_eq_true (by omega),cond_true]
  simp only[qat,hy,qbf,EV0]
  rw[wrap_small (by omega) (by omega)]
 ·refine⟨(i*31+x0.length*7) % 256,Nat.mod_lt _ (by omega),qbb (H:=[]) (qpa 0 ?_)⟩
  simp only[fbd,qag,Option.bind_some]
  rw[decide_eq_false (by omega),cond_false,wrap_small (n:=(i:Int)*31) (by omega) (by omega),wrap_small (n:=(x0.length:Int)*7) (by omega) (by omega),wrap_small (by omega) (by omega),Int.tmod_eq_emod_of_nonneg (by omega),
   show(i:Int)*31+(x0.length:Int)*7=((i*31+x0.length*7:Nat):Int) by omega]
  rfl
theorem qhd.wf {m:MMade}(h:qhd 10 m):wfM m:=⟨Nat.le_trans h.1 (by omega),Nat.le_trans h.2.2 (by omega),by have:=h.2.1.1;omega,fun f hf=>⟨Nat.le_trans (h.2.1.2 f hf).1 (by omega),Nat.le_trans (h.2.1.2 f hf).2 (by omega)⟩⟩
theorem qsr (x:MMade):(x.Task==x.Task&&(x.Log==x.Log&&decide (x.Outs=x.Outs)))=true:=by simp
theorem qur {H:List Entry}{i9 ep:Nat}{b:Str}{m:MMade}(he:H[i9]?=some ⟨1,b.map qbf,ep,false⟩)(hb:b=qah m)(hm:qhd 10 m)(k:Nat)(hk:k < b.length)(n:Nat)(h1:1≤n)(h2:n≤255):
  ∃ c1 E1 H5 c2 E2,qcr qcp [.one (.vs i9 1 0 b.length ep)] H=some ([.agg [Cell.str (bs m.Task),c1,Cell.str (bs m.Log)],.one (Cell.bool true)],H++E1)∧
   qba qdw [.agg [Cell.str (bs m.Task),c1,Cell.str (bs m.Log)],.agg [Cell.str (bs m.Task),encL 2 MFile.enc m.Outs,Cell.str (bs m.Log)]] (H++E1)=some [.one (Cell.bool true)]∧
   deref (H++E1) (.ptr i9 1 k 0 ep)=some ([.sc (.int .u8 ((b[k]).toNat:Int))],0)∧qby (H++E1) (.ptr i9 1 k 0 ep) [.sc (.int .u8 (xorI .u8 ((b[k]).toNat:Int) (IntKind.u8.wrap (n:Int))))]=some H5∧
   qcr qcp [.one (.vs i9 1 0 b.length ep)] H5=some ([.agg [Cell.str (bs []),c2,Cell.str (bs [])],.one (Cell.bool false)],H5++E2):=by
 have hbl:=(qed hm).2
 rw[← hb] at hbl
 have hbd:bdS 1048576 b:=Nat.le_trans hbl (by omega)
 have hg:qao b=(m,true):=by
  unfold qao
  rw[hb,qxq hm.wf]
 have opn:∀ {F:List Entry} {ids:List Nat} {cs:List Cell} {x:MMade},Sp (Rep F true true 2) ids cs x.tr→∃ c,cs=[Cell.str (bs x.Task),c,Cell.str (bs x.Log)]:=fun r=>by
  unfold MMade.tr at r
  obtain⟨i0,j1,x0,y1,_,rfl,k0,r5⟩:=r.cons_inv
  obtain⟨i1,j2,x1,y2,_,rfl,k1,r6⟩:=r5.cons_inv
  obtain⟨i2,j3,x2,y3,_,rfl,k2,r7⟩:=r6.cons_inv
  obtain⟨_,rfl⟩:=r7.nil_inv
  obtain⟨_,rfl⟩:=k0
  obtain⟨_,rfl⟩:=k2
  exact⟨x1,rfl⟩
 have hr0:=qgk (n:=b.length) he (Nat.le_refl _)
 rw[List.take_length] at hr0
 obtain⟨cs,E1,i1,e1,r1,_⟩:=qdgb (f_fac b hbd) H (qca hr0 (qaz _))
 rw[hg] at e1 r1
 obtain⟨c1,rfl⟩:=opn r1
 have hr1:=qdh r1 (by omega)
 unfold MMade.tr at hr1
 rw[List.map_cons,List.map_cons,List.map_cons,List.map_nil,qbc,qbc,qbm] at hr1
 have he1:(H++E1)[i9]?=some ⟨1,b.map qbf,ep,false⟩:=by rw[List.getElem?_append_left (List.getElem?_eq_some_iff.1 he).1];exact he
 obtain⟨v,hv,hne⟩:=xor_ne b[k] n h1 h2
 obtain⟨s1,s2⟩:=qrp he1 hk v
 have hg5:qao (b.set k v)=(⟨[],[],[]⟩,false):=by
  unfold qao
  rw[turned hb.symm hk hne]
 have hr5:=qgk (n:=(b.set k v).length) s2 (Nat.le_refl _)
 rw[List.take_length,List.length_set] at hr5
 obtain⟨cs2,E2,i2,e2,r2,_⟩:=qdgb (f_fac (b.set k v) (by unfold bdS at*;simp;omega)) ((H++E1).set i9 ⟨1,(b.set k v).map qbf,ep,false⟩) (qca hr5 (qaz _))
 rw[hg5] at e2 r2
 obtain⟨c2,rfl⟩:=opn r2
 refine⟨c1,E1,_,c2,E2,e1,?_,qrv he1 hk,by rw[hv];exact s1,e2⟩
 rw[qgj (qca hr1 (qay [.agg [Cell.str (bs m.Task),encL 2 MFile.enc m.Outs,Cell.str (bs m.Log)]] _ _)),c_fbg m m (hm.bd (by omega)),qsr]
theorem c_fbc (x0:Str)(hx0:bdS maxLen x0):out qazb [.one (qaw x0)]=some [.one (Cell.bool true)]:=by
 have hM:=qai
 have eb:=c_fbe x0 hx0
 by_cases hb:1048576 < x0.length
 ·refine qbb (H:=[]) (qjo 0 ?_)
  rw[decide_eq_true hb] at eb
  simp only[fbc,eb,EV0]
 rw[decide_eq_false hb] at eb
 obtain⟨m,hm,dm⟩:=c_fbk x0 (by omega)
 obtain⟨c,hc,dc⟩:=c_fbi x0 (by omega)
 obtain⟨u,hu,du⟩:=c_fbj x0 (by omega)
 obtain⟨s,t,hs,ht,dst⟩:=c_fbl x0 (by omega)
 obtain⟨a2,g2,t2⟩:=c_fbd x0 (by omega) 2 (by omega)
 obtain⟨a3,g3,t3⟩:=c_fbd x0 (by omega) 3 (by omega)
 obtain⟨a4,g4,t4⟩:=c_fbd x0 (by omega) 4 (by omega)
 simp only[show((2:Nat):Int)=2 from rfl,show((3:Nat):Int)=3 from rfl,show((4:Nat):Int)=4 from rfl] at t2 t3 t4
 have hcb:bdS 1048576 c:=hc
 obtain⟨b,hbe⟩:∃ b,b=qah m:=⟨_,rfl⟩
 obtain⟨hp8,hpl⟩:=qed hm
 rw[← hbe] at hp8 hpl
 obtain⟨c9,E1,i1,e1,r1,w1,_⟩:=qpe (f_fak m (hm.bd (by omega))) [] (qay [.agg [Cell.str (bs m.Task),encL 2 MFile.enc m.Outs,Cell.str (bs m.Log)]] _ _)
 rw[← hbe] at r1
 rcases qhm r1 with⟨h0,_⟩ | ⟨i9,ep,rfl,rfl,he⟩
 ·rw[h0] at hp8;simp at hp8
 obtain⟨y,hy⟩:∃ y,y=qao c:=⟨_,rfl⟩
 have sg:=c_fbn c hcb
 have yb:=qgeb c hcb
 rw[← hy] at sg yb
 obtain⟨cs,E2,i2,e2,r2,w2⟩:=qdgb (f_fac c hcb) ([]++E1) (qay [.one (qaw c)] _ _)
 rw[← hy] at e2 r2
 obtain⟨c14,rfl⟩:∃ c,cs=[Cell.str (bs y.1.Task),c,Cell.str (bs y.1.Log)]:=by
  unfold MMade.tr at r2
  obtain⟨i0,j1,x0,y1,_,rfl,k0,r5⟩:=r2.cons_inv
  obtain⟨i1,j2,x1,y2,_,rfl,k1,r6⟩:=r5.cons_inv
  obtain⟨i2,j3,x2,y3,_,rfl,k2,r7⟩:=r6.cons_inv
  obtain⟨_,rfl⟩:=r7.nil_inv
  obtain⟨_,rfl⟩:=k0
  obtain⟨_,rfl⟩:=k2
  exact⟨x1,rfl⟩
 have hr2:=qdh r2 (by omega)
 unfold MMade.tr at hr2
 rw[List.map_cons,List.map_cons,List.map_cons,List.map_nil,qbc,qbc,qbm] at hr2
 have q1:qba qdw [.agg [Cell.str (bs y.1.Task),c14,Cell.str (bs y.1.Log)],.agg [Cell.str (bs y.1.Task),encL 2 MFile.enc y.1.Outs,Cell.str (bs y.1.Log)]] ([]++E1++E2)=some [.one (Cell.bool true)]:=by
  rw[qgj (qca hr2 (qay [.agg [Cell.str (bs y.1.Task),encL 2 MFile.enc y.1.Outs,Cell.str (bs y.1.Log)]] _ _)),c_fbg y.1 y.1 yb,qsr]
 have u1:=c_fae u (hu.bd (by omega))
 have u2:=c_fbp u (hu.bd (by omega))
 have v1:=c_fal s t (hs.bd (by omega))
 have v2:=c_fbg s t (hs.bd (by omega))
 have he2:([]++E1++E2)[i9]?=some ⟨1,b.map qbf,ep,false⟩:=by rw[List.getElem?_append_left (List.getElem?_eq_some_iff.1 he).1];exact he
 have hk:(a2*256+a3) % b.length < b.length:=Nat.mod_lt _ (by omega)
 have hidx:(IntKind.i64.wrap ((IntKind.i64.wrap ((a2:Int)*256))+(a3:Int))).tmod (b.length:Int)=(((a2*256+a3) % b.length:Nat):Int):=by
  rw[wrap_small (n:=(a2:Int)*256) (by omega) (by omega),wrap_small (by omega) (by omega),Int.tmod_eq_emod_of_nonneg (by omega),show(a2:Int)*256+(a3:Int)=((a2*256+a3:Nat):Int) by omega]
  rfl
 have hn4:IntKind.i64.wrap (1+((a4:Int).tmod 255))=((1+a4 % 255:Nat):Int):=by
  rw[Int.tmod_eq_emod_of_nonneg (by omega),wrap_small (by omega) (by omega)]
  omega
 have hm255:a4 % 255 < 255:=Nat.mod_lt _ (by omega)
 have hix:=qgx i9 1 b.length ep _ hk
 have hlen:lenC (.vs i9 1 0 b.length ep)=some b.length:=rfl
 have hne0:¬ ((b.length:Int)=0):=by omega
 cases hz:y.2 with
 | true=>
  rw[hz] at e2 sg
  have hgm:qbk c=some y.1:=by
   rw[hy] at hz ⊢
   unfold qao at hz ⊢
   cases hg:qbk c with
   | none=>rw[hg] at hz;simp at hz
   | some w=>rfl
  have hput:=qpv hgm
  obtain⟨c36,E3,i3,e3,r3,w3,_⟩:=qpe (f_fak y.1 yb) ([]++E1++E2) (qca hr2 (qaz _))
  rw[hput] at r3
  have hb3:bytesOf ([]++E1++E2++E3) c36=some (bs c):=by
   have h2:=qbx [] c
   have h3:rowsOf [] 1 (qaw c)=some (c.map qbf):=by simp[rowsOf,encL]
   unfold bytesOf at h2 ⊢
   rw[h3] at h2
   have h1:rowsOf ([]++E1++E2++E3) 1 c36=some (c.map qbf):=by
    rcases qhm r3 with⟨h0,_,f,rfl⟩ | ⟨id,ep',rfl,_,he'⟩
    ·rw[h0];simp[rowsOf]
    ·have hent:entry? ([]++E1++E2++E3) id ep'=some ⟨1,c.map qbf,ep',false⟩:=by simp only[entry?,he'];simp
     simp only[rowsOf,if_true,hent]
     rw[if_pos (by simp),List.drop_zero,List.take_of_length_le (by simp)]
   rw[h1]
   exact h2
  have hb4:=qbx [] c
  have he3:([]++E1++E2++E3)[i9]?=some ⟨1,b.map qbf,ep,false⟩:=by rw[List.getElem?_append_left (List.getElem?_eq_some_iff.1 he2).1];exact he2
  obtain⟨x1,F1,H5,x2,F2,z1,z2,z3,z4,z5⟩:=qur he3 hbe hm _ hk (1+a4 % 255) (by omega) (by omega)
  refine qbb (H:=H5++F2) (qjo 0 ?_)
  simp only[fbc,eb,dm,e1,dc,e2,sg,du,dst,beq_self_eq_true,Bool.not_true,q1,EV0]
  simp only[e3,hb3,hb4,qfo,beq_self_eq_true,Bool.not_true,u1,u2,v1,v2,z1,z2,t2,t3,t4,hlen,EV0]
  rw[if_neg hne0]
  simp only[hidx,hix,z3,cI_u8,hn4,z4,z5,Bool.not_false,EV0]
 | false=>
  rw[hz] at e2 sg
  obtain⟨x1,F1,H5,x2,F2,z1,z2,z3,z4,z5⟩:=qur he2 hbe hm _ hk (1+a4 % 255) (by omega) (by omega)
  refine qbb (H:=H5++F2) (qjo 0 ?_)
  simp only[fbc,eb,dm,e1,dc,e2,sg,du,dst,beq_self_eq_true,Bool.not_true,q1,EV0]
  simp only[qfo,beq_self_eq_true,Bool.not_true,u1,u2,v1,v2,z1,z2,t2,t3,t4,hlen,EV0]
  rw[if_neg hne0]
  simp only[hidx,hix,z3,cI_u8,hn4,z4,z5,Bool.not_false,EV0]
end Go.Ev
