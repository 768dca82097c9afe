/- What the functions come to. Conditions: none. -/
import Derived.Test.YteofbfalngmmeaaGreatDoorKp0
set_option linter.unusedSimpArgs false
set_option linter.unusedVariables false
namespace Go.Ev
open Go
def digits:Str→Nat→Nat | [],n=>n | b::r,n=>digits r (n*10+(b.toNat - 48))
def qba (s:Str)(most:Nat):Option Nat:=if s.all qbt=true∧1≤s.length∧s.length≤7∧(s.length=1∨s.head?≠some 48)∧digits s 0≤most then some (digits s 0) else none
theorem qiu {b:UInt8}(h:qbt b=true):48≤b.toNat∧b.toNat≤57:=by
 unfold qbt inR at h
 simp only[Bool.and_eq_true,decide_eq_true_eq] at h
 omega
theorem qoe:∀ (s t:Str) (n:Nat),digits (s++t) n=digits t (digits s n):=by
 intro s
 induction s with
 | nil=>intro t n;rfl
 | cons b r ih=>intro t n;exact ih t _
theorem qeyb:∀ (s:Str) (n N:Nat),(∀ b∈s,qbt b=true)→n < 10 ^ N→digits s n < 10 ^ (N+s.length):=by
 intro s
 induction s with
 | nil=>intro n N _ h;exact h
 | cons b r ih=>
  intro n N h hn
  have h2:=qiu (h b List.mem_cons_self)
  have h1:=ih (n*10+(b.toNat - 48)) (N+1) (fun x hx=>h x (List.mem_cons_of_mem _ hx)) (by rw[Nat.pow_succ];omega)
  simp only[digits,List.length_cons]
  rw[show N+(r.length+1)=N+1+r.length by omega]
  exact h1
theorem qgdb {n:Nat}(h:n < 10):qbt (UInt8.ofNat (48+n))=true:=by
 unfold qbt inR
 simp only[Bool.and_eq_true,decide_eq_true_eq,UInt8.toNat_ofNat']
 omega
theorem qnd:∀ n:Nat,(numT n).all qbt=true∧1≤(numT n).length∧((numT n).length=1∨(numT n).head?≠some 48)∧digits (numT n) 0=n∧(0 < n→(numT n).head?≠some 48):=by
 intro n
 induction n using Nat.strongRecOn with
 | _ n ih=>
  unfold numT at ih ⊢
  by_cases h:n < 10
  ·rw[qdo h]
   refine⟨by rw[List.all_cons,qgdb h,List.all_nil];rfl,by simp,.inl rfl,?_,?_⟩
   ·simp only[digits,UInt8.toNat_ofNat']
    omega
   ·intro h0 e
    simp only[List.head?_cons,Option.some.injEq] at e
    have:=congrArg UInt8.toNat e
    simp only[UInt8.toNat_ofNat'] at this
    have h48:(48:UInt8).toNat=48:=rfl
    omega
  ·rw[qer h]
   obtain⟨i1,i2,i3,i4,i5⟩:=ih (n / 10) (by omega)
   have hh:(Lib.decDigits (n / 10)++[UInt8.ofNat (48+n % 10)]).head?=(Lib.decDigits (n / 10)).head?:=by
    cases hd:Lib.decDigits (n / 10) with
    | nil=>rw[hd] at i2;simp at i2
    | cons x r=>rfl
   have i6:=i5 (by omega)
   refine⟨?_,by simp,.inr ?_,?_,fun _=>?_⟩
   ·rw[List.all_append,i1]
    rw[List.all_cons,qgdb (show n % 10 < 10 by omega),List.all_nil]
    rfl
   ·rw[hh];exact i6
   ·rw[qoe,i4]
    simp only[digits,UInt8.toNat_ofNat']
    omega
   ·rw[hh];exact i6
theorem qrl:∀ (k:Nat) (s:Str),s.length=k→(∀ b∈s,qbt b=true)→1≤s.length→(s.length=1∨s.head?≠some 48)→numT (digits s 0)=s:=by
 intro k
 induction k with
 | zero=>intro s h1 _ h2 _;omega
 | succ k ih=>
  intro s h1 h2 h3 h4
  have hne:s≠[]:=by intro h;subst h;simp at h3
  obtain⟨t,d,rfl⟩:∃ t d,s=t++[d]:=⟨s.dropLast,s.getLast hne,(List.dropLast_concat_getLast hne).symm⟩
  have hd:=qiu (h2 d (by simp))
  simp only[List.length_append,List.length_cons,List.length_nil] at h1 h4
  have hdd:UInt8.ofNat (48+(d.toNat - 48))=d:=by
   apply UInt8.toNat_inj.1
   simp only[UInt8.toNat_ofNat']
   have:=d.toNat_lt
   omega
  by_cases ht:t=[]
  ·subst ht
   simp only[List.nil_append,digits]
   unfold numT
   rw[qdo (by omega),show 0*10+(d.toNat - 48)=d.toNat - 48 by omega,hdd]
  ·have htl:=List.length_pos_iff.2 ht
   have hhead:t.head?≠some 48:=by
    rcases h4 with h4 | h4
    ·omega
    ·cases t with
     | nil=>exact absurd rfl ht
     | cons x r=>exact h4
   have i1:=ih t (by omega) (fun b hb=>h2 b (List.mem_append_left _ hb)) htl (.inr hhead)
   have hpos:1≤digits t 0:=by
    rcases Nat.eq_zero_or_pos (digits t 0) with h | h
    ·rw[h] at i1
     have:numT 0=[48]:=by unfold numT;rw[qdo (by omega)];rfl
     rw[this] at i1
     rw[← i1] at hhead
     exact absurd rfl hhead
    ·exact h
   rw[qoe]
   simp only[digits]
   unfold numT at i1 ⊢
   rw[qer (by omega),show(digits t 0*10+(d.toNat - 48)) / 10=digits t 0 by omega,i1,show(digits t 0*10+(d.toNat - 48)) % 10=d.toNat - 48 by omega,hdd]
theorem qwo {k most:Nat}(h:k≤most)(hm:k < 10000000):qba (numT k) most=some k:=by
 obtain⟨h1,h2,h3,h4,h5⟩:=qnd k
 have h6:(numT k).length≤7:=by
  have:=List.all_eq_true.1 h1
  rcases Nat.lt_or_ge 7 (numT k).length with h7 | h7
  ·exfalso
   have hx:k≥10000000:=by
    have key:∀ n:Nat,n < 10000000→(numT n).length≤7:=by
     intro n hn
     unfold numT
     have s1:∀ u:Nat,u < 10→(Lib.decDigits u).length=1:=fun u hu=>by rw[qdo hu];rfl
     have st:∀ (c u:Nat),(∀ v:Nat,v < 10 ^ c→(Lib.decDigits v).length≤c)→1≤c→u < 10 ^ (c+1)→(Lib.decDigits u).length≤c+1:=by
      intro c u hc h1c hu
      by_cases h:u < 10
      ·rw[s1 u h];omega
      ·rw[qer h,List.length_append]
       have:=hc (u / 10) (by rw[Nat.pow_succ] at hu;omega)
       simp
       omega
     have t1:∀ v:Nat,v < 10 ^ 1→(Lib.decDigits v).length≤1:=fun v hv=>by rw[s1 v (by simpa using hv)];exact Nat.le_refl _
     have t2:=fun v hv=>st 1 v t1 (by omega) hv
     have t3:=fun v hv=>st 2 v t2 (by omega) hv
     have t4:=fun v hv=>st 3 v t3 (by omega) hv
     have t5:=fun v hv=>st 4 v t4 (by omega) hv
     have t6:=fun v hv=>st 5 v t5 (by omega) hv
     exact st 6 n t6 (by omega) (by simpa using hn)
    rcases Nat.lt_or_ge k 10000000 with h8 | h8
    ·have:=key k h8;omega
    ·exact h8
   omega
  ·exact h7
 unfold qba
 rw[if_pos ⟨h1,h2,h6,h3,by rw[h4];exact h⟩,h4]
theorem qcf {s:Str}{k most:Nat}(h:qba s most=some k):s=numT k∧k≤most∧s.length≤7:=by
 unfold qba at h
 split at h
 ·rename_i hc
  obtain⟨h1,h2,h3,h4,h5⟩:=hc
  simp only[Option.some.injEq] at h
  subst h
  exact⟨(qrl _ s rfl (List.all_eq_true.1 h1) h2 h4).symm,h5,h3⟩
 ·simp at h
def numV (o:Option Nat):List AV:=match o with
 | some k=>[.one (Cell.int (k:Int)),.one (Cell.bool true)]
 | none=>[.one (Cell.int 0),.one (Cell.bool false)]
theorem qatd {x:UInt8}(h:qbt x=true):IntKind.i64.wrap (IntKind.u8.wrap ((x.toNat:Int) - 48))=((x.toNat - 48:Nat):Int):=by
 have h1:=qiu h
 have e:((x.toNat:Int) - 48)=((x.toNat - 48:Nat):Int):=by omega
 rw[e,wrap_u8]
 have:(UInt8.ofNat (x.toNat - 48)).toNat=x.toNat - 48:=by simp only[UInt8.toNat_ofNat'];omega
 rw[this]
 exact wrap_small (by omega) (by omega)
theorem c_faj (s:Str)(most:Nat)(hs:s.length≤1073741824)(hm:most≤1073741824):out qje [.one (Cell.str (bs s)),.one (Cell.int most)]=some (numV (qba s most)):=by
 have hM:=qag
 by_cases h17:1≤s.length∧s.length≤7
 ·obtain⟨h1,h7⟩:=h17
  have loop:∀ (r:Str) (i n a:Nat),s.drop i=r→r.length < n→(s.take i).all qbt=true→a=digits (s.take i) 0→∀ k m,qawb k m n (bs s) most a i=some (numV (qba s most),[]):=by
   intro r
   induction r with
   | nil=>
    intro i n a hd hn ht ha k m
    obtain⟨n,rfl⟩:∃ j,n=j+1:=⟨n - 1,by omega⟩
    have h2:=drop_nil hd
    rw[List.take_of_length_le h2] at ht ha
    have hal:a < 10 ^ 7:=by
     rw[ha]
     refine Nat.lt_of_lt_of_le (qeyb s 0 0 (List.all_eq_true.1 ht) (by simp)) ?_
     rw[Nat.zero_add]
     exact Nat.pow_le_pow_right (by omega) h7
    simp only[qawb,qee]
    rw[decide_eq_false (by omega),cond_false]
    simp only[qeld a (by omega),EV0]
    by_cases hc:s.length=1∨s.head?≠some 48
    ·have e:=qrl _ s rfl (List.all_eq_true.1 ht) h1 hc
     rw[ha,e,show(s==s)=true by simp,Bool.not_true,cond_false]
     unfold qba
     by_cases hm:digits s 0≤most
     ·rw[decide_eq_false (by omega),cond_false,if_pos ⟨ht,h1,h7,hc,hm⟩]
      rfl
     ·rw[decide_eq_true (by omega),cond_true,if_neg fun h=>hm h.2.2.2.2]
      rfl
    ·have hne:(numT a==s)=false:=by
      rw[beq_eq_false_iff_ne]
      intro e
      have:=(qnd a).2.2.1
      rw[e] at this
      exact hc this
     rw[hne,Bool.not_false,cond_true]
     unfold qba
     rw[if_neg fun h=>hc h.2.2.2.1]
     rfl
   | cons x r ih=>
    intro i n a hd hn ht ha k m
    obtain⟨n,rfl⟩:∃ j,n=j+1:=⟨n - 1,by omega⟩
    obtain⟨hlt,hx,hd'⟩:=qaq hd
    simp only[List.length_cons] at hn
    simp only[qawb,qee]
    rw[decide_eq_true (by omega),cond_true]
    simp only[qpj,hx,Option.map_some,qfbd,EV0]
    cases hf:qbt x with
    | false=>
     simp only[Bool.not_false,cond_true]
     unfold qba
     rw[if_neg]
     ·rfl
     ·rintro ⟨h,_⟩
      have:=List.all_eq_true.1 h x (List.mem_of_getElem? hx)
      rw[hf] at this
      simp at this
    | true=>
     have hsn:s.take (i+1)=s.take i++[x]:=by rw[List.take_add_one,hx];rfl
     have hal:a < 10 ^ 8:=by
      rw[ha]
      refine Nat.lt_of_lt_of_le (qeyb (s.take i) 0 0 (List.all_eq_true.1 ht) (by simp)) ?_
      rw[Nat.zero_add]
      refine Nat.pow_le_pow_right (by omega) ?_
      rw[List.length_take]
      omega
     have hf2:=qiu hf
     simp only[Bool.not_true,cond_false]
     rw[qatd hf,wrap_small (n:=(a:Int)*10) (by omega) (by omega),wrap_small (by omega) (by omega),qae (by omega),show(a:Int)*10+((x.toNat - 48:Nat):Int)=((a*10+(x.toNat - 48):Nat):Int) by omega]
     refine ih (i+1) n _ hd' (by omega) ?_ ?_ k m
     ·rw[hsn,List.all_append,ht,List.all_cons,hf,List.all_nil]
      rfl
     ·rw[hsn,qoe,← ha]
      rfl
  refine qbw (H:=[]) (qzm (s.length+1) ?_)
  have z:=loop s 0 (s.length+1+1) 0 rfl (by omega) (by simp) (by simp[digits]) (s.length+1+1) (s.length+1+1)
  simp only[faj,qee,qsgc,EV0]
  rw[show inR (s.length:Int) 1 7=true by
   unfold inR
   rw[decide_eq_true (by omega),decide_eq_true (by omega)]
   rfl,Bool.not_true,cond_false]
  exact z
 ·refine qbw (H:=[]) (qzm 0 ?_)
  simp only[faj,qee,qsgc,EV0]
  rw[show inR (s.length:Int) 1 7=false by
   unfold inR
   rcases Nat.lt_or_ge s.length 1 with h | h
   ·rw[decide_eq_false (by omega),Bool.false_and]
   ·rw[decide_eq_false (p:=(s.length:Int)≤7) (by omega),Bool.and_false]]
  unfold qba
  rw[if_neg fun h=>h17 ⟨h.2.1,h.2.2.1⟩]
  rfl
def figV:Nat→Str→Bool | 0,_=>true | _,s=>!(s==[])
def preCh (b:UInt8):Bool:=qbt b||qrh b||inR b.toNat 65 90||b==45
def qcdb (s:Str):Bool:=s.all preCh&&(inR s.length 1 8&&(!s.all qbt||s.length==1||s.head? != some 48))
def qkm (a b c:Int)(pre:List Str):Bool:=pre.all qcdb&&(inR a 0 9999&&(inR b 0 9999&&(inR c 0 9999&&decide (pre.length≤3))))
def qfz (a b c:Int)(pre:List Str):Str:=if qkm a b c pre then numT a.toNat++[46]++numT b.toNat++[46]++numT c.toNat++(if pre.length=0 then [] else 45::Lib.join pre [46]) else []
theorem qndb {s:Str}(h:qcdb s=true):1≤s.length∧s.length≤8:=by
 simp only[qcdb,Bool.and_eq_true,inR,decide_eq_true_eq] at h
 omega
theorem qadb {a b c:Int}{pre:List Str}(h:qkm a b c pre=true):(0≤a∧a≤9999)∧(0≤b∧b≤9999)∧(0≤c∧c≤9999)∧pre.length≤3∧∀ x∈pre,x.length≤8:=by
 simp only[qkm,Bool.and_eq_true,inR,decide_eq_true_eq,List.all_eq_true] at h
 exact⟨h.2.1,h.2.2.1,h.2.2.2.1,h.2.2.2.2,fun x hx=>(qndb (h.1 x hx)).2⟩
theorem qqz {sep:Str}(hs:sep.length≤1):∀ r:List Str,(∀ x∈r,x.length≤8)→(Lib.joinTail sep r).length≤9*r.length
 | [],_=>by simp[Lib.joinTail]
 | x::r,h=>by
  have ih:=qqz hs r fun y hy=>h y (List.mem_cons_of_mem _ hy)
  have hx:=h x (List.mem_cons_self ..)
  simp only[Lib.joinTail,List.map_cons,List.flatten_cons,List.length_append,List.length_cons] at ih ⊢
  omega
theorem qetc {sep:Str}(hs:sep.length≤1)(r:List Str)(h:∀ x∈r,x.length≤8):(Lib.join r sep).length≤9*r.length:=by
 cases r with
 | nil=>simp[Lib.join_nil]
 | cons x r=>
  rw[Lib.join_cons,List.length_append]
  have:=qqz hs r fun y hy=>h y (List.mem_cons_of_mem _ hy)
  have hx:=h x (List.mem_cons_self ..)
  simp only[List.length_cons]
  omega
theorem c_fbk (s:Str)(hs:s.length≤1073741824):out qxd [.one (Cell.str (bs s))]=some [.one (Cell.bool (s.all qbt&&figV 1 s))]:=by
 have hM:=qag
 have loop:∀ (r:Str) (i n:Nat),s.drop i=r→r.length < n→∀ k m,qbib k m n (bs s) i=some ([.one (Cell.bool (r.all qbt&&figV 1 s))],[]):=by
  intro r
  induction r with
  | nil=>
   intro i n hd hn k m
   obtain⟨n,rfl⟩:∃ j,n=j+1:=⟨n - 1,by omega⟩
   have:=drop_nil hd
   simp only[qbib,qee,qdz]
   rw[decide_eq_false (by omega),cond_false]
   simp[figV]
  | cons b r ih=>
   intro i n hd hn k m
   obtain⟨n,rfl⟩:∃ j,n=j+1:=⟨n - 1,by omega⟩
   obtain⟨hlt,hg,hd'⟩:=qaq hd
   simp only[List.length_cons] at hn
   simp only[qbib,qpj,hg,qfbd,EV0]
   rw[decide_eq_true (by omega),cond_true,qae (by omega),ih (i+1) n hd' (by omega)]
   simp only[List.all_cons]
   cases qbt b<;>rfl
 refine qbw (H:=[]) (qsjb (s.length+1) ?_)
 have:=loop s 0 (s.length+1+1) rfl (by omega) (s.length+1+1) (s.length+1+1)
 simpa[fbk] using this
theorem c_fbt (s:Str)(hs:s.length≤1073741824):out qyg [.one (Cell.str (bs s))]=some [.one (Cell.bool (qcdb s))]:=by
 have hM:=qag
 have loop:∀ (r:Str) (i n:Nat),s.drop i=r→r.length < n→∀ k m,qlt k m n (bs s) i=some ([.one (Cell.bool (r.all preCh&&(inR s.length 1 8&&(!s.all qbt||s.length==1||s.head? != some 48))))],[]):=by
  intro r
  induction r with
  | nil=>
   intro i n hd hn k m
   obtain⟨n,rfl⟩:∃ j,n=j+1:=⟨n - 1,by omega⟩
   have:=drop_nil hd
   simp only[qlt,qee]
   rw[decide_eq_false (by omega),cond_false]
   simp only[qsgc,c_fbk s hs,figV,EV0,List.all_nil]
   cases hr:inR (s.length:Int) 1 8 with
   | false=>rfl
   | true=>
    simp only[cond_true,Bool.true_and]
    cases s with
    | nil=>simp[inR] at hr
    | cons x s=>
     cases hf:(x::s).all qbt with
     | false=>rfl
     | true=>
      have h0:bytS (bs (x::s)) 0=some (x.toNat:Int):=by
       have:=qpj (x::s) 0
       simpa using this
      have h48:((x.toNat:Int) != 48)=(x != 48):=u8_ne x 48 (by omega)
      have hh:((x::s).head? != some 48)=(x != 48):=by simp[bne]
      simp only[h0,h48,hh,Option.bind_some]
      by_cases hx:x=48
      ·subst hx
       cases s<;>simp
      ·have e1:((x::s)==[48])=false:=by simp[hx]
       have e2:(x != 48)=true:=by simp[hx]
       rw[e1,e2]
       simp
  | cons b r ih=>
   intro i n hd hn k m
   obtain⟨n,rfl⟩:∃ j,n=j+1:=⟨n - 1,by omega⟩
   obtain⟨hlt,hg,hd'⟩:=qaq hd
   simp only[List.length_cons] at hn
   have hb:=u8_lt b
   have h45:((b.toNat:Int) != 45)=!(b==45):=u8_ne b 45 (by omega)
   simp only[qlt,qpj,hg,qfbd,c_fbm,h45,EV0]
   rw[decide_eq_true (by omega),cond_true,qae (by omega),ih (i+1) n hd' (by omega)]
   have hr:inR (b.toNat:Int) 65 90=(decide ((b.toNat:Int)≥65)&&decide ((b.toNat:Int)≤90)):=rfl
   simp only[List.all_cons,preCh,hr]
   cases qbt b<;>cases qrh b<;>cases (decide ((b.toNat:Int)≥65))<;>cases (decide ((b.toNat:Int)≤90))<;>cases (b==45)<;>rfl
 refine qbw (H:=[]) (qpsb (s.length+1) ?_)
 have:=loop s 0 (s.length+1+1) rfl (by omega) (s.length+1+1) (s.length+1+1)
 simpa[fbt,qcdb] using this
theorem c_faq (a b c:Int)(pre:List Str)(hp:bdL 1048576 (bdS 1048576) pre):out qqc [.agg [Cell.int a,Cell.int b,Cell.int c,encL 1 eStr pre]]=some [.one (Cell.bool (qkm a b c pre))]:=by
 have hM:=qag
 have hl:=hp.1
 have loop:∀ (r:List Str) (i n:Nat),pre.drop i=r→r.length < n→∀ k m,qaob k m n (encL 1 eStr pre) pre.length i a b c (encL 1 eStr pre)=some ([.one (Cell.bool (r.all qcdb&&(inR a 0 9999&&(inR b 0 9999&&(inR c 0 9999&&decide (pre.length≤3))))))],[]):=by
  intro r
  induction r with
  | nil=>
   intro i n hd hn k m
   obtain⟨n,rfl⟩:∃ j,n=j+1:=⟨n - 1,by omega⟩
   have:=drop_nil hd
   simp only[qaob,EV0]
   rw[decide_eq_false (by omega),cond_false]
   have h3:decide ((pre.length:Int)≤3)=decide (pre.length≤3):=by rw[Bool.eq_iff_iff];simp;omega
   simp only[qsgc,h3,EV0,List.all_nil]
   cases inR a 0 9999<;>cases inR b 0 9999<;>cases inR c 0 9999<;>rfl
  | cons x r ih=>
   intro i n hd hn k m
   obtain⟨n,rfl⟩:∃ j,n=j+1:=⟨n - 1,by omega⟩
   obtain⟨hlt,hg,hd'⟩:=qaq hd
   simp only[List.length_cons] at hn
   have hx:x.length≤1073741824:=Nat.le_trans (hp.2 x (List.mem_of_getElem? hg)) (by omega)
   simp only[qaob,EV0]
   rw[decide_eq_true (by omega),cond_true]
   simp only[qav,hg,eStr,c_fbt x hx,qae (show i < maxLen by omega),ih (i+1) n hd' (by omega),EV0,List.all_cons]
   cases qcdb x<;>rfl
 refine qbw (H:=[]) (qmlb (pre.length+1) ?_)
 simp only[faq,EV0]
 exact loop pre 0 (pre.length+1+1) rfl (by omega) (pre.length+1+1) (pre.length+1+1)
theorem qke (xs:List Str)(sep:Str)(h1:xs.length≤3)(h2:∀ x∈xs,x.length≤8)(h3:sep.length≤1):out qdab [.one (encL 1 eStr xs),.one (Cell.str (bs sep))]=some [.one (Cell.str (bs (Lib.join xs sep)))]:=by
 have hj:=qetc h3 xs h2
 refine qbw (H:=[]) ?_
 show qpr _ _=_
 have e:qlm (xs.map eStr)=some xs:=qie xs
 simp only[encL,qpr,e,qjc]
 rw[if_pos ⟨trivial,by omega,by omega⟩]
 rfl
theorem c_fas (a b c:Int)(pre:List Str)(hp:bdL 1048576 (bdS 1048576) pre):out qlk [.agg [Cell.int a,Cell.int b,Cell.int c,encL 1 eStr pre]]=some [.one (Cell.str (bs (qfz a b c pre)))]:=by
 refine qbw (H:=[]) (qmeb 0 ?_)
 simp only[fas,c_faq a b c pre hp,EV0,qfz]
 cases ho:qkm a b c pre with
 | false=>rfl
 | true=>
  obtain⟨h1,h2,h3,h4,h5⟩:=qadb ho
  obtain⟨x,rfl⟩:∃ x:Nat,a=(x:Int):=⟨a.toNat,by omega⟩
  obtain⟨y,rfl⟩:∃ x:Nat,b=(x:Int):=⟨b.toNat,by omega⟩
  obtain⟨z,rfl⟩:∃ x:Nat,c=(x:Int):=⟨c.toNat,by omega⟩
  have n1:=qmpb x (by omega)
  have n2:=qmpb y (by omega)
  have n3:=qmpb z (by omega)
  have j:=qetc (sep:=[46]) (by simp) pre h5
  have k1:catS (bs (numT x)) (bs [46])=some (bs (numT x++[46])):=qdm (by simp;omega)
  have k2:catS (bs (numT x++[46])) (bs (numT y))=some (bs (numT x++[46]++numT y)):=qdm (by simp;omega)
  have k3:catS (bs (numT x++[46]++numT y)) (bs [46])=some (bs (numT x++[46]++numT y++[46])):=qdm (by simp;omega)
  have k4:catS (bs (numT x++[46]++numT y++[46])) (bs (numT z))=some (bs (numT x++[46]++numT y++[46]++numT z)):=qdm (by simp;omega)
  have k5:catS (bs (numT x++[46]++numT y++[46]++numT z)) (bs [45])=some (bs (numT x++[46]++numT y++[46]++numT z++[45])):=qdm (by simp;omega)
  have k6:catS (bs (numT x++[46]++numT y++[46]++numT z++[45])) (bs (Lib.join pre [46]))=some (bs (numT x++[46]++numT y++[46]++numT z++[45]++Lib.join pre [46])):=qdm (by simp;omega)
  have k7:catS (bs [45]) (bs (Lib.join pre [46]))=some (bs ([45]++Lib.join pre [46])):=qdm (by simp;omega)
  have k8:catS (bs (numT x++[46]++numT y++[46]++numT z)) (bs ([45]++Lib.join pre [46]))=some (bs (numT x++[46]++numT y++[46]++numT z++([45]++Lib.join pre [46]))):=qdm (by simp;omega)
  simp only[Bool.not_true,cond_false,qeld x (by omega),qeld y (by omega),qeld z (by omega),k1,k2,k3,k4,EV0,if_true,Int.toNat_natCast]
  by_cases hz:pre.length=0
  ·rw[decide_eq_false (by omega),cond_false,if_pos hz]
   simp
  ·rw[decide_eq_true (by omega),cond_true,if_neg hz]
   simp only[qke pre [46] h4 h5 (by simp),k5,k6,k7,k8,EV0]
   try simp
theorem qqyb {c:UInt8}:∀ {s:Str},c∈s→s=ahead c s++c::behind c s
 | [],h=>by simp at h
 | x::s,h=>by
  by_cases e:x=c
  ·subst e
   simp[ahead,behind]
  ·have h':c∈s:=by
    rcases List.mem_cons.1 h with h | h
    ·exact absurd h.symm e
    ·exact h
   have:=qqyb h'
   simp only[ahead,behind] at this ⊢
   have hx:(x != c)=true:=by simp[e]
   rw[List.takeWhile_cons,List.dropWhile_cons,hx]
   simpa using this
theorem quf (c:UInt8):∀ (n:Nat) (s:Str),s.length≤n→Lib.join (split c s) [c]=s:=by
 intro n
 induction n with
 | zero=>
  intro s hs
  obtain rfl:s=[]:=List.eq_nil_of_length_eq_zero (by omega)
  rw[qmb (by simp),Lib.join_one]
 | succ n ih=>
  intro s hs
  by_cases h:c∈s
  ·have hlt:(behind c s).length≤n:=by
    have:=congrArg List.length (qqyb h)
    simp only[List.length_append,List.length_cons] at this
    omega
   have ihb:=ih (behind c s) hlt
   rw[qtn h,Lib.join_cons]
   cases hsp:split c (behind c s) with
   | nil=>exact absurd hsp (qne _ _)
   | cons y r=>
    rw[hsp,Lib.join_cons] at ihb
    conv=>rhs;rw[qqyb h]
    rw[← ihb]
    simp[Lib.joinTail]
  ·rw[qmb h,Lib.join_one]
def qmm (s:Str):List Str:=if 45∈s then split 46 (behind 45 s) else []
def qai (s:Str):MVer×Bool:=
 match split 46 (ahead 45 s) with
 | [x,y,z]=>match qba x 9999,qba y 9999,qba z 9999 with
  | some a,some b,some c=>if qkm a b c (qmm s) then (⟨a,b,c,qmm s⟩,true) else (⟨0,0,0,[]⟩,false)
  | _,_,_=>(⟨0,0,0,[]⟩,false)
 | _=>(⟨0,0,0,[]⟩,false)
theorem qpyb {s x y z:Str}{a b c:Nat}(h:split 46 (ahead 45 s)=[x,y,z])(ha:qba x 9999=some a)(hb:qba y 9999=some b)(hc:qba z 9999=some c):(qfz a b c (qmm s)==s)=qkm a b c (qmm s):=by
 have hu:=quf 46 _ (ahead 45 s) (Nat.le_refl _)
 rw[h] at hu
 have hu2:ahead 45 s=numT a++[46]++numT b++[46]++numT c:=by
  rw[← hu,Lib.join_cons,(qcf ha).1,(qcf hb).1,(qcf hc).1]
  simp[Lib.joinTail]
 cases hok:qkm a b c (qmm s) with
 | false=>
  have ht:qfz a b c (qmm s)=[]:=by rw[qfz,hok];rfl
  rw[ht]
  cases s with
  | nil=>simp[ahead] at hu2
  | cons q s=>rfl
 | true=>
  have ht:qfz a b c (qmm s)=s:=by
   rw[qfz,hok]
   simp only[if_true,Int.toNat_natCast]
   rw[← hu2]
   by_cases hd:(45:UInt8)∈s
   ·have hp:qmm s=split 46 (behind 45 s):=if_pos hd
    have hne:(qmm s).length≠0:=by
     rw[hp]
     intro h0
     exact qne _ _ (List.eq_nil_of_length_eq_zero h0)
    rw[if_neg hne,hp,quf 46 _ _ (Nat.le_refl _)]
    exact(qqyb hd).symm
   ·have hp:qmm s=[]:=if_neg hd
    rw[hp,if_pos (by simp),List.append_nil,qdlb hd]
  rw[ht]
  simp
theorem qlcc {s:Str}(hs:s.length≤1048576):bdL 1048576 (bdS 1048576) (qmm s):=by
 unfold qmm
 split
 ·rename_i hm
  have h:=qdj 46 (behind 45 s) []
  have hb:=qtg 45 s
  have hlt:(behind 45 s).length+1≤s.length:=by
   have:=congrArg List.length (qqyb hm)
   simp only[List.length_append,List.length_cons] at this
   omega
  refine⟨by have:=h.1;unfold split;omega,fun x hx=>?_⟩
  have:=h.2 x hx
  simp only[List.length_nil,Nat.zero_add] at this
  exact Nat.le_trans this (by omega)
 ·exact⟨by simp,by simp⟩
theorem qzyc (c:UInt8)(s:Str):cutV c s=[.one (Cell.str (bs (ahead c s))),.one (Cell.str (bs (behind c s))),.one (Cell.bool (decide (c∈s)))]:=by
 unfold cutV
 split
 ·rename_i h
  rw[decide_eq_true h]
 ·rename_i h
  rw[decide_eq_false h,qdlb h,qkmb h]
theorem qko (H:List Entry):Sp (Rep H true true 2) [] [Cell.int 0,Cell.int 0,Cell.int 0,.lst true 1 []] (⟨0,0,0,[]⟩:MVer).tr:=by
 unfold MVer.tr
 exact Sp.cons (i:=[]) (qdh _) (Sp.cons (i:=[]) (qdh _) (Sp.cons (i:=[]) (qdh _) (Sp.cons (i:=[]) (.inl ⟨rfl,rfl,true,rfl⟩) .nil)))
def verH (A:List Entry)(row:List Cell):List Entry:=A++[Entry.mk 4 [row] 0 false]
theorem verH_0 (A:List Entry)(p q r t v:Cell):qbu (verH A [p,q,r,t]) (.ptr A.length 4 0 0 0) [v]=some (verH A [v,q,r,t]):=by simp[verH,qbu,entry?,splice,List.set_append]
theorem verH_1 (A:List Entry)(p q r t v:Cell):qbu (verH A [p,q,r,t]) (.ptr A.length 4 0 1 0) [v]=some (verH A [p,v,r,t]):=by simp[verH,qbu,entry?,splice,List.set_append]
theorem verH_2 (A:List Entry)(p q r t v:Cell):qbu (verH A [p,q,r,t]) (.ptr A.length 4 0 2 0) [v]=some (verH A [p,q,v,t]):=by simp[verH,qbu,entry?,splice,List.set_append]
theorem verH_3 (A E2:List Entry)(p q r t v:Cell):qbu (verH A [p,q,r,t]++E2) (.ptr A.length 4 0 3 0) [v]=some (verH A [p,q,r,v]++E2):=by simp[verH,qbu,entry?,splice,List.set_append]
theorem verH_d (A E2:List Entry)(row:List Cell):deref (verH A row++E2) (.ptr A.length 4 0 0 0)=some (row,0):=by simp[verH,deref,entry?]
theorem qagd (A:List Entry)(row:List Cell):deref (verH A row) (.ptr A.length 4 0 0 0)=some (row,0):=by simp[verH,deref,entry?]
theorem qonb (H:List Entry)(a b c:Int):mapO (qal false H) [.agg [Cell.int a,Cell.int b,Cell.int c,.lst true 1 []]]=some [.agg [Cell.int a,Cell.int b,Cell.int c,qax []]]:=rfl
theorem f_fal (s:Str)(hs:s.length≤1048576):Fresh qia true 2 [.one (Cell.str (bs s))] [.agg (qai s).1.tr,.one (.leaf (.bool (qai s).2))]:=by
 have hM:=qag
 have hal:=qprb 45 s
 have hbl:=qtg 45 s
 have hcut:out qrx [.one (Cell.str (bs s)),.one (Cell.str (bs [45]))]=some [.one (Cell.str (bs (ahead 45 s))),.one (Cell.str (bs (behind 45 s))),.one (Cell.bool (decide ((45:UInt8)∈s)))]:=by
  rw[c_fee s 45 (by omega),qzyc]
 obtain⟨c7,E,is,e1,r1,w1,_⟩:=qir (qewd (ahead 45 s) 46 (by omega)) ([]:List Entry) (qaz [.one (Cell.str (bs (ahead 45 s))),.one (Cell.str (bs [46]))] _ _)
 generalize hA:([]:List Entry)++E=A at e1 r1
 have hl:=qce.of (n:=2) r1
 have fz:∀ H,qia [.one (Cell.str (bs s))] []=some ([.agg [Cell.int 0,Cell.int 0,Cell.int 0,.lst true 1 []],.one (Cell.bool false)],H)→qai s=(⟨0,0,0,[]⟩,false)→Fresh qia true 2 [.one (Cell.str (bs s))] [.agg (qai s).1.tr,.one (.leaf (.bool (qai s).2))]:=fun H h1 h2=>by
  rw[h2]
  exact Fresh.agg1 (n:=1) h1 (qko H) (by simp)
 by_cases h3:(split 46 (ahead 45 s)).length=3
 rotate_left
 ·refine fz A (qzl 0 ?_) ?_
  ·simp only[fal,hcut,e1,hl.len,EV0]
   rw[show(((split 46 (ahead 45 s)).length:Int) != 3)=true by rw[bne_iff_ne];omega,cond_true]
  ·unfold qai
   split
   ·rename_i x y z hsp
    rw[hsp] at h3
    simp at h3
   ·rfl
 ·obtain⟨x,y,z,hsp⟩:∃ x y z,split 46 (ahead 45 s)=[x,y,z]:=by
   match h:split 46 (ahead 45 s),h3 with
   | [x,y,z],_=>exact⟨x,y,z,rfl⟩
  rw[hsp] at hl
  have hlen:∀ x∈split 46 (ahead 45 s),x.length≤1073741824:=fun x hx=>by
   have:=(qdj 46 (ahead 45 s) []).2 x hx
   simp only[List.length_nil,Nat.zero_add] at this
   omega
  have lx:=hlen x (by rw[hsp];simp)
  have ly:=hlen y (by rw[hsp];simp)
  have lz:=hlen z (by rw[hsp];simp)
  have hnum:∀ x:Str,x.length≤1073741824→out qje [.one (Cell.str (bs x)),.one (Cell.int 9999)]=some (numV (qba x 9999)):=fun x hx=>c_faj x 9999 hx (by omega)
  have s0:=verH_0 A
  have s1:=verH_1 A
  have s2:=verH_2 A
  have s3:=verH_3 A
  have dv:=verH_d A
  have dv0:=qagd A
  have hf:∀ row,qce (verH A row) is c7 [x,y,z]:=fun row=>hl.frame fun j hj=>List.getElem?_append_left (r1.lt j hj)
  have at0:∀ row,∃ a rw off,idxA 1 c7 0=some a∧deref (verH A row) a=some (rw,off)∧cS rw off=some (bs x):=fun row=>by simpa using (hf row).at (i:=0) (s:=x) rfl
  have at1:∀ row,∃ a rw off,idxA 1 c7 1=some a∧deref (verH A row) a=some (rw,off)∧cS rw off=some (bs y):=fun row=>by simpa using (hf row).at (i:=1) (s:=y) rfl
  have at2:∀ row,∃ a rw off,idxA 1 c7 2=some a∧deref (verH A row) a=some (rw,off)∧cS rw off=some (bs z):=fun row=>by simpa using (hf row).at (i:=2) (s:=z) rfl
  have k1:IntKind.i64.wrap ((0:Int)+1)=1:=wrap_small (by omega) (by omega)
  have k2:IntKind.i64.wrap ((1:Int)+1)=2:=wrap_small (by omega) (by omega)
  have k3:IntKind.i64.wrap ((2:Int)+1)=3:=wrap_small (by omega) (by omega)
  have fin:∀ (a b c:Nat),qba x 9999=some a→qba y 9999=some b→qba z 9999=some c→∀ n k m,∃ cs H ids,qni k m (n+1) (bs s) (bs (behind 45 s)) (decide ((45:UInt8)∈s)) c7 (.ptr A.length 4 0 0 0) (.ptr A.length 4 0 0 0) (.ptr A.length 4 0 1 0) (.ptr A.length 4 0 2 0) 3 (verH A [Cell.int a,Cell.int b,Cell.int c,.lst true 1 []])=
    some ([.agg cs,.one (Cell.bool (qai s).2)],H)∧Sp (Rep H true true 2) ids cs (qai s).1.tr∧ids.Nodup:=by
   intro a b c ha hb hc n k m
   have ht:=qpyb hsp ha hb hc
   have pv:qai s=if qkm a b c (qmm s) then (⟨a,b,c,qmm s⟩,true) else (⟨0,0,0,[]⟩,false):=by
    unfold qai
    rw[hsp]
    simp only[ha,hb,hc]
   have hvt:=c_fas a b c (qmm s) (qlcc hs)
   rw[pv]
   rw[qni,show decide ((3:Int) < 3)=false from rfl,cond_false]
   by_cases hd:(45:UInt8)∈s
   ·have hp:qmm s=split 46 (behind 45 s):=if_pos hd
    obtain⟨c29,E2,is2,e2,r2,w2,_⟩:=qir (qewd (behind 45 s) 46 (by omega)) (verH A [Cell.int a,Cell.int b,Cell.int c,.lst true 1 []]) (qaz [.one (Cell.str (bs (behind 45 s))),.one (Cell.str (bs [46]))] _ _)
    rw[← hp] at r2
    have r3:Rep (verH A [Cell.int a,Cell.int b,Cell.int c,c29]++E2) true true 2 is2 c29 (trL 1 qbx (qmm s)):=r2.frame fun j hj=>by
     have h5:=w2.lo j hj
     rw[List.getElem?_append_right (by simp[verH] at h5 ⊢;omega),List.getElem?_append_right h5]
     simp[verH]
    have hsp3:Sp (Rep (verH A [Cell.int a,Cell.int b,Cell.int c,c29]++E2) true true 2) (is2++[]) [Cell.int a,Cell.int b,Cell.int c,c29] (⟨a,b,c,qmm s⟩:MVer).tr:=by
     unfold MVer.tr
     exact Sp.cons (i:=[]) (qdh _) (Sp.cons (i:=[]) (qdh _) (Sp.cons (i:=[]) (qdh _) (Sp.cons r3 .nil)))
    have q1:qbc qlk [.agg [Cell.int a,Cell.int b,Cell.int c,c29]] (verH A [Cell.int a,Cell.int b,Cell.int c,c29]++E2)=some [.one (Cell.str (bs (qfz a b c (qmm s))))]:=by
     have:=qbb (qsy hsp3 (by omega)) (qas (qal false (verH A [Cell.int a,Cell.int b,Cell.int c,c29]++E2)))
     simp only[MVer.tr,List.map_cons,List.map_nil,qem,qck] at this
     rw[qbv this]
     exact hvt
    rw[decide_eq_true hd,cond_true]
    simp only[e2,qcu,Nat.zero_add,s3,dv,q1,ht,EV0]
    cases hok:qkm a b c (qmm s) with
    | false=>exact⟨_,_,[],rfl,qko _,by simp⟩
    | true=>exact⟨_,_,is2++[],rfl,hsp3,by simpa using w2.nd⟩
   ·have hp:qmm s=[]:=if_neg hd
    rw[decide_eq_false hd,cond_false]
    have q1:qbc qlk [.agg [Cell.int a,Cell.int b,Cell.int c,.lst true 1 []]] (verH A [Cell.int a,Cell.int b,Cell.int c,.lst true 1 []])=some [.one (Cell.str (bs (qfz a b c (qmm s))))]:=by
     rw[hp] at hvt ⊢
     exact(qbv (qonb _ _ _ _)).trans hvt
    simp only[dv0,q1,ht,EV0]
    cases hok:qkm a b c (qmm s) with
    | false=>exact⟨_,_,[],rfl,qko _,by simp⟩
    | true=>
     refine⟨_,_,[],rfl,?_,by simp⟩
     rw[hp]
     unfold MVer.tr
     exact Sp.cons (i:=[]) (qdh _) (Sp.cons (i:=[]) (qdh _) (Sp.cons (i:=[]) (qdh _) (Sp.cons (i:=[]) (.inl ⟨rfl,rfl,true,rfl⟩) .nil)))
  have go:∀ n k m,n=4→∃ cs H ids,qni k m n (bs s) (bs (behind 45 s)) (decide ((45:UInt8)∈s)) c7 (.ptr A.length 4 0 0 0) (.ptr A.length 4 0 0 0) (.ptr A.length 4 0 1 0) (.ptr A.length 4 0 2 0) 0 (verH A [Cell.int 0,Cell.int 0,Cell.int 0,.lst true 1 []])=
    some ([.agg cs,.one (Cell.bool (qai s).2)],H)∧Sp (Rep H true true 2) ids cs (qai s).1.tr∧ids.Nodup:=by
   intro n k m hn
   obtain⟨n,rfl⟩:∃ q,n=q+1+1+1+1:=⟨0,hn⟩
   have bad:qba x 9999=none∨qba y 9999=none∨qba z 9999=none→qai s=(⟨0,0,0,[]⟩,false):=fun h=>by
    unfold qai
    rw[hsp]
    rcases h with h | h | h
    ·simp only[h]
    ·simp only[h]
     cases qba x 9999<;>rfl
    ·simp only[h]
     cases qba x 9999<;>cases qba y 9999<;>rfl
   obtain⟨a0,w0,o0,i0,j0,l0⟩:=at0 [Cell.int 0,Cell.int 0,Cell.int 0,.lst true 1 []]
   rw[qni,show decide ((0:Int) < 3)=true from rfl,cond_true,if_pos ⟨by omega,by omega⟩]
   simp only[show(0:Int).toNat*1=0 from rfl,i0,j0,l0,hnum x lx,EV0]
   cases hx:qba x 9999 with
   | none=>
    rw[bad (.inl hx)]
    exact⟨_,_,[],rfl,qko _,by simp⟩
   | some a=>
    simp only[numV,EV0,Bool.not_true,ptrC,s0,k1]
    obtain⟨a1,w1,o1,i1,j1,l1⟩:=at1 [Cell.int a,Cell.int 0,Cell.int 0,.lst true 1 []]
    rw[qni,show decide ((1:Int) < 3)=true from rfl,cond_true,if_pos ⟨by omega,by omega⟩]
    simp only[show(1:Int).toNat*1=1 from rfl,i1,j1,l1,hnum y ly,EV0]
    cases hy:qba y 9999 with
    | none=>
     rw[bad (.inr (.inl hy))]
     exact⟨_,_,[],rfl,qko _,by simp⟩
    | some b=>
     simp only[numV,EV0,Bool.not_true,ptrC,s1,k2]
     obtain⟨a2,w2,o2,i2,j2,l2⟩:=at2 [Cell.int a,Cell.int b,Cell.int 0,.lst true 1 []]
     rw[qni,show decide ((2:Int) < 3)=true from rfl,cond_true,if_pos ⟨by omega,by omega⟩]
     simp only[show(2:Int).toNat*1=2 from rfl,i2,j2,l2,hnum z lz,EV0]
     cases hzz:qba z 9999 with
     | none=>
      rw[bad (.inr (.inr hzz))]
      exact⟨_,_,[],rfl,qko _,by simp⟩
     | some c=>
      simp only[numV,EV0,Bool.not_true,ptrC,s2,k3]
      exact fin a b c hx hy hzz n k m
  obtain⟨cs,H,ids,z1,z2,z3⟩:=go (3+1) (3+1) (3+1) rfl
  have hrun:∀ q,fal q q (bs s)=qni q q q (bs s) (bs (behind 45 s)) (decide ((45:UInt8)∈s)) c7 (.ptr A.length 4 0 0 0) (.ptr A.length 4 0 0 0) (.ptr A.length 4 0 1 0) (.ptr A.length 4 0 2 0) 0 (verH A [Cell.int 0,Cell.int 0,Cell.int 0,.lst true 1 []]):=by
   intro q
   simp only[fal,hcut,e1,hl.len,EV0]
   rw[show(((0+1+1+1:Nat):Int) != 3)=false from rfl,cond_false]
   rfl
  have z0:=(hrun (3+1)).trans z1
  exact Fresh.agg1 (n:=1) (qzl 3 z0) z2 z3
structure RCmp where
 op:Int
 v:MVer
def eCmp (c:RCmp):List Cell:=[Cell.int c.op,Cell.int c.v.A,Cell.int c.v.B,Cell.int c.v.C,qax c.v.Pre]
instance:CanonE eCmp:=⟨fun _=>CanonLs.canon (cs:=[_,_,_,_,_])⟩
def zeroV:MVer:=⟨0,0,0,[]⟩
def xS:Str:=[120]
def oneV (x:Str):Option (MVer×Nat):=match qba x 9999 with | some a=>some (⟨a,0,0,[]⟩,1) | none=>none
def twoV (x y:Str):Option (MVer×Nat):=match qba x 9999,qba y 9999 with | some a,some b=>some (⟨a,b,0,[]⟩,2) | _,_=>none
def numsOf:List Str→Option (MVer×Nat) | [x]=>oneV x | [x,y]=>if y=xS then oneV x else twoV x y | [x,y,z]=>if z=xS then (if y=xS then oneV x else twoV x y) else none | _=>none
def partOf (s:Str):Option (MVer×Nat):=if (qai s).2 then some ((qai s).1,3) else numsOf (split 46 s)
def qkb (v:MVer)(told:Nat):MVer:=if told=1 then ⟨v.A+1,0,0,[]⟩ else ⟨v.A,v.B+1,0,[]⟩
def qml (v:MVer):RCmp:=⟨1,⟨v.A,v.B,v.C,[[48]]⟩⟩
def qjo (v:MVer)(told:Nat):MVer:=if v.A≠0∨told=1 then ⟨v.A+1,0,0,[]⟩ else if v.B≠0∨told=2 then ⟨0,v.B+1,0,[]⟩ else ⟨0,0,v.C+1,[]⟩
def qfw (g:Str)(v:MVer)(told:Nat):List RCmp:=if g=[94] then [⟨4,v⟩,qml (qjo v told)] else if g=[126] then [⟨4,v⟩,qml (qkb v told)] else if g=[62,61] then [⟨4,v⟩] else if g=[62] then (if told=3 then [⟨3,v⟩] else [⟨4,qkb v told⟩]) else if g=[60,61] then (if told=3 then [⟨2,v⟩] else [qml (qkb v told)]) else if g=[60] then [⟨1,v⟩] else if told=3 then [⟨0,v⟩] else [⟨4,v⟩,qml (qkb v told)]
def signs:List Str:=[[94],[126],[62,61],[62],[60,61],[60],[61],[]]
def qla (w:Str):List Str→Option (List RCmp) | []=>none | g::r=>if g.isPrefixOf w then (match partOf (w.drop g.length) with | some p=>some (qfw g p.1 p.2) | none=>none) else qla w r
def qacb (w:Str):Option (List RCmp):=if w=[42] then some [⟨4,zeroV⟩] else qla w signs
def qmi:List Str→List RCmp→Option (List RCmp)
 | [],acc=>some acc
 | w::r,acc=>match qacb w with | some l=>qmi r (acc++l) | none=>none
def quu (v:MVer):Bool:=qkm v.A v.B v.C v.Pre
def listW (ws:List Str):Option (List RCmp):=match qmi ws [] with
 | some l=>if l.length≤4∧l.all (fun c=>quu c.v)=true then some l else none
 | none=>none
def qtdc (ws:List Str):Option (Str×Str):=match ws with
 | [a,b,c]=>if b=[45] then some (a,c) else none
 | _=>none
def qheb (ws:List Str):Option (List RCmp):=match qtdc ws with
 | some (a,c)=>if (qai a).2&&(qai c).2 then some [⟨4,(qai a).1⟩,⟨2,(qai c).1⟩] else none
 | none=>listW ws
def trimL (s:Str):Str:=s.dropWhile (·==32)
def qapb:Str→Str
 | []=>[]
 | x::s=>match qapb s with | []=>if x=32 then [] else [x] | y::r=>x::y::r
def trim (s:Str):Str:=trimL (qapb s)
theorem qkwb (s:Str):qapb (s++[32])=qapb s:=by
 induction s with
 | nil=>rfl
 | cons x s ih=>
  rw[List.cons_append]
  simp only[qapb,ih]
theorem qlib (s:Str)(y:UInt8)(h:y≠32):qapb (s++[y])=s++[y]:=by
 induction s with
 | nil=>simp[qapb,h]
 | cons x s ih=>
  rw[List.cons_append]
  simp only[qapb,ih]
  cases s<;>rfl
theorem qmcc (s:Str):(qapb s).length≤s.length:=by
 induction s with
 | nil=>exact Nat.le_refl _
 | cons x s ih=>
  cases h:qapb s with
  | nil=>
   have e:qapb (x::s)=if x=32 then [] else [x]:=by simp only[qapb,h]
   rw[e]
   split<;>simp
  | cons y r=>
   have e:qapb (x::s)=x::y::r:=by simp only[qapb,h]
   rw[e]
   rw[h] at ih
   simp only[List.length_cons] at ih ⊢
   omega
theorem qrdc (s:Str):(trimL s).length≤s.length:=(List.dropWhile_suffix (fun x=>x==32) (l:=s)).length_le
theorem qszc (s:Str):(trim s).length≤s.length:=Nat.le_trans (qrdc _) (qmcc s)
def qei (cur:Str):Str→List Str | []=>[cur] | [b]=>[cur++[b]] | a::b::r=>if a=124∧b=124 then cur::qei [] r else qei (cur++[a]) (b::r)
def sides (s:Str):List Str:=qei [] s
theorem qho:∀ (n:Nat) (s cur:Str),s.length≤n→(qei cur s).length≤s.length+1∧∀ x∈qei cur s,x.length≤cur.length+s.length
 | _,[],cur,_=>by simp[qei]
 | _,[b],cur,_=>by simp[qei]
 | 0,a::b::r,_,h=>by simp at h
 | n+1,a::b::r,cur,h=>by
  simp only[List.length_cons] at h
  simp only[qei]
  split
  ·have h1:=qho n r [] (by omega)
   refine⟨by simp only[List.length_cons];omega,fun x hx=>?_⟩
   rcases List.mem_cons.1 hx with rfl | hx
   ·omega
   ·have:=h1.2 x hx
    simp only[List.length_nil,List.length_cons] at this ⊢
    omega
  ·have h1:=qho n (b::r) (cur++[a]) (by simp only[List.length_cons];omega)
   simp only[List.length_cons,List.length_append,List.length_nil] at h1 ⊢
   refine⟨by omega,fun x hx=>?_⟩
   have:=h1.2 x hx
   omega
def qpo (piece:Str):Option (List RCmp):=qheb (split 32 (trim piece))
def qlc:List Str→List (List RCmp)→Option (List (List RCmp))
 | [],acc=>some acc
 | p::r,acc=>match qpo p with | some l=>qlc r (acc++[l]) | none=>none
def qec (s:Str):Option (List (List RCmp)):=if (sides s).length≤4 then qlc (sides s) [] else none
def qsfc (l:List RCmp):List Cell:=[encL 5 eCmp l]
instance:CanonE qsfc:=⟨fun _=>.cons inferInstance .nil⟩
def qpuc (l:List (List RCmp)):Cell:=encL 1 qsfc l
def oo:Str:=[124,124]
theorem qdgc (a b:UInt8)(r:Str):oo.isPrefixOf (a::b::r)=decide (a=124∧b=124):=by
 simp only[oo,List.isPrefixOf,Bool.and_true]
 rw[Bool.eq_iff_iff]
 simp only[Bool.and_eq_true,beq_iff_eq,decide_eq_true_eq]
 exact⟨fun h=>⟨h.1.symm,h.2.symm⟩,fun h=>⟨h.1.symm,h.2.symm⟩⟩
theorem qocb (a b:UInt8)(r:Str):Lib.index (a::b::r) oo=if a=124∧b=124 then 0 else if Lib.index (b::r) oo==-1 then -1 else Lib.index (b::r) oo+1:=by
 rw[Lib.index,qdgc]
 simp only[decide_eq_true_eq]
theorem oo_one (b:UInt8):Lib.index [b] oo=-1:=by simp[Lib.index,oo,List.isPrefixOf]
theorem qmo:∀ (s cur:Str),Lib.index s oo=-1→qei cur s=[cur++s]
 | [],cur,_=>by simp[qei]
 | [b],cur,_=>by simp[qei]
 | a::b::r,cur,h=>by
  rw[qocb] at h
  by_cases hab:a=124∧b=124
  ·rw[if_pos hab] at h
   omega
  ·rw[if_neg hab] at h
   have h2:Lib.index (b::r) oo=-1:=by
    have:=Lib.index_ge (b::r) oo
    split at h
    ·rename_i h3
     simpa using h3
    ·omega
   rw[qei,if_neg hab,qmo (b::r) _ h2]
   simp
theorem qub:∀ (s cur:Str) (i:Nat),Lib.index s oo=(i:Int)→qei cur s=(cur++s.take i)::qei [] (s.drop (i+2))∧i+2≤s.length
 | [],cur,i,h=>by simp[Lib.index,oo] at h
 | [b],cur,i,h=>by rw[oo_one] at h;omega
 | a::b::r,cur,i,h=>by
  rw[qocb] at h
  by_cases hab:a=124∧b=124
  ·rw[if_pos hab] at h
   obtain rfl:i=0:=by omega
   rw[qei,if_pos hab]
   simp
  ·rw[if_neg hab] at h
   split at h
   ·omega
   ·rename_i h3
    have hge:=Lib.index_ge (b::r) oo
    obtain⟨j,rfl⟩:∃ j,i=j+1:=⟨i - 1,by simp at h3;omega⟩
    obtain⟨h4,h5⟩:=qub (b::r) (cur++[a]) j (by omega)
    rw[qei,if_neg hab,h4]
    simp only[List.length_cons] at h5 ⊢
    refine⟨?_,by omega⟩
    rw[show j+1+2=(j+2)+1 by omega,List.drop_succ_cons,List.take_succ_cons]
    simp
theorem qkv:∀ (n:Nat) (s:Str),s.length≤n→(sides s).length=Lib.count s oo+1:=by
 intro n
 induction n with
 | zero=>
  intro s h
  obtain rfl:s=[]:=List.eq_nil_of_length_eq_zero (by omega)
  rfl
 | succ n ih=>
  intro s h
  rcases Lib.index_spec s oo with⟨h1,_⟩ | ⟨i,h1,_⟩
  ·rw[sides,qmo _ _ h1,Lib.count_miss h1]
   rfl
  ·obtain⟨h2,h3⟩:=qub s [] i h1
   rw[sides,h2,List.length_cons]
   have:=ih (s.drop (i+2)) (by simp;omega)
   rw[sides] at this
   rw[this,Lib.count_hit (by simp[oo]) h1]
   have e:i+oo.length=i+2:=rfl
   rw[e]
   omega
theorem qjgb (s:Str):Lib.count s oo≤s.length:=by
 have h1:=qkv s.length s (Nat.le_refl _)
 have h2:=(qho s.length s [] (Nat.le_refl _)).1
 unfold sides at h1
 omega
theorem qmj (s:Str)(hs:s.length≤1073741824):out qwg [.one (Cell.str (bs s)),.one (Cell.str (bs oo))]=some [.one (Cell.int ((Lib.count s oo:Nat):Int))]:=by
 refine qbw (H:=[]) ?_
 show qeo _ _=_
 have e:qeo [.one (.sc (.string (bs s))),.one (.sc (.string (bs oo)))] []=if (bs s).size < 4294967281∧2≤(bs oo).size then some ([.one (.sc (.int .i64 (Lib.count (bs s).data.toList (bs oo).data.toList:Nat)))],[]) else none:=rfl
 rw[e,if_pos ⟨by rw[qee];omega,by rw[qee];decide⟩]
 simp only[qjc]
theorem qjt (s:Str)(hs:s.length≤1073741824):qoj [.one (Cell.str (bs s)),.one (Cell.str (bs oo)),.one (Cell.int 0),.one (Cell.int (-1))] []=some ([.one (.vs 0 1 0 (Lib.count s oo+1) 0)],[Entry.mk 1 ((sides s).map eStr) 0 false]):=by
 have hM:=qag
 have hct:Lib.count s oo≤s.length:=qjgb s
 have hsl:=qkv s.length s (Nat.le_refl _)
 have hput:∀ (rows:List (List Cell)) (i:Nat) (row:List Cell) (y:Str),rows[i]?=some row→row.length=1→qbu [Entry.mk 1 rows 0 false] (.ptr 0 1 i 0 0) [Cell.str (bs y)]=some [Entry.mk 1 (rows.set i (eStr y)) 0 false]:=by
  intro rows i row y h hr
  simp only[qbu,entry?,List.getElem?_cons_zero,if_true,h]
  rw[if_pos ⟨trivial,by simp,trivial⟩]
  simp[splice,eStr,hr,List.drop_eq_nil_of_le]
 have loop:∀ (d:Nat) (r:Str) (done:List Str) (n:Nat),Lib.count r oo=d→done.length+d=Lib.count s oo→r.length≤s.length→sides s=done++sides r→d < n→∀ k m,
   qnw k m n (bs r) (bs oo) 0 ((Lib.count s oo:Nat):Int) (.vs 0 1 0 (Lib.count s oo+1) 0) ((done.length:Nat):Int) [Entry.mk 1 (done.map eStr++List.replicate (d+1) [Cell.str (bs [])]) 0 false]=
    some ([.one (.vs 0 1 0 (Lib.count s oo+1) 0)],[Entry.mk 1 ((sides s).map eStr) 0 false]):=by
  intro d
  induction d with
  | zero=>
   intro r done n hc hd hr hsp hn k m
   obtain⟨n,rfl⟩:∃ j,n=j+1:=⟨n - 1,by omega⟩
   have hnc:sides r=[r]:=by
    rcases Lib.index_spec r oo with⟨h1,_⟩ | ⟨i,h1,_⟩
    ·rw[sides,qmo _ _ h1]
     rfl
    ·have:=Lib.count_hit (sub:=oo) (by simp[oo]) h1
     omega
   simp only[qnw]
   rw[decide_eq_false (by omega),cond_false]
   have hrow:(done.map eStr++List.replicate (0+1) [Cell.str (bs [])])[done.length]?=some [Cell.str (bs [])]:=by simp
   simp only[qgu 0 1 (Lib.count s oo+1) 0 done.length (by omega),Option.bind_some,hput _ _ _ r hrow rfl]
   have hset:(done.map eStr++List.replicate (0+1) [Cell.str (bs [])]).set done.length (eStr r)=(sides s).map eStr:=by
    rw[hsp,hnc,List.set_append_right _ _ (by simp)]
    simp
   rw[hset,show IntKind.i64.wrap ((done.length:Int)+1)=((Lib.count s oo+1:Nat):Int) by rw[qae (by omega)];omega]
   have hsl':slcC 1 (.vs 0 1 0 (Lib.count s oo+1) 0) 0 (some ((Lib.count s oo+1:Nat):Int)) none=some (.vs 0 1 0 (Lib.count s oo+1) 0):=by
    simp only[slcC,Option.getD_some,Option.getD_none,if_true]
    rw[if_pos ⟨by omega,by omega,by omega,by omega⟩,if_pos (.inl trivial)]
    simp
   rw[hsl']
   rfl
  | succ d ih=>
   intro r done n hc hd hr hsp hn k m
   obtain⟨n,rfl⟩:∃ j,n=j+1:=⟨n - 1,by omega⟩
   obtain⟨i,hi⟩:∃ i:Nat,Lib.index r oo=(i:Int):=by
    rcases Lib.index_spec r oo with⟨h1,_⟩ | ⟨i,h1,_⟩
    ·have:=Lib.count_miss h1
     omega
    ·exact⟨i,h1⟩
   obtain⟨h2,h3⟩:=qub r [] i hi
   have h4:=Lib.count_hit (sub:=oo) (by simp[oo]) hi
   have e5:i+oo.length=i+2:=rfl
   rw[e5] at h4
   simp only[qnw]
   rw[decide_eq_true (by omega),cond_true]
   simp only[qhe r oo (by omega),hi,EV0]
   rw[decide_eq_false (by omega),cond_false]
   have e1:=qlp r 0 i (by omega) (by omega)
   simp only[Int.natCast_zero,List.drop_zero] at e1
   rw[show IntKind.i64.wrap ((i:Int)+0)=(i:Int) by rw[Int.add_zero];exact wrap_small (by omega) (by omega),e1]
   have hrow:(done.map eStr++List.replicate (d+1+1) [Cell.str (bs [])])[done.length]?=some [Cell.str (bs [])]:=by simp
   simp only[Option.bind_some,qgu 0 1 (Lib.count s oo+1) 0 done.length (by omega),hput _ _ _ (r.take i) hrow rfl]
   have e2:=qlp r (i+2) r.length (by omega) (Nat.le_refl _)
   rw[List.take_length] at e2
   rw[show IntKind.i64.wrap ((i:Int)+((oo.length:Nat):Int))=((i+2:Nat):Int) by rw[wrap_small (by simp[oo];omega) (by simp[oo];omega)];simp[oo],e2,qae (by omega)]
   simp only[Option.bind_some]
   have hset:(done.map eStr++List.replicate (d+1+1) [Cell.str (bs [])]).set done.length (eStr (r.take i))=(done++[r.take i]).map eStr++List.replicate (d+1) [Cell.str (bs [])]:=by
    rw[List.set_append_right _ _ (by simp)]
    simp[List.replicate_succ]
   rw[hset]
   have h6:sides r=r.take i::sides (r.drop (i+2)):=by
    rw[sides,h2]
    rfl
   have:=ih (r.drop (i+2)) (done++[r.take i]) n (by omega) (by simp;omega) (by simp;omega) (by rw[hsp,h6];simp) (by omega) k m
   rw[show(done++[r.take i]).length=done.length+1 by simp] at this
   exact this
 have hmin:(if IntKind.i64.wrap ((s.length:Int)+1) < IntKind.i64.wrap (((Lib.count s oo:Nat):Int)+1) then IntKind.i64.wrap ((s.length:Int)+1) else IntKind.i64.wrap (((Lib.count s oo:Nat):Int)+1))=((Lib.count s oo+1:Nat):Int):=by
  rw[qae (by omega),qae (by omega),if_neg (by omega)]
 have z:=loop (Lib.count s oo) s [] (Lib.count s oo+1+1) rfl (by simp) (Nat.le_refl _) (by simp) (by omega) (Lib.count s oo+1+1) (Lib.count s oo+1+1)
 refine qud (Lib.count s oo+1) ?_
 ·simp only[fel]
  rw[show((-1:Int)==0)=false from rfl,cond_false]
  simp only[qdz]
  rw[show((oo:Str)==[])=false from rfl,cond_false,show decide ((-1:Int) < 0)=true from rfl,cond_true]
  simp only[qmj s hs,EV0,hmin]
  rw[if_pos ⟨by omega,by omega,by unfold bound;omega,by unfold bound;omega⟩]
  rw[show IntKind.i64.wrap (((Lib.count s oo+1:Nat):Int) - 1)=((Lib.count s oo:Nat):Int) from qcw (by omega)]
  simpa[qdd] using z
theorem qno (s:Str)(hs:s.length≤1073741824):Fresh qfu true 2 [.one (Cell.str (bs s)),.one (Cell.str (bs oo))] [.one (trL 1 qbx (sides s))]:=by
 have hg:GrowAt ([]:List Entry).length 1 (.vs 0 1 0 (Lib.count s oo+1) 0) [Entry.mk 1 ((sides s).map eStr) 0 false] ((sides s).map eStr):=.inr ⟨0,by rw[List.length_map,qkv s.length s (Nat.le_refl _)];rfl,rfl⟩
 obtain⟨ids,r1,r2,_⟩:=hg.list
 refine Fresh.tailO (Fresh.one (qjt s hs) r1 r2) [] (qaz _ _ _) fun c' E hc=>qvg 0 ?_
 simp only[fei,hc,EV0]
theorem qdzb {α:Type}{sz:Nat}{e:α→List Cell}[CanonE e](f:Bool)(xs:List α)(H:List Entry):qal false H (.one (.lst f sz (xs.map e)))=some (.one (encL sz e xs)):=by
 have h:=(inferInstance:Canon (encL sz e xs)).nrm
 have e':norm (.lst f sz (xs.map e))=norm (encL sz e xs):=by simp only[encL,norm]
 show((some (norm (.lst f sz (xs.map e)))).map AV.one)=_
 rw[e',h]
 rfl
theorem c_fej (s:Str)(hs:s.length≤1073741824):out qeeb [.one (Cell.str (bs s)),.one (Cell.str (bs [32]))]=some [.one (Cell.str (bs (trim s)))]:=by
 have key:∀ t:Str,(t.reverse.dropWhile (·==32)).reverse=qapb t:=by
  intro t
  generalize hn:t.length=n
  induction n generalizing t with
  | zero=>
   have:t=[]:=List.eq_nil_of_length_eq_zero hn
   subst this
   rfl
  | succ n ih=>
   obtain⟨u,y,rfl⟩:∃ u y,t=u++[y]:=by
    have hne:t≠[]:=fun h=>by rw[h] at hn;simp at hn
    exact⟨t.dropLast,t.getLast hne,(List.dropLast_concat_getLast hne).symm⟩
   by_cases hy:y=32
   ·subst hy
    rw[qkwb,← ih u (by simpa using hn)]
    simp
   ·rw[qlib u y hy]
    simp[hy]
 refine qbw (H:=[]) ?_
 show qjm _ _=_
 have e:qjm [.one (.sc (.string (bs s))),.one (.sc (.string (bs [32])))] []=if (32:UInt8).toNat < 128∧(bs s).size≤9223372036854775807 then some ([.one (.sc (.string ⟨(Lib.trimB (bs s).data.toList 32).toArray⟩))],[]) else none:=rfl
 rw[e,if_pos ⟨by decide,by rw[qee];omega⟩,qjc]
 unfold Lib.trimB Lib.trimLeftB Lib.trimRightB
 rw[key]
 rfl
def okV (v:MVer):Prop:=(0≤v.A∧v.A≤9999)∧(0≤v.B∧v.B≤9999)∧(0≤v.C∧v.C≤9999)∧v.Pre.length≤3∧∀ x∈v.Pre,x.length≤8
theorem qjfb {s:Str}(h:(qai s).2=true):quu (qai s).1=true:=by
 unfold qai at h ⊢
 split at h<;>try (simp at h;done)
 split at h<;>try (simp at h;done)
 split at h<;>try (simp at h;done)
 rename_i hk
 simp only[quu]
 rw[if_pos hk]
 exact hk
theorem qrzb {x:Str}{p:MVer×Nat}(h:oneV x=some p):okV p.1∧p.2=1:=by
 unfold oneV at h
 split at h
 ·rename_i a ha
  have:=(qcf ha).2.1
  simp only[Option.some.injEq] at h
  subst h
  exact⟨⟨by simp only;omega,by simp,by simp,by simp,by simp⟩,rfl⟩
 ·simp at h
theorem qewc {x y:Str}{p:MVer×Nat}(h:twoV x y=some p):okV p.1∧p.2=2:=by
 unfold twoV at h
 split at h
 ·rename_i a b ha hb
  have h1:=(qcf ha).2.1
  have h2:=(qcf hb).2.1
  simp only[Option.some.injEq] at h
  subst h
  exact⟨⟨by simp only;omega,by simp only;omega,by simp,by simp,by simp⟩,rfl⟩
 ·simp at h
theorem qftb {s:Str}{p:MVer×Nat}(h:partOf s=some p):okV p.1∧(1≤p.2∧p.2≤3):=by
 unfold partOf at h
 split at h
 ·rename_i hk
  simp only[Option.some.injEq] at h
  subst h
  have:=qadb (qjfb hk)
  exact⟨this,by simp⟩
 ·unfold numsOf at h
  split at h
  ·obtain⟨h1,h2⟩:=qrzb h
   exact⟨h1,by omega⟩
  ·split at h
   ·obtain⟨h1,h2⟩:=qrzb h
    exact⟨h1,by omega⟩
   ·obtain⟨h1,h2⟩:=qewc h
    exact⟨h1,by omega⟩
  ·split at h
   ·split at h
    ·obtain⟨h1,h2⟩:=qrzb h
     exact⟨h1,by omega⟩
    ·obtain⟨h1,h2⟩:=qewc h
     exact⟨h1,by omega⟩
   ·simp at h
  ·simp at h
def okB (v:MVer):Prop:=(0≤v.A∧v.A≤10000)∧(0≤v.B∧v.B≤10000)∧(0≤v.C∧v.C≤10000)∧v.Pre.length≤3∧∀ x∈v.Pre,x.length≤8
theorem okB_bd {v:MVer}(h:okB v):v.Bd 1048576:=by
 obtain⟨h1,h2,h3,h4,h5⟩:=h
 exact⟨by simp only[bdI];omega,by simp only[bdI];omega,by simp only[bdI];omega,by omega,fun x hx=>by have:=h5 x hx;simp only[bdS];omega⟩
theorem okV_B {v:MVer}(h:okV v):okB v:=by
 obtain⟨h1,h2,h3,h4,h5⟩:=h
 exact⟨by omega,by omega,by omega,h4,h5⟩
theorem qfhc {v:MVer}(h:okV v)(t:Nat):okB (qkb v t):=by
 obtain⟨h1,h2,h3,h4,h5⟩:=h
 unfold qkb
 split<;>exact⟨by simp only;omega,by simp only;omega,by simp only;omega,by simp,by simp⟩
theorem qgjc {v:MVer}(h:okV v)(t:Nat):okB (qjo v t):=by
 obtain⟨h1,h2,h3,h4,h5⟩:=h
 unfold qjo
 split
 ·exact⟨by simp only;omega,by simp only;omega,by simp only;omega,by simp,by simp⟩
 ·split<;>exact⟨by simp only;omega,by simp only;omega,by simp only;omega,by simp,by simp⟩
theorem qmxb {v:MVer}(h:okB v):okB (qml v).v:=by
 obtain⟨h1,h2,h3,h4,h5⟩:=h
 exact⟨h1,h2,h3,by simp[qml],by simp[qml]⟩
theorem qqmb (g:Str){v:MVer}(h:okV v)(t:Nat):(qfw g v t).length≤2∧∀ c∈qfw g v t,okB c.v:=by
 have a:=okV_B h
 have b:=qmxb (qgjc h t)
 have c:=qmxb (qfhc h t)
 have d:=qfhc h t
 unfold qfw
 (repeat' split)<;>exact⟨by simp,by simp[a,b,c,d]⟩
theorem qrxb (w:Str):∀ (r:List Str) (l:List RCmp),qla w r=some l→l.length≤2∧∀ c∈l,okB c.v
 | [],l,h=>by simp[qla] at h
 | g::r,l,h=>by
  unfold qla at h
  split at h
  ·split at h
   ·rename_i p hp
    simp only[Option.some.injEq] at h
    subst h
    exact qqmb g (qftb hp).1 p.2
   ·simp at h
  ·exact qrxb w r l h
theorem qpcc {w:Str}{l:List RCmp}(h:qacb w=some l):l.length≤2∧∀ c∈l,okB c.v:=by
 unfold qacb at h
 split at h
 ·simp only[Option.some.injEq] at h
  subst h
  exact⟨by simp,by simp[zeroV,okB]⟩
 ·exact qrxb w signs l h
theorem qsqb (L:List RCmp)(f:Bool)(H:List Entry):mapO (qal false H) [.one (.lst f 5 (L.map eCmp))]=some [.one (encL 5 eCmp L)]:=
 qbb (qdzb f L H) (qas _)
theorem w1 {a:Int}(h:0≤a∧a≤9999):IntKind.i64.wrap (a+1)=a+1:=wrap_small (by omega) (by omega)
theorem qtk (a b c:Int)(H:List Entry):mapO (qal false H) [.agg [Cell.int a,Cell.int b,Cell.int c,.lst true 1 []]]=some [.agg [Cell.int a,Cell.int b,Cell.int c,qax []]]:=rfl
theorem c_fat (v:MVer):outL qle [.agg [Cell.int v.A,Cell.int v.B,Cell.int v.C,qax v.Pre]]=some [.agg [Cell.int 1,Cell.int v.A,Cell.int v.B,Cell.int v.C,qax [[48]]]]:=
 qbz (H:=[]) (qseb 0 rfl) rfl
theorem nEq (t n:Nat):((t:Int)==(n:Int))=decide (t=n):=by rw[Bool.eq_iff_iff];simp only[beq_iff_eq,decide_eq_true_eq];omega
theorem i_ne (a:Int):(a != 0)=decide (a≠0):=by rw[Bool.eq_iff_iff];simp
theorem qza (v:MVer)(hv:okV v)(t:Nat):cond (v.A != 0)
 (some ([AV.agg [Cell.int (IntKind.i64.wrap (v.A+1)),Cell.int 0,Cell.int 0,.lst true 1 []]],([]:List Entry)))
 (cond ((t:Int)==1)
 (some ([.agg [Cell.int (IntKind.i64.wrap (v.A+1)),Cell.int 0,Cell.int 0,.lst true 1 []]],[]))
 (cond (v.B != 0)
 (some ([.agg [Cell.int 0,Cell.int (IntKind.i64.wrap (v.B+1)),Cell.int 0,.lst true 1 []]],[]))
 (cond ((t:Int)==2)
 (some ([.agg [Cell.int 0,Cell.int (IntKind.i64.wrap (v.B+1)),Cell.int 0,.lst true 1 []]],[]))
 (some ([.agg [Cell.int 0,Cell.int 0,Cell.int (IntKind.i64.wrap (v.C+1)),.lst true 1 []]],[])))))=some ([.agg [Cell.int (qjo v t).A,Cell.int (qjo v t).B,Cell.int (qjo v t).C,.lst true 1 []]],[])∧(qjo v t).Pre=[]:=by
 rw[w1 hv.1,w1 hv.2.1,w1 hv.2.2.1,i_ne,i_ne,show((t:Int)==1)=decide (t=1) from nEq t 1,show((t:Int)==2)=decide (t=2) from nEq t 2]
 unfold qjo
 by_cases h1:v.A≠0
 ·rw[decide_eq_true h1,cond_true,if_pos (.inl h1)]
  exact⟨rfl,rfl⟩
 ·rw[decide_eq_false h1,cond_false]
  by_cases h2:t=1
  ·rw[decide_eq_true h2,cond_true,if_pos (.inr h2)]
   exact⟨rfl,rfl⟩
  ·rw[decide_eq_false h2,cond_false,if_neg (fun h=>h.elim h1 h2)]
   by_cases h3:v.B≠0
   ·rw[decide_eq_true h3,cond_true,if_pos (.inl h3)]
    exact⟨rfl,rfl⟩
   ·rw[decide_eq_false h3,cond_false]
    by_cases h4:t=2
    ·rw[decide_eq_true h4,cond_true,if_pos (.inr h4)]
     exact⟨rfl,rfl⟩
    ·rw[decide_eq_false h4,cond_false,if_neg (fun h=>h.elim h3 h4)]
     exact⟨rfl,rfl⟩
theorem qhpb (v:MVer)(hv:okV v)(t:Nat):cond ((t:Int)==1)
 (some ([AV.agg [Cell.int (IntKind.i64.wrap (v.A+1)),Cell.int 0,Cell.int 0,.lst true 1 []]],([]:List Entry)))
 (some ([.agg [Cell.int v.A,Cell.int (IntKind.i64.wrap (v.B+1)),Cell.int 0,.lst true 1 []]],[]))=some ([.agg [Cell.int (qkb v t).A,Cell.int (qkb v t).B,Cell.int (qkb v t).C,.lst true 1 []]],[])∧(qkb v t).Pre=[]:=by
 rw[w1 hv.1,w1 hv.2.1,show((t:Int)==1)=decide (t=1) from nEq t 1]
 unfold qkb
 by_cases h2:t=1
 ·rw[decide_eq_true h2,cond_true,if_pos h2]
  exact⟨rfl,rfl⟩
 ·rw[decide_eq_false h2,cond_false,if_neg h2]
  exact⟨rfl,rfl⟩
theorem c_fau (v:MVer)(hv:okV v)(t:Nat):outL qyy [.agg [Cell.int v.A,Cell.int v.B,Cell.int v.C,qax v.Pre],.one (Cell.int t)]=some [.agg [Cell.int (qjo v t).A,Cell.int (qjo v t).B,Cell.int (qjo v t).C,qax (qjo v t).Pre]]:=by
 rw[(qza v hv t).2]
 exact qbz (H:=[]) (qrhb 0 (qza v hv t).1) (qtk _ _ _ _)
theorem c_fbr (v:MVer)(hv:okV v)(t:Nat)(ht:t≤2)(h1:1≤t)(c:Cell)(hc:Canon c):outL qjf [.agg [Cell.int v.A,Cell.int v.B,Cell.int v.C,c],.one (Cell.int t)]=some [.agg [Cell.int (qkb v t).A,Cell.int (qkb v t).B,Cell.int (qkb v t).C,qax (qkb v t).Pre]]:=by
 rw[(qhpb v hv t).2]
 refine qbz (H:=[]) (qvu 0 ?_) (qtk _ _ _ _)
 have:=(qhpb v hv t).1
 simp only[fbr]
 rw[← this]
 rcases (by omega:t=1∨t=2) with rfl | rfl<;>rfl
theorem qtf (v:MVer)(hv:okV v):outL qjf [.agg [Cell.int v.A,Cell.int v.B,Cell.int v.C,qax v.Pre],.one (Cell.int 3)]=some [.agg [Cell.int v.A,Cell.int v.B,Cell.int (v.C+1),qax []]]:=by
 refine qbz (H:=[]) (qvu 0 ?_) (qtk _ _ _ _)
 simp only[fbr,w1 hv.2.2.1]
 rfl
theorem strEq (g h:Str):(g==h)=decide (g=h):=by rw[Bool.eq_iff_iff];simp
theorem c_fbu (g:Str)(v:MVer)(hv:okV v)(t:Nat)(h1:1≤t)(h3:t≤3):outL qup [.one (Cell.str (bs g)),.agg [Cell.int v.A,Cell.int v.B,Cell.int v.C,qax v.Pre],.one (Cell.int t)]=some [.one (encL 5 eCmp (qfw g v t))]:=by
 suffices h:∃ xs,fbu (0+1) (0+1) (bs g) v.A v.B v.C (qax v.Pre) t=some (xs,[])∧mapO (qal false []) xs=some [.one (encL 5 eCmp (qfw g v t))] by
  obtain⟨xs,h1,h2⟩:=h
  exact qbz (qnhb 0 h1) h2
 have hz:okV ⟨v.A,v.B,0,[]⟩:=⟨hv.1,hv.2.1,by simp,by simp,by simp⟩
 have hq:callL qjf [.agg [Cell.int v.A,Cell.int v.B,Cell.int 0,.lst true 1 []],.one (Cell.int (if 2 < (t:Int) then 2 else (t:Int)))] []=some ([.agg [Cell.int (qkb v t).A,Cell.int (qkb v t).B,Cell.int (qkb v t).C,qax (qkb v t).Pre]],[]):=by
  have e:qkb ⟨v.A,v.B,0,[]⟩ (if 2 < t then 2 else t)=qkb v t:=by
   by_cases h:2 < t
   ·rw[if_pos h]
    unfold qkb
    rw[if_neg (by omega),if_neg (by omega)]
   ·rw[if_neg h]
    rfl
  have h:=c_fbr ⟨v.A,v.B,0,[]⟩ hz (if 2 < t then 2 else t) (by split<;>omega) (by split<;>omega) (qax []) inferInstance
  rw[e] at h
  have ei:((if 2 < t then 2 else t:Nat):Int)=if 2 < (t:Int) then 2 else (t:Int):=by split<;>split<;>omega
  rw[ei] at h
  rw[qkg]
  have e2:mapO (qal true ([AV.agg [Cell.int v.A,Cell.int v.B,Cell.int 0,.lst true 1 []],.one (Cell.int (if 2 < (t:Int) then 2 else (t:Int)))].foldl qdf [])) [.agg [Cell.int v.A,Cell.int v.B,Cell.int 0,.lst true 1 []],.one (Cell.int (if 2 < (t:Int) then 2 else (t:Int)))]=some [.agg [Cell.int v.A,Cell.int v.B,Cell.int 0,qax []],.one (Cell.int (if 2 < (t:Int) then 2 else (t:Int)))]:=rfl
  rw[e2,Option.bind_some,h]
  rfl
 have hd:decide ((t:Int) < 3)=decide (¬ t=3):=by rw[decide_eq_decide];omega
 obtain⟨N,hn,hN⟩:∃ N:MVer,outL qjf [.agg [Cell.int v.A,Cell.int v.B,Cell.int v.C,qax v.Pre],.one (Cell.int t)]=some [.agg [Cell.int N.A,Cell.int N.B,Cell.int N.C,qax N.Pre]]∧(¬ t=3→N=qkb v t):=by
  by_cases ht:t=3
  ·subst ht
   exact⟨⟨v.A,v.B,v.C+1,[]⟩,qtf v hv,fun h=>absurd rfl h⟩
  ·exact⟨qkb v t,c_fbr v hv t (by omega) h1 _ inferInstance,fun _=>rfl⟩
 simp only[fbu,hn,c_fat N,c_fat (qjo v t),c_fat (qkb v t),c_fau v hv t,hq,hd,strEq,EV0]
 unfold qfw
 by_cases e3:g=[62,61]
 ·rw[decide_eq_true e3,cond_true]
  subst e3
  exact⟨_,rfl,qsqb [⟨4,v⟩] true []⟩
 ·rw[decide_eq_false e3,cond_false]
  by_cases e4:g=[60]
  ·rw[decide_eq_true e4,cond_true]
   subst e4
   exact⟨_,rfl,qsqb [⟨1,v⟩] true []⟩
  ·rw[decide_eq_false e4,cond_false]
   by_cases e5:g=[62]
   ·rw[decide_eq_true e5,cond_true,if_neg (by rw[e5];decide),if_neg (by rw[e5];decide),if_neg e3,if_pos e5]
    by_cases ht:t=3
    ·rw[decide_eq_false (fun h=>h ht),cond_false,if_pos ht]
     exact⟨_,rfl,qsqb [⟨3,v⟩] true []⟩
    ·rw[decide_eq_true ht,cond_true,if_neg ht,hN ht]
     exact⟨_,rfl,qsqb [⟨4,qkb v t⟩] true []⟩
   ·rw[decide_eq_false e5,cond_false]
    by_cases e6:g=[60,61]
    ·rw[decide_eq_true e6,cond_true,if_neg (by rw[e6];decide),if_neg (by rw[e6];decide),if_neg e3,if_neg e5,if_pos e6]
     by_cases ht:t=3
     ·rw[decide_eq_false (fun h=>h ht),cond_false,if_pos ht]
      exact⟨_,rfl,qsqb [⟨2,v⟩] true []⟩
     ·rw[decide_eq_true ht,cond_true,if_neg ht,hN ht]
      exact⟨_,rfl,qsqb [qml (qkb v t)] true []⟩
    ·rw[decide_eq_false e6,cond_false]
     by_cases e2:g=[126]
     ·rw[decide_eq_true e2,cond_true,if_neg (by rw[e2];decide),if_pos e2]
      exact⟨_,rfl,qsqb [⟨4,v⟩,qml (qkb v t)] true []⟩
     ·rw[decide_eq_false e2,cond_false]
      by_cases e1:g=[94]
      ·rw[decide_eq_true e1,cond_true,if_pos e1]
       exact⟨_,rfl,qsqb [⟨4,v⟩,qml (qjo v t)] true []⟩
      ·rw[decide_eq_false e1,cond_false,if_neg e1,if_neg e2,if_neg e3,if_neg e5,if_neg e6,if_neg e4]
       by_cases ht:t=3
       ·rw[decide_eq_false (fun h=>h ht),cond_false,if_pos ht]
        exact⟨_,rfl,qsqb [⟨0,v⟩] true []⟩
       ·rw[decide_eq_true ht,cond_true,if_neg ht,hN ht]
        exact⟨_,rfl,qsqb [⟨4,v⟩,qml (qkb v t)] true []⟩
theorem qcpd {i:Nat}{g:Str}(h:signs[i]?=some g):cS [Cell.str (bs [94]),Cell.str (bs [126]),Cell.str (bs [62,61]),Cell.str (bs [62]),Cell.str (bs [60,61]),Cell.str (bs [60]),Cell.str (bs [61]),Cell.str (bs [])] i=some (bs g):=by
 have hlt:i < 8:=(List.getElem?_eq_some_iff.1 h).1
 rcases (by omega:i=0∨i=1∨i=2∨i=3∨i=4∨i=5∨i=6∨i=7) with rfl | rfl | rfl | rfl | rfl | rfl | rfl | rfl<;>
  (simp only[signs,List.getElem?_cons_succ,List.getElem?_cons_zero,Option.some.injEq] at h;subst h;rfl)
theorem qyub {g w:Str}(h:g.isPrefixOf w=true):qyxc g w=w.drop g.length:=by
 unfold qyxc
 rw[h]
 rfl
theorem qlxb {ws:List Str}{a c:Str}(h:qtdc ws=some (a,c)):ws=[a,[45],c]:=by
 unfold qtdc at h
 split at h
 ·split at h
  ·rename_i hb
   simp only[Option.some.injEq,Prod.mk.injEq] at h
   rw[hb,h.1,h.2]
  ·simp at h
 ·simp at h
theorem qiic (H:List Entry)(l:List RCmp):qah H 5 (encL 5 eCmp l)=some (l.map eCmp):=by simp[qah,rowsOf,encL]
def resP:Option (MVer×Nat)→List AV | some (v,t)=>[.agg [Cell.int v.A,Cell.int v.B,Cell.int v.C,.lst true 1 []],.one (Cell.int t),.one (Cell.bool true)] | none=>[.agg [Cell.int 0,Cell.int 0,Cell.int 0,.lst true 1 []],.one (Cell.int 0),.one (Cell.bool false)]
theorem qolb {l:List Str}{p:MVer×Nat}(h:numsOf l=some p):p.1.Pre=[]:=by
 have one:∀ x p,oneV x=some p→p.1.Pre=[]:=fun x p h=>by
  unfold oneV at h
  split at h
  ·simp only[Option.some.injEq] at h
   subst h
   rfl
  ·simp at h
 have two:∀ x y p,twoV x y=some p→p.1.Pre=[]:=fun x y p h=>by
  unfold twoV at h
  split at h
  ·simp only[Option.some.injEq] at h
   subst h
   rfl
  ·simp at h
 unfold numsOf at h
 split at h
 ·exact one _ _ h
 ·split at h
  ·exact one _ _ h
  ·exact two _ _ _ h
 ·split at h
  ·split at h
   ·exact one _ _ h
   ·exact two _ _ _ h
  ·simp at h
 ·simp at h
theorem c_fbs (s:Str)(hs:s.length≤1048576):∃ (w:MVer) (t:Nat),outL qxo [.one (Cell.str (bs s))]=some [.agg [Cell.int w.A,Cell.int w.B,Cell.int w.C,qax w.Pre],.one (Cell.int t),.one (Cell.bool (partOf s).isSome)]∧∀ p,partOf s=some p→p=(w,t):=by
 have hM:=qag
 obtain⟨cs,E,i2,e2,r2,w2,_⟩:=qrgb (f_fal s hs) ([]:List Entry) (qaz [.one (Cell.str (bs s))] _ _)
 obtain⟨c6,rfl⟩:=MVer.open r2
 rw[List.nil_append] at e2 r2
 cases hk:(qai s).2 with
 | true=>
  have hp:partOf s=some ((qai s).1,3):=by unfold partOf;rw[if_pos hk]
  refine⟨(qai s).1,3,?_,fun p h=>by rw[hp] at h;exact(Option.some.inj h).symm⟩
  have hr:=qsy r2 (by omega)
  simp only[MVer.tr,List.map_cons,List.map_nil,qem,qck] at hr
  refine qbz (H:=E) (xs:=[.agg [Cell.int (qai s).1.A,Cell.int (qai s).1.B,Cell.int (qai s).1.C,c6],.one (Cell.int ((3:Nat):Int)),.one (Cell.bool (partOf s).isSome)]) (qqb 0 ?_) (qbb hr (qbb (qam _ _ _) (qbb (qam _ _ _) (qas _))))
  simp only[fbs,e2,hk,hp,EV0]
  rfl
 | false=>
  have hp:partOf s=numsOf (split 46 s):=by unfold partOf;rw[if_neg (by rw[hk];simp)]
  obtain⟨c9,E2,is,e3,r3,w3,_⟩:=qir (qewd s 46 (by omega)) E (qaz [.one (Cell.str (bs s)),.one (Cell.str (bs [46]))] _ _)
  have hl:=qce.of (n:=2) r3
  generalize hH:E++E2=H at e3 r3 hl
  have hlen:∀ x∈split 46 s,x.length≤1073741824:=fun x hx=>by
   have:=(qdj 46 s []).2 x hx
   simp only[List.length_nil,Nat.zero_add] at this
   omega
  have hll:(split 46 s).length≤s.length+1:=(qdj 46 s []).1
  have hne:split 46 s≠[]:=qne _ _
  have hz:mapO (qal false H) [.agg [Cell.int 0,Cell.int 0,Cell.int 0,.lst true 1 []],.one (Cell.int 0),.one (Cell.bool false)]=some [.agg [Cell.int 0,Cell.int 0,Cell.int 0,qax []],.one (Cell.int ((0:Nat):Int)),.one (Cell.bool false)]:=rfl
  have hnum:∀ x:Str,x.length≤1073741824→out qje [.one (Cell.str (bs x)),.one (Cell.int 9999)]=some (numV (qba x 9999)):=fun x hx=>c_faj x 9999 hx (by omega)
  by_cases h3:(split 46 s).length≤3
  ·
   obtain⟨id,off,ep,hc⟩:∃ id off ep,c9=.vs id 1 off (split 46 s).length ep:=by
    rcases r3 with⟨h1,_⟩ | ⟨id,off,ep,e,fr,is',h2,_⟩
    ·exact absurd (by simpa using h1) hne
    ·exact⟨id,off,ep,by simpa using h2⟩
   have hsl:∀ t:Nat,t≤(split 46 s).length→slcC 1 c9 0 (some (t:Int)) none=some (.vs id 1 off t ep):=by
    intro t ht
    rw[hc]
    simp only[slcC,Option.getD_some,Option.getD_none,if_true]
    rw[if_pos ⟨by omega,by omega,by omega,by omega⟩,if_pos (.inl trivial)]
    simp
   have hat:∀ (t i:Nat) (x:Str),i < t→t≤(split 46 s).length→(split 46 s)[i]?=some x→∃ a rw' off',idxA 1 (.vs id 1 off t ep) (i:Int)=some a∧deref H a=some (rw',off')∧cS rw' off'=some (bs x):=by
    intro t i x h1 h2 h4
    obtain⟨a,rw',off',q1,q2,q3⟩:=hl.at h4
    refine⟨a,rw',off',?_,q2,q3⟩
    rw[← q1,hc]
    simp only[idxA,if_true]
    rw[if_pos ⟨by omega,by omega⟩,if_pos ⟨by omega,by omega⟩]
   have one:∀ (x:Str),(split 46 s)[0]?=some x→∀ k m n,qow k m (n+1+1) 1 (.vs id 1 off 1 ep) 1 0 0 0 H=some (resP (oneV x),H):=by
    intro x hx k m n
    obtain⟨a,rw',off',q1,q2,q3⟩:=hat 1 0 x (by omega) (List.length_pos_iff.2 hne) hx
    rw[show((0:Nat):Int)=0 from rfl] at q1
    have hxl:=hlen x (List.mem_of_getElem? hx)
    rw[qow]
    simp only[q1,q2,q3,hnum x hxl,show decide ((0:Int) < 1)=true from rfl,EV0]
    unfold oneV
    cases hq:qba x 9999 with
    | none=>
     simp only[numV,EV0,Bool.not_false]
     rfl
    | some p=>
     simp only[numV,EV0,Bool.not_true]
     rw[if_neg (by omega),if_pos trivial,show IntKind.i64.wrap ((0:Int)+1)=1 from wrap_small (by omega) (by omega)]
     rfl
   have two:∀ (x y:Str),(split 46 s)[0]?=some x→(split 46 s)[1]?=some y→∀ k m n,qow k m (n+1+1+1) 2 (.vs id 1 off 2 ep) 2 0 0 0 H=some (resP (twoV x y),H):=by
    intro x y hx hy k m n
    have hlt:=(List.getElem?_eq_some_iff.1 hy).1
    obtain⟨a,rw',off',q1,q2,q3⟩:=hat 2 0 x (by omega) (by omega) hx
    obtain⟨a',rw2,off2,q4,q5,q6⟩:=hat 2 1 y (by omega) (by omega) hy
    rw[show((0:Nat):Int)=0 from rfl] at q1
    rw[show((1:Nat):Int)=1 from rfl] at q4
    have hxl:=hlen x (List.mem_of_getElem? hx)
    have hyl:=hlen y (List.mem_of_getElem? hy)
    rw[qow]
    simp only[q1,q2,q3,hnum x hxl,show decide ((0:Int) < 2)=true from rfl,EV0]
    unfold twoV
    cases hq:qba x 9999 with
    | none=>
     simp only[numV,EV0,Bool.not_false]
     rfl
    | some p=>
     simp only[numV,EV0,Bool.not_true]
     rw[if_neg (by omega),if_pos trivial,show IntKind.i64.wrap ((0:Int)+1)=1 from wrap_small (by omega) (by omega),qow]
     simp only[q4,q5,q6,hnum y hyl,show decide ((1:Int) < 2)=true from rfl,EV0]
     cases hq2:qba y 9999 with
     | none=>
      simp only[numV,EV0,Bool.not_false]
      rfl
     | some p2=>
      simp only[numV,EV0,Bool.not_true]
      rw[if_pos trivial,show IntKind.i64.wrap ((1:Int)+1)=2 from wrap_small (by omega) (by omega)]
      rfl
   have w0:∀ t:Nat,1≤t→t≤3→IntKind.i64.wrap ((t:Int) - 1)=((t - 1:Nat):Int):=fun t h1 h2=>by rw[wrap_small (by omega) (by omega)];omega
   have xe:∀ z:Str,(z==[120])=decide (z=xS):=fun z=>strEq z xS
   have l0a:∀ (x:Str),(split 46 s)[0]?=some x→∀ k m n,qqr k (m+3) (n+1) c9 1 H=some (resP (oneV x),H):=by
    intro x hx k m n
    rw[qqr]
    rw[show decide ((1:Int) > 1)=false from rfl,cond_false,show decide ((1:Int) > 2)=false from rfl,cond_false,show(some (1:Int))=some ((1:Nat):Int) from rfl,hsl 1 (List.length_pos_iff.2 hne)]
    simp only[EV0,lenC]
    exact one x hx k (m+3) (m+1)
   have l0b:∀ (x y:Str),(split 46 s)[0]?=some x→(split 46 s)[1]?=some y→∀ k m n,qqr k (m+3) (n+1+1) c9 2 H=some (resP (if y=xS then oneV x else twoV x y),H):=by
    intro x y hx hy k m n
    have hlt:=(List.getElem?_eq_some_iff.1 hy).1
    obtain⟨a',rw2,off2,q4,q5,q6⟩:=hat (split 46 s).length 1 y (by omega) (by omega) hy
    rw[← hc] at q4
    rw[show((1:Nat):Int)=1 from rfl] at q4
    have ww:IntKind.i64.wrap ((2:Int) - 1)=1:=w0 2 (by omega) (by omega)
    rw[qqr]
    rw[show decide ((2:Int) > 1)=true from rfl,cond_true,ww]
    simp only[q4,q5,q6,xe,EV0]
    by_cases h:y=xS
    ·rw[decide_eq_true h,cond_true,if_pos h]
     exact l0a x hx k m n
    ·rw[decide_eq_false h,cond_false,if_neg h,show decide ((2:Int) > 2)=false from rfl,cond_false,show(some (2:Int))=some ((2:Nat):Int) from rfl,hsl 2 (by omega)]
     simp only[EV0,lenC]
     exact two x y hx hy k (m+3) m
   have fin:∀ k m n,qqr k (m+3) (n+1+1+1) c9 (split 46 s).length H=some (resP (numsOf (split 46 s)),H):=by
    intro k m n
    have hcs:(∃ x,split 46 s=[x])∨(∃ x y,split 46 s=[x,y])∨∃ x y z,split 46 s=[x,y,z]:=by
     match hq:split 46 s,h3,hne with
     | [x],_,_=>exact .inl ⟨x,rfl⟩
     | [x,y],_,_=>exact .inr (.inl ⟨x,y,rfl⟩)
     | [x,y,z],_,_=>exact .inr (.inr ⟨x,y,z,rfl⟩)
     | _::_::_::_::_,h5,_=>simp at h5
    rcases hcs with⟨x,hL⟩ | ⟨x,y,hL⟩ | ⟨x,y,z,hL⟩
    ·have z1:=l0a x (by rw[hL];rfl) k m (n+1+1)
     rw[hL]
     exact z1
    ·have z1:=l0b x y (by rw[hL];rfl) (by rw[hL];rfl) k m (n+1)
     rw[hL]
     exact z1
    ·have z1:=l0b x y (by rw[hL];rfl) (by rw[hL];rfl) k m n
     obtain⟨a',rw2,off2,q4,q5,q6⟩:=hat (split 46 s).length 2 z (by rw[hL];simp) (by omega) (by rw[hL];rfl)
     rw[← hc] at q4
     rw[show((2:Nat):Int)=2 from rfl] at q4
     have ww:IntKind.i64.wrap ((3:Int) - 1)=2:=w0 3 (by omega) (by omega)
     rw[hL,qqr]
     rw[show(([x,y,z]:List Str).length:Int)=3 from rfl,show decide ((3:Int) > 1)=true from rfl,cond_true,ww]
     simp only[q4,q5,q6,xe,EV0,numsOf]
     by_cases h:z=xS
     ·rw[decide_eq_true h,cond_true,if_pos h]
      exact z1
     ·rw[decide_eq_false h,cond_false,if_neg h]
      rfl
   have hrun:∀ k m,fbs k (m+3) (bs s)=some (resP (numsOf (split 46 s)),H):=by
    intro k m
    simp only[fbs,e2,hk,e3,hl.len,EV0]
    rw[decide_eq_false (by omega),cond_false]
    exact fin k m m
   rw[hp]
   have z1:=qqb 2 (hrun (2+1) 0)
   cases hq:numsOf (split 46 s) with
   | none=>
    rw[hq] at z1
    exact⟨⟨0,0,0,[]⟩,0,qbz z1 hz,fun p h=>by simp at h⟩
   | some p=>
    obtain⟨v,t⟩:=p
    rw[hq] at z1
    have hpre:=qolb hq
    simp only at hpre
    refine⟨v,t,qbz z1 ?_,fun p h=>by simp only[Option.some.injEq] at h;exact h.symm⟩
    rw[hpre]
    rfl
  ·have hno:numsOf (split 46 s)=none:=by
    match h:split 46 s with
    | []=>rfl
    | [x]=>rw[h] at h3;simp at h3
    | [x,y]=>rw[h] at h3;simp at h3
    | [x,y,z]=>rw[h] at h3;simp at h3
    | _::_::_::_::_=>rfl
   rw[hp,hno]
   refine⟨⟨0,0,0,[]⟩,0,qbz (H:=H) (qqb 0 ?_) hz,fun p h=>by simp at h⟩
   simp only[fbs,e2,hk,e3,hl.len,EV0]
   rw[decide_eq_true (by omega),cond_true]
theorem c_faw (w:Str)(hw:w.length≤1048576):outL qxv [.one (Cell.str (bs w))]=some [.one (encL 5 eCmp ((qacb w).getD [])),.one (Cell.bool (qacb w).isSome)]:=by
 have hM:=qag
 have hz:mapO (qal false []) [.one (.lst true 5 []),.one (Cell.bool false)]=some [.one (encL 5 eCmp []),.one (Cell.bool false)]:=rfl
 have loop:∀ (r:List Str) (i n:Nat),signs.drop i=r→r.length < n→∀ k m,∃ xs,qzu k m n (bs w) i=some (xs,[])∧mapO (qal false []) xs=some [.one (encL 5 eCmp ((qla w r).getD [])),.one (Cell.bool (qla w r).isSome)]:=by
  intro r
  induction r with
  | nil=>
   intro i n hd hn k m
   obtain⟨n,rfl⟩:∃ j,n=j+1:=⟨n - 1,by omega⟩
   have:=drop_nil hd
   simp only[signs,List.length_cons,List.length_nil] at this
   simp only[qzu]
   rw[decide_eq_false (by omega),cond_false]
   exact⟨_,rfl,hz⟩
  | cons g r ih=>
   intro i n hd hn k m
   obtain⟨n,rfl⟩:∃ j,n=j+1:=⟨n - 1,by omega⟩
   obtain⟨hlt,hg,hd'⟩:=qaq hd
   simp only[signs,List.length_cons,List.length_nil] at hlt
   simp only[List.length_cons] at hn
   have hsg:=qcpd hg
   simp only[qzu]
   rw[decide_eq_true (by omega),cond_true,if_pos ⟨by omega,by omega⟩,Int.toNat_natCast,Nat.mul_one,hsg]
   simp only[c_fef,EV0]
   obtain⟨xs,z1,z2⟩:=ih (i+1) n hd' (by omega) k m
   by_cases hp:g.isPrefixOf w=true
   ·rw[hp,Bool.not_true,cond_false,qyub hp]
    obtain⟨v,t,q1,q2⟩:=c_fbs (w.drop g.length) (by simp;omega)
    simp only[q1,EV0,qqvb,qqtb]
    have hgo:qla w (g::r)=match partOf (w.drop g.length) with | some p=>some (qfw g p.1 p.2) | none=>none:=by
     rw[qla,if_pos hp]
    cases hpo:partOf (w.drop g.length) with
    | none=>
     rw[hpo] at hgo
     rw[hgo]
     simp only[Option.isSome_none,Bool.not_false,cond_true]
     exact⟨_,rfl,hz⟩
    | some p=>
     have e:=q2 p hpo
     subst e
     rw[hpo] at hgo
     rw[hgo]
     have hok:=qftb hpo
     simp only[Option.isSome_some,Bool.not_true,cond_false,c_fbu g v hok.1 t hok.2.1 hok.2.2,EV0]
     exact⟨_,rfl,qaz [.one (encL 5 eCmp (qfw g v t)),.one (Cell.bool true)] _ _⟩
   ·have hgo:qla w (g::r)=qla w r:=by rw[qla,if_neg hp]
    rw[hgo,show g.isPrefixOf w=false from Bool.eq_false_iff.2 hp,Bool.not_false,cond_true,qae (by omega)]
    exact⟨xs,z1,z2⟩
 by_cases h42:w=[42]
 ·subst h42
  refine qbz (H:=[]) (qun 0 ?_) (show mapO (qal false []) [.one (.lst true 5 [[Cell.int 4,Cell.int 0,Cell.int 0,Cell.int 0,.lst true 1 []]]),.one (Cell.bool true)]=some [.one (encL 5 eCmp [⟨4,zeroV⟩]),.one (Cell.bool true)] from rfl)
  have hrun:∀ q,faw q q (bs [42])=some ([.one (.lst true 5 [[Cell.int 4,Cell.int 0,Cell.int 0,Cell.int 0,.lst true 1 []]]),.one (Cell.bool true)],[]):=by
   intro q
   simp only[faw,qdz,beq_self_eq_true,cond_true]
  exact hrun _
 ·have hc:qacb w=qla w signs:=by unfold qacb;rw[if_neg h42]
  rw[hc]
  obtain⟨xs,z1,z2⟩:=loop signs 0 10 rfl (by simp[signs]) (9+1) (9+1)
  have hrun:∀ q,faw q q (bs w)=qzu q q q (bs w) 0:=by
   intro q
   simp only[faw,qdz]
   rw[show(w==[42])=false by simpa using h42,cond_false]
  exact qbz (qun 9 ((hrun _).trans z1)) z2
theorem qemc {A:List Entry}{sz by':Nat}{c:Cell}{T:List Entry}{rows:List (List Cell)}(h:GrowAt A.length sz c T rows)(ys:List (List Cell))(h1:(rows.length+ys.length)*by'≤bound)(h2:rows.length+ys.length≤bound):
  ∃ d T',app (A++T) sz by' c ys=some (d,A++T')∧GrowAt A.length sz d T' (rows++ys):=by
 rcases h with⟨rfl,rfl,rfl⟩ | ⟨ep,rfl,rfl⟩
 ·cases ys with
  | nil=>exact⟨_,[],by simp[app],.inl ⟨rfl,rfl,rfl⟩⟩
  | cons y ys=>
   refine⟨.vs A.length sz 0 (y::ys).length 0,[Entry.mk sz (y::ys) 0 false],?_,.inr ⟨0,rfl,rfl⟩⟩
   simp only[List.length_nil] at h1 h2
   simp only[app,List.isEmpty_cons,List.length_nil,List.append_nil,List.nil_append]
   rw[if_neg (by simp),if_pos ⟨trivial,.inr trivial,h1,h2⟩]
   simp
 ·refine⟨.vs A.length sz 0 (rows.length+ys.length) (ep+1),[Entry.mk sz (rows++ys) (ep+1) false],?_,.inr ⟨ep+1,by simp,rfl⟩⟩
  have he:entry? (A++[Entry.mk sz rows ep false]) A.length ep=some (Entry.mk sz rows ep false):=by simp[entry?]
  simp only[app,he]
  rw[if_pos ⟨trivial,by simp,.inr trivial,h1,h2⟩]
  simp
theorem GrowAt.readA {α:Type}{A T:List Entry}{sz:Nat}{c:Cell}{e:α→List Cell}[CanonE e]{xs:List α}(h:GrowAt A.length sz c T (xs.map e)):qal false (A++T) (.one c)=some (.one (encL sz e xs)):=by
 rcases h with⟨h1,rfl,rfl⟩ | ⟨ep,rfl,rfl⟩
 ·simp only[List.map_eq_nil_iff] at h1
  subst h1
  exact qdzb (e:=e) true [] _
 ·have q:=qjn (sz:=sz) (chk:=false) (H:=A++[Entry.mk sz (xs.map e) ep false]) (id:=A.length) (ep:=ep) (fr:=false) (e:=e) (xs:=xs) 4194303 (by simp) (by simp)
  simp only[qal,depth,List.length_map,q,Option.map_some]
theorem GrowAt.lenA {α:Type}{A T:List Entry}{sz:Nat}{c:Cell}{e:α→List Cell}{xs:List α}(h:GrowAt A.length sz c T (xs.map e)):lenC c=some xs.length:=by
 rcases h with⟨h1,rfl,rfl⟩ | ⟨ep,rfl,rfl⟩
 ·simp only[List.map_eq_nil_iff] at h1
  subst h1
  rfl
 ·simp
theorem GrowAt.atA {α:Type}{A T:List Entry}{sz:Nat}{c:Cell}{e:α→List Cell}{xs:List α}(h:GrowAt A.length sz c T (xs.map e)){i:Nat}{x:α}(hx:xs[i]?=some x):∃ a,idxA sz c (i:Int)=some a∧deref (A++T) a=some (e x,0):=by
 have hlt:=(List.getElem?_eq_some_iff.1 hx).1
 rcases h with⟨h1,_,_⟩ | ⟨ep,rfl,rfl⟩
 ·simp only[List.map_eq_nil_iff] at h1
  subst h1
  simp at hx
 ·exact⟨.ptr A.length sz i 0 ep,qgu _ _ _ _ _ (by simpa using hlt),by simp[deref,entry?,hx]⟩
def trC (c:RCmp):List Tr:=.leaf (.int .i64 c.op)::c.v.tr
instance:TrE trC eCmp:=⟨fun x=>by simp only[trC,MVer.tr,eCmp,List.map_cons,List.map_nil,qem,qck]⟩
theorem c_fbn (p:Str)(hp:p.length≤1048576):∃ l:List RCmp,outL qum [.one (Cell.str (bs p))]=some [.one (encL 5 eCmp l),.one (Cell.bool (qpo p).isSome)]∧∀ q,qpo p=some q→q=l:=by
 have hM:=qag
 have htl:=qszc p
 have hspl:=qdj 32 (trim p) []
 have hwl:(split 32 (trim p)).length≤1048577:=by have:=hspl.1;unfold split;omega
 have hww:∀ y∈split 32 (trim p),y.length≤1048576:=fun y hy=>by
  have:=hspl.2 y hy
  simp only[List.length_nil,Nat.zero_add] at this
  omega
 have hlo:qpo p=qheb (split 32 (trim p)):=rfl
 obtain⟨c5,A,ids,e1,r1,w1,_⟩:=qir (qewd (trim p) 32 (by omega)) ([]:List Entry) (qaz [.one (Cell.str (bs (trim p))),.one (Cell.str (bs [32]))] _ _)
 rw[List.nil_append] at e1 r1
 have hl:=qce.of (n:=2) r1
 generalize hws:split 32 (trim p)=ws at e1 r1 hl hwl hww hlo
 have hz:∀ G:List Entry,mapO (qal false G) [.one (.lst true 5 []),.one (Cell.bool false)]=some [.one (encL 5 eCmp []),.one (Cell.bool false)]:=fun G=>rfl
 have l1:∀ (acc:List RCmp) (c:Cell) (T:List Entry),acc.length≤4194304→(∀ x∈acc,okB x.v)→GrowAt A.length 5 c T (acc.map eCmp)→∀ (r:List RCmp) (i n:Nat),acc.drop i=r→r.length < n→∀ k m,
   qbrb k m n c c acc.length i (A++T)=some (cond (r.all (fun c=>quu c.v)) [.one c,.one (Cell.bool (decide (acc.length≤4)))] [.one (.lst true 5 []),.one (Cell.bool false)],A++T):=by
  intro acc c T ha hB hg r
  induction r with
  | nil=>
   intro i n hd hn k m
   obtain⟨n,rfl⟩:∃ j,n=j+1:=⟨n - 1,by omega⟩
   have:=drop_nil hd
   simp only[qbrb,hg.lenA,EV0]
   rw[decide_eq_false (by omega),cond_false,show decide ((acc.length:Int)≤4)=decide (acc.length≤4) by rw[decide_eq_decide];omega]
   rfl
  | cons x r ih=>
   intro i n hd hn k m
   obtain⟨n,rfl⟩:∃ j,n=j+1:=⟨n - 1,by omega⟩
   obtain⟨hlt,hx,hd'⟩:=qaq hd
   simp only[List.length_cons] at hn
   obtain⟨a,q1,q2⟩:=hg.atA hx
   have hxb:=okB_bd (hB x (List.mem_of_getElem? hx))
   simp only[qbrb,q1,q2,eCmp,Nat.zero_add,c_faq x.v.A x.v.B x.v.C x.v.Pre hxb.2.2.2,EV0]
   rw[decide_eq_true (by omega),cond_true,qae (by omega),ih (i+1) n hd' (by omega)]
   simp only[List.all_cons,quu]
   cases qkm x.v.A x.v.B x.v.C x.v.Pre<;>rfl
 have loop:∀ (r:List Str) (i n:Nat) (acc:List RCmp) (c:Cell) (T:List Entry),ws.drop i=r→r.length < n→acc.length≤2*i→i≤ws.length→(∀ x∈acc,okB x.v)→GrowAt A.length 5 c T (acc.map eCmp)→∀ k m,4194304 < m→
   ∃ xs H',qsl k m n c c5 ws.length i (A++T)=some (xs,H')∧∃ (l:List RCmp) (b:Bool),mapO (qal false H') xs=some [.one (encL 5 eCmp l),.one (Cell.bool b)]∧
    match qmi r acc with | some q=>b=decide (q.length≤4∧q.all (fun c=>quu c.v)=true)∧(b=true→l=q) | none=>b=false:=by
  intro r
  induction r with
  | nil=>
   intro i n acc c T hd hn ha hi hB hg k m hm
   obtain⟨n,rfl⟩:∃ j,n=j+1:=⟨n - 1,by omega⟩
   have:=drop_nil hd
   simp only[qsl,hg.lenA,EV0]
   rw[decide_eq_false (by omega),cond_false]
   have z:=l1 acc c T (by omega) hB hg acc 0 m rfl (by omega) k m
   rw[show((0:Nat):Int)=0 from rfl] at z
   rw[z,qmi]
   cases hall:acc.all (fun c=>quu c.v) with
   | true=>exact⟨_,_,rfl,acc,decide (acc.length≤4),qbb hg.readA (qbb (qam _ _ _) (qas _)),by simp only[hall,and_true],fun _=>rfl⟩
   | false=>exact⟨_,_,rfl,[],false,hz _,by rw[hall];simp,by simp⟩
  | cons x r ih=>
   intro i n acc c T hd hn ha hi hB hg k m hm
   obtain⟨n,rfl⟩:∃ j,n=j+1:=⟨n - 1,by omega⟩
   obtain⟨hlt,hx,hd'⟩:=qaq hd
   simp only[List.length_cons] at hn
   have hxl:=hww x (List.mem_of_getElem? hx)
   obtain⟨a,rw',off',q1,q2,q3⟩:=(hl.frame (H':=A++T) fun j hj=>List.getElem?_append_left (r1.lt j hj)).at hx
   simp only[qsl,q1,q2,q3,c_faw x hxl,EV0]
   rw[decide_eq_true (by omega),cond_true]
   cases hq:qacb x with
   | none=>
    rw[qmi,hq]
    simp only[Option.isSome_none,Bool.not_false,cond_true]
    exact⟨_,_,rfl,[],false,hz _,rfl⟩
   | some q=>
    have hqB:=qpcc hq
    obtain⟨d,T',a1,g1⟩:=qemc (by':=56) hg (q.map eCmp) (by unfold bound;simp only[List.length_map];omega) (by unfold bound;simp only[List.length_map];omega)
    simp only[Option.isSome_some,Option.getD_some,Bool.not_true,cond_false,qiic,a1,Option.bind_some]
    rw[qae (by omega),qmi,hq]
    exact ih (i+1) n (acc++q) d T' hd' (by omega) (by rw[List.length_append];omega) (by omega) (fun y hy=>by
     rcases List.mem_append.1 hy with hy | hy
     ·exact hB y hy
     ·exact hqB.2 y hy) (by simpa using g1) k m hm
 have hcut:∀ k m,fbn k m (bs p)=fbn k m (bs p):=fun _ _=>rfl
 cases hh:qtdc ws with
 | some pr=>
  obtain⟨a,c⟩:=pr
  have hw3:=qlxb hh
  subst hw3
  have ha:=hww a (by simp)
  have hcl:=hww c (by simp)
  have hs:qpo p=if (qai a).2&&(qai c).2 then some [⟨4,(qai a).1⟩,⟨2,(qai c).1⟩] else none:=by
   rw[hlo,qheb,hh]
  obtain⟨cs1,E1,i1,e2,r2,w2,_⟩:=qrgb (f_fal a ha) A (qaz [.one (Cell.str (bs a))] _ _)
  obtain⟨c17,rfl⟩:=MVer.open r2
  obtain⟨cs2,E2,i2,e3,r3,w3,_⟩:=qrgb (f_fal c hcl) (A++E1) (qaz [.one (Cell.str (bs c))] _ _)
  obtain⟨c26,rfl⟩:=MVer.open r3
  obtain⟨a0,rw0,off0,q1,q2,q3⟩:=hl.at (i:=0) (s:=a) rfl
  obtain⟨a1,rw1,off1,q4,q5,q6⟩:=hl.at (i:=1) (s:=[45]) rfl
  obtain⟨a2,rw2,off2,q7,q8,q9⟩:=(hl.frame (H':=A++E1) fun j hj=>List.getElem?_append_left (r1.lt j hj)).at (i:=2) (s:=c) rfl
  rw[show((0:Nat):Int)=0 from rfl] at q1
  rw[show((1:Nat):Int)=1 from rfl] at q4
  rw[show((2:Nat):Int)=2 from rfl] at q7
  generalize hG:A++E1++E2=G at e3 r3
  have r2':=Rep.app2 E2 r2
  rw[hG] at r2'
  have s1:Sp (Rep (G++[Entry.mk 5 [[Cell.int 4,Cell.int (qai a).1.A,Cell.int (qai a).1.B,Cell.int (qai a).1.C,c17],[Cell.int 2,Cell.int (qai c).1.A,Cell.int (qai c).1.B,Cell.int (qai c).1.C,c26]] 0 false]) true true 2) ([]++i1) [Cell.int 4,Cell.int (qai a).1.A,Cell.int (qai a).1.B,Cell.int (qai a).1.C,c17] (trC ⟨4,(qai a).1⟩):=
   Sp.cons (i:=[]) (qdh _) (Rep.app2 _ r2')
  have s2:Sp (Rep (G++[Entry.mk 5 [[Cell.int 4,Cell.int (qai a).1.A,Cell.int (qai a).1.B,Cell.int (qai a).1.C,c17],[Cell.int 2,Cell.int (qai c).1.A,Cell.int (qai c).1.B,Cell.int (qai c).1.C,c26]] 0 false]) true true 2) ([]++i2) [Cell.int 2,Cell.int (qai c).1.A,Cell.int (qai c).1.B,Cell.int (qai c).1.C,c26] (trC ⟨2,(qai c).1⟩):=
   Sp.cons (i:=[]) (qdh _) (Rep.app2 _ r3)
  have rr:Rep (G++[Entry.mk 5 [[Cell.int 4,Cell.int (qai a).1.A,Cell.int (qai a).1.B,Cell.int (qai a).1.C,c17],[Cell.int 2,Cell.int (qai c).1.A,Cell.int (qai c).1.B,Cell.int (qai c).1.C,c26]] 0 false]) true true 3 (G.length::(([]++i1)++(([]++i2)++[]))) (.vs G.length 5 0 2 0) (trL 5 trC [⟨4,(qai a).1⟩,⟨2,(qai c).1⟩]):=
   .inr ⟨G.length,0,0,_,false,_,rfl,rfl,by simp;rfl,fun _=>rfl,fun _=>⟨rfl,by simp[trL]⟩,by simp[trL],by simp,by
    simp only[List.drop_zero,trL,List.map_cons,List.map_nil,List.length_cons,List.length_nil]
    exact Sp.cons s1 (Sp.cons s2 .nil)⟩
  have hrd:=qhj rr (by omega)
  rw[qck] at hrd
  have hq2:∀ q,qpo p=some q→q=[⟨4,(qai a).1⟩,⟨2,(qai c).1⟩]:=fun q hq=>by
   rw[hs] at hq
   split at hq
   ·exact(Option.some.inj hq).symm
   ·simp at hq
  refine⟨[⟨4,(qai a).1⟩,⟨2,(qai c).1⟩],?_,hq2⟩
  have hb:(qpo p).isSome=((qai a).2&&(qai c).2):=by
   rw[hs]
   rcases Bool.eq_false_or_eq_true ((qai a).2&&(qai c).2) with h | h
   ·rw[if_pos h,h]
    rfl
   ·rw[if_neg (by rw[h];simp),h]
    rfl
  rw[hb]
  refine qbz (qyp 0 ?_) (qbb hrd (qbb (qam (.one (Cell.bool ((qai a).2&&(qai c).2))) _ _) (qas _)))
  simp only[fbn,c_fej p (by omega),e1,hl.len,q1,q2,q3,q4,q5,q6,q7,q8,q9,e2,e3,EV0]
  rw[show(((0+1+1+1:Nat):Int)==3)=true from rfl]
  simp only[cond_true]
  cases (qai a).2<;>rfl
 | none=>
  have hlw:qpo p=listW ws:=by rw[hlo,qheb,hh]
  obtain⟨xs,H',z1,l,b,z2,z3⟩:=loop ws 0 (ws.length+4194304+1) [] (.lst true 5 []) [] rfl (by omega) (by simp) (by omega) (by simp) (.inl ⟨rfl,rfl,rfl⟩) (ws.length+4194304+1) (ws.length+4194304+1) (by omega)
  rw[List.append_nil,show((0:Nat):Int)=0 from rfl] at z1
  have hb:b=(qpo p).isSome∧∀ q,qpo p=some q→q=l:=by
   rw[hlw]
   unfold listW
   cases hq:qmi ws [] with
   | none=>
    rw[hq] at z3
    exact⟨z3,by simp⟩
   | some q=>
    rw[hq] at z3
    obtain⟨h1,h2⟩:=z3
    simp only
    by_cases h4:q.length≤4∧q.all (fun c=>quu c.v)=true
    ·rw[if_pos h4]
     rw[decide_eq_true h4] at h1
     exact⟨by rw[h1];rfl,fun q' h=>by simp only[Option.some.injEq] at h;rw[← h];exact(h2 h1).symm⟩
    ·rw[if_neg h4]
     exact⟨by rw[h1,decide_eq_false h4];rfl,by simp⟩
  rw[← hb.1]
  refine⟨l,qbz (H:=H') (qyp (ws.length+4194304) ?_) z2,hb.2⟩
  have hrun:∀ q,fbn q q (bs p)=qsl q q q (.lst true 5 []) c5 ws.length 0 A:=by
   intro q
   simp only[fbn,c_fej p (by omega),e1,hl.len,EV0]
   by_cases h3:ws.length=3
   ·obtain⟨a,d,e,rfl⟩:∃ a d e,ws=[a,d,e]:=by
     match ws,h3 with
     | [a,d,e],_=>exact⟨a,d,e,rfl⟩
    have hd:(d==[45])=false:=by
     cases h:(d==[45]) with
     | false=>rfl
     | true=>
      have:d=[45]:=by simpa using h
      subst this
      simp[qtdc] at hh
    obtain⟨a1,rw1,off1,q4,q5,q6⟩:=hl.at (i:=1) (s:=d) rfl
    rw[show((1:Nat):Int)=1 from rfl] at q4
    rw[show((([a,d,e]:List Str).length:Int)==3)=true from rfl,cond_true]
    simp only[q4,q5,q6,EV0]
    rw[hd,cond_false]
   ·rw[show((ws.length:Int)==3)=false by rw[beq_eq_false_iff_ne];omega,cond_false]
  exact(hrun _).trans z1
theorem c_fak (s:Str)(hs:s.length≤1048576):outL qwn [.one (Cell.str (bs s))]=some [.one (qpuc ((qec s).getD [])),.one (Cell.bool (qec s).isSome)]:=by
 have hM:=qag
 have hsl:=qho s.length s [] (Nat.le_refl _)
 have hll:(sides s).length≤s.length+1:=hsl.1
 have hel:∀ x∈sides s,x.length≤1048576:=fun x hx=>by
  have:=hsl.2 x hx
  simp only[List.length_nil,Nat.zero_add] at this
  omega
 have hz:∀ G:List Entry,mapO (qal false G) [.one (.lst true 1 []),.one (Cell.bool false)]=some [.one (qpuc []),.one (Cell.bool false)]:=fun G=>rfl
 obtain⟨c3,A,ids,e1,r1,w1,_⟩:=qir (qno s (by omega)) ([]:List Entry) (qaz [.one (Cell.str (bs s)),.one (Cell.str (bs oo))] _ _)
 rw[List.nil_append] at e1 r1
 have hl:=qce.of (n:=2) r1
 have loop:∀ (r:List Str) (i n:Nat) (acc:List (List RCmp)) (c:Cell) (T:List Entry),(sides s).drop i=r→r.length < n→acc.length=i→GrowAt A.length 1 c T (acc.map qsfc)→∀ k m,
   ∃ xs H',qaqb k m n c c3 (sides s).length i (A++T)=some (xs,H')∧
    mapO (qal false H') xs=some [.one (qpuc ((qlc r acc).getD [])),.one (Cell.bool (qlc r acc).isSome)]:=by
  intro r
  induction r with
  | nil=>
   intro i n acc c T hd hn ha hg k m
   obtain⟨n,rfl⟩:∃ j,n=j+1:=⟨n - 1,by omega⟩
   have:=drop_nil hd
   simp only[qaqb]
   rw[decide_eq_false (by omega),cond_false,qlc]
   exact⟨_,_,rfl,qbb hg.readA (qbb (qam _ _ _) (qas _))⟩
  | cons x r ih=>
   intro i n acc c T hd hn ha hg k m
   obtain⟨n,rfl⟩:∃ j,n=j+1:=⟨n - 1,by omega⟩
   obtain⟨hlt,hx,hd'⟩:=qaq hd
   simp only[List.length_cons] at hn
   have hxl:=hel x (List.mem_of_getElem? hx)
   obtain⟨a,rw',off',q1,q2,q3⟩:=(hl.frame (H':=A++T) fun j hj=>List.getElem?_append_left (r1.lt j hj)).at hx
   obtain⟨l,p1,p2⟩:=c_fbn x hxl
   have e5:∀ {β:Type} (l:List RCmp) (κ:List Cell→Option β),restK [encL 5 eCmp l] κ=κ [encL 5 eCmp l]:=fun l κ=>rfl
   have hsrc:∀ (G:List Entry) (l:List RCmp),qah G 1 (.lst true 1 (chunks 1 1 [encL 5 eCmp l]))=some [qsfc l]:=fun G l=>by simp[qah,rowsOf,chunks,qsfc]
   simp only[qaqb,q1,q2,q3,p1,EV0]
   rw[decide_eq_true (by omega),cond_true]
   cases hS:qpo x with
   | none=>
    rw[qlc,hS]
    simp only[Option.isSome_none,Bool.not_false,cond_true]
    exact⟨_,_,rfl,hz _⟩
   | some l'=>
    have:=p2 l' hS
    subst this
    obtain⟨d,T',a1,g1⟩:=qemc (by':=24) hg [qsfc l'] (by unfold bound;simp;omega) (by unfold bound;simp;omega)
    obtain⟨xs,H',z1,z2⟩:=ih (i+1) n (acc++[l']) d T' hd' (by omega) (by simp;omega) (by simpa using g1) k m
    refine⟨xs,H',?_,by rw[qlc,hS];exact z2⟩
    simp only[Option.isSome_some,Bool.not_true,cond_false,e5,hsrc,a1,Option.bind_some]
    rw[qae (by omega)]
    exact z1
 by_cases h4:(sides s).length≤4
 ·obtain⟨xs,H',z1,z2⟩:=loop (sides s) 0 ((sides s).length+1+1) [] (.lst true 1 []) [] rfl (by omega) rfl (.inl ⟨rfl,rfl,rfl⟩) ((sides s).length+1+1) ((sides s).length+1+1)
  rw[List.append_nil,show((0:Nat):Int)=0 from rfl] at z1
  have hp:qec s=qlc (sides s) []:=by unfold qec;rw[if_pos h4]
  rw[hp]
  refine qbz (H:=H') (qvb ((sides s).length+1) ?_) z2
  have hoo:(bs [124,124])=bs oo:=rfl
  simp only[fak,hoo,e1,hl.len,EV0]
  rw[decide_eq_false (by omega),cond_false]
  exact z1
 ·have hp:qec s=none:=by unfold qec;rw[if_neg h4]
  rw[hp]
  refine qbz (H:=A) (qvb 0 ?_) (hz _)
  have hoo:(bs [124,124])=bs oo:=rfl
  simp only[fak,hoo,e1,hl.len,EV0]
  rw[decide_eq_true (by omega),cond_true]
def qrm (most:Nat)(s:Str):Bool:=s.all (fun b=>inR b.toNat 32 126)&&decide (s.length≤most)
def keyI {α:Type}(l:List α)(key:α→Str)(good:α→Bool)(i:Nat):Bool:=
 match l[i]? with
 | some f=>good f&&(decide (i=0)||(match l[i - 1]? with
  | some g=>lt (key g) (key f)
  | none=>true))
 | none=>true
theorem qtz {α:Type}{l:List α}{key:α→Str}{good:α→Bool}{f:α}(h:l[0]?=some f):keyI l key good 0=good f:=by
 unfold keyI
 rw[h]
 simp
theorem qsm {α:Type}{l:List α}{key:α→Str}{good:α→Bool}{i:Nat}{f g:α}(h:l[i+1]?=some f)(hg:l[i]?=some g):keyI l key good (i+1)=(good f&&lt (key g) (key f)):=by
 unfold keyI
 rw[h]
 simp[hg]
def qmjc (c:MCmd):Bool:=c.Acts.all (qrm 40)&&(qgi c.Task&&inR c.Acts.length 1 5)
def qjmb (n:MNeed):Bool:=(qec n.Range).isSome&&(qgi n.Name&&decide (n.Range.length≤20))
def qrr (l:List MNeed):Bool:=(List.range l.length).all (keyI l (·.Name) qjmb)&&decide (l.length≤4)
def qwdc (l:List MCmd):Bool:=(List.range l.length).all (keyI l (·.Task) qmjc)&&decide (l.length≤4)
def qoob (p:MPack):Bool:=qwdc p.Cmds&&(qgi p.Name&&((p.Uses.all qgi&&decide (p.Uses.length≤4))&&(asc p.Uses&&qrr p.Needs)))
def qscc (l:List MPack)(nm u:Str):Bool:=!(u==nm)&&!decide (idxF (fun p:MPack=>p.Name==u) l 0 < 0)
def qpqc (l:List MPack)(i:Nat):Bool:=keyI l (·.Name) qoob i&&(match l[i]? with | some f=>f.Uses.all (qscc l f.Name) | none=>true)
def qxt (l:List MPack):Bool:=(List.range l.length).all (qpqc l)&&decide (l.length≤6)
theorem c_fbl (b:UInt8):out qxx [.one (.sc (.int .u8 (b.toNat:Int)))]=some [.one (Cell.bool (inR b.toNat 32 126))]:=by
 refine qbw (H:=[]) (qqub 0 ?_)
 simp only[fbl,inR]
 by_cases h:(32:Int)≤b.toNat
 ·rw[decide_eq_true (by omega:(b.toNat:Int)≥32),cond_true,Bool.true_and]
 ·rw[decide_eq_false (by omega:¬ (b.toNat:Int)≥32),cond_false,Bool.false_and]
theorem c_fam (s:Str)(most:Nat)(hs:s.length≤1073741824):out qrv [.one (Cell.str (bs s)),.one (Cell.int most)]=some [.one (Cell.bool (qrm most s))]:=by
 have hM:=qag
 refine qbw (H:=[]) (qpgb (s.length+1) ?_)
 unfold qrm
 simp only[fam]
 rw[qsh s (fun n i=>qbxb (s.length+1+1) (s.length+1+1) n (bs s) most i) (fun b=>inR b.toNat 32 126) (some ([.one (Cell.bool (decide (s.length≤most)))],[])) (some ([.one (Cell.bool false)],[])) ?_ ?_ _ (by omega)]
 ·exact qbid _ _ _
 ·intro n i x hx hlt
  simp only[qbxb,qpj,hx,c_fbl,EV0]
  rw[decide_eq_true (by omega),cond_true,qae (by omega)]
  cases inR (x.toNat:Int) 32 126<;>rfl
 ·intro n
  simp only[qbxb,qee]
  rw[decide_eq_false (by omega),cond_false,show decide ((s.length:Int)≤(most:Int))=decide (s.length≤most) from n_le s.length most]
theorem c_fav (c:MCmd)(hc:c.Bd 1048576):out qxh [.agg [Cell.str (bs c.Task),qax c.Acts]]=some [.one (Cell.bool (qmjc c))]:=by
 have hM:=qag
 have hl:=hc.2.1
 have h0:c.Task.length≤1048576:=hc.1
 refine qbw (H:=[]) (qmzb (c.Acts.length+1) ?_)
 unfold qmjc
 simp only[fav,EV0]
 rw[qsh c.Acts (fun n i=>qbtb (c.Acts.length+1+1) (c.Acts.length+1+1) n (qax c.Acts) c.Acts.length i (bs c.Task) (qax c.Acts)) (qrm 40) (some ([.one (Cell.bool (qgi c.Task&&inR c.Acts.length 1 5))],[])) (some ([.one (Cell.bool false)],[])) ?_ ?_ _ (by omega)]
 ·exact qbid _ _ _
 ·intro n i x hx hlt
  have hb:x.length≤1048576:=hc.2.2 x (List.mem_of_getElem? hx)
  have q:out qrv [.one (Cell.str (bs x)),.one (Cell.int 40)]=some [.one (Cell.bool (qrm 40 x))]:=c_fam x 40 (by omega)
  simp only[qbtb,qav,hx,eStr,q,EV0]
  rw[decide_eq_true (by omega),cond_true,qae (by omega)]
  cases qrm 40 x<;>rfl
 ·intro n
  simp only[qbtb,qdpd c.Task (by omega),qsgc,EV0]
  rw[decide_eq_false (by omega),cond_false]
  cases qgi c.Task<;>rfl
theorem c_fbp (n:MNeed)(hn:n.Bd 1048576):out qyi [.agg [Cell.str (bs n.Name),Cell.str (bs n.Range)]]=some [.one (Cell.bool (qjmb n))]:=by
 have h0:n.Name.length≤1048576:=hn.1
 refine qbw (H:=[]) (qmfb 0 ?_)
 simp only[fbp,c_fak n.Range hn.2,qdpd n.Name (by omega),EV0]
 rw[show decide ((n.Range.length:Int)≤20)=decide (n.Range.length≤20) from n_le _ 20]
 unfold qjmb
 cases (qec n.Range).isSome<;>cases qgi n.Name<;>rfl
theorem c_fbq (l:List MNeed)(hl:bdL 1048576 (MNeed.Bd 1048576) l):out qzi [.one (encL 2 MNeed.enc l)]=some [.one (Cell.bool (qrr l))]:=by
 have hM:=qag
 have hxl:=hl.1
 refine qbw (H:=[]) (qoxb (l.length+1) ?_)
 unfold qrr
 simp only[fbq,qan,Option.bind_some]
 rw[qoz l.length (fun n i=>qwy (l.length+1+1) (l.length+1+1) n (encL 2 MNeed.enc l) (encL 2 MNeed.enc l) l.length i) (keyI l (·.Name) qjmb) (some ([.one (Cell.bool (decide (l.length≤4)))],[])) (some ([.one (Cell.bool false)],[])) ?_ ?_ _ (by omega)]
 ·exact qbid _ _ _
 ·intro n i hlt
  obtain⟨f,hf⟩:∃ f,l[i]?=some f:=⟨l[i],List.getElem?_eq_getElem hlt⟩
  have hb:=hl.2 f (List.mem_of_getElem? hf)
  simp only[qwy,qan,qav,hf,MNeed.enc,Nat.zero_add,c_fbp f hb,EV0]
  rw[decide_eq_true (by omega),cond_true,qae (by omega)]
  cases i with
  | zero=>
   rw[qtz hf,decide_eq_false (p:=((0:Nat):Int) > 0) (by omega)]
   cases qjmb f<;>rfl
  | succ i=>
   obtain⟨g,hg⟩:∃ g,l[i]?=some g:=⟨l[i],List.getElem?_eq_getElem (by omega)⟩
   rw[qsm hf hg,decide_eq_true (p:=((i+1:Nat):Int) > 0) (by omega),qcw (by omega)]
   simp only[qav,hf,hg,MNeed.enc,qgn,Nat.zero_add,qwmc,qlub,EV0]
   cases qjmb f<;>cases lt g.Name f.Name<;>rfl
 ·intro n
  simp only[qwy,qan,EV0]
  rw[decide_eq_false (by omega),cond_false,show decide ((l.length:Int)≤4)=decide (l.length≤4) from n_le l.length 4]
theorem c_fah (p:MPack)(hp:p.Bd 1048576):out qxr [.agg [Cell.str (bs p.Name),qax p.Uses,encL 2 MNeed.enc p.Needs,encL 2 MCmd.enc p.Cmds]]=some [.one (Cell.bool (qoob p))]:=by
 have hM:=qag
 obtain⟨b0,b1,b2,b3⟩:=hp
 have h0:p.Name.length≤1048576:=b0
 have h1:=b1.1
 have h3:=b3.1
 refine qbw (H:=[]) (qrpb (p.Cmds.length+1) ?_)
 unfold qoob qwdc
 simp only[fah,qan,Option.bind_some]
 rw[qoz p.Cmds.length (fun n i=>qxp (p.Cmds.length+1+1) (p.Cmds.length+1+1) n (encL 2 MCmd.enc p.Cmds) p.Cmds.length i (bs p.Name) (qax p.Uses) (encL 2 MNeed.enc p.Needs) (encL 2 MCmd.enc p.Cmds)) (keyI p.Cmds (·.Task) qmjc)
  (some ([.one (Cell.bool (qgi p.Name&&((p.Uses.all qgi&&decide (p.Uses.length≤4))&&(asc p.Uses&&(qrr p.Needs&&decide (p.Cmds.length≤4))))))],[])) (some ([.one (Cell.bool false)],[])) ?_ ?_ _ (by omega)]
 ·generalize (List.range p.Cmds.length).all (keyI p.Cmds (·.Task) qmjc)=a
  cases a<;>cases qgi p.Name<;>cases decide (p.Uses.length≤4)<;>cases p.Uses.all qgi<;>cases asc p.Uses<;>cases qrr p.Needs<;>cases decide (p.Cmds.length≤4)<;>rfl
 ·intro n i hlt
  obtain⟨f,hf⟩:∃ f,p.Cmds[i]?=some f:=⟨p.Cmds[i],List.getElem?_eq_getElem hlt⟩
  have hb:=b3.2 f (List.mem_of_getElem? hf)
  simp only[qxp,qan,qav,hf,MCmd.enc,Nat.zero_add,c_fav f hb,EV0]
  rw[decide_eq_true (by omega),cond_true,qae (by omega)]
  cases i with
  | zero=>
   rw[qtz hf,decide_eq_false (p:=((0:Nat):Int) > 0) (by omega)]
   cases qmjc f<;>rfl
  | succ i=>
   obtain⟨g,hg⟩:∃ g,p.Cmds[i]?=some g:=⟨p.Cmds[i],List.getElem?_eq_getElem (by omega)⟩
   rw[qsm hf hg,decide_eq_true (p:=((i+1:Nat):Int) > 0) (by omega),qcw (by omega)]
   simp only[qav,hf,hg,MCmd.enc,qgn,Nat.zero_add,qwmc,qlub,EV0]
   cases qmjc f<;>cases lt g.Task f.Task<;>rfl
 ·intro n
  simp only[qxp,qdpd p.Name (by omega),show out qrw [.one (qax p.Uses),.one (Cell.int 4)]=_ from c_fbo p.Uses b1 4,c_fbi p.Uses (by omega),c_fbq p.Needs b2,EV0]
  rw[decide_eq_false (by omega),cond_false,show decide ((p.Cmds.length:Int)≤4)=decide (p.Cmds.length≤4) from n_le _ 4]
  cases qgi p.Name<;>cases decide (p.Uses.length≤4)<;>cases p.Uses.all qgi<;>cases asc p.Uses<;>cases qrr p.Needs<;>rfl
theorem c_fai (l:List MPack)(hl:bdL 1048576 (MPack.Bd 1048576) l):out qvx [.one (encL 4 MPack.enc l)]=some [.one (Cell.bool (qxt l))]:=by
 have hM:=qag
 have hxl:=hl.1
 refine qbw (H:=[]) (qrub (l.length+1048577) ?_)
 unfold qxt
 simp only[fai,qan,Option.bind_some]
 rw[qoz l.length (fun n i=>qxn (l.length+1048577+1) (l.length+1048577+1) n (encL 4 MPack.enc l) (encL 4 MPack.enc l) l.length i) (qpqc l) (some ([.one (Cell.bool (decide (l.length≤6)))],[])) (some ([.one (Cell.bool false)],[])) ?_ ?_ _ (by omega)]
 ·exact qbid _ _ _
 ·intro n i hlt
  obtain⟨f,hf⟩:∃ f,l[i]?=some f:=⟨l[i],List.getElem?_eq_getElem hlt⟩
  have hb:=hl.2 f (List.mem_of_getElem? hf)
  have hbl:=hb.2.1.1
  have inner:∀ (bl:Cell→Cell→Int→Int→Option Res) (k m:Nat),qtl k m bl (l.length+1048577+1) (encL 4 MPack.enc l) (encL 4 MPack.enc l) l.length i (qax f.Uses) f.Uses.length 0 (bs f.Name) (qax f.Uses) (encL 2 MNeed.enc f.Needs) (encL 2 MCmd.enc f.Cmds)=cond (f.Uses.all (qscc l f.Name)) (bl (encL 4 MPack.enc l) (encL 4 MPack.enc l) l.length ((i+1:Nat):Int)) (some ([.one (Cell.bool false)],[])):=by
   intro bl k m
   rw[qsh f.Uses (fun n j=>qtl k m bl n (encL 4 MPack.enc l) (encL 4 MPack.enc l) l.length i (qax f.Uses) f.Uses.length j (bs f.Name) (qax f.Uses) (encL 2 MNeed.enc f.Needs) (encL 2 MCmd.enc f.Cmds)) (qscc l f.Name) (bl (encL 4 MPack.enc l) (encL 4 MPack.enc l) l.length ((i+1:Nat):Int)) (some ([.one (Cell.bool false)],[])) ?_ ?_ _ (by omega)]
   ·intro n j x hx hjl
    simp only[qtl,qav,hx,eStr,c_fac l (by omega) x,EV0]
    rw[decide_eq_true (by omega),cond_true,qae (by omega)]
    unfold qscc
    cases decide (idxF (fun p:MPack=>p.Name==x) l 0 < 0)<;>cases x==f.Name<;>rfl
   ·intro n
    simp only[qtl]
    rw[decide_eq_false (by omega),cond_false,qae (by omega)]
  simp only[qxn,qan,qav,hf,MPack.enc,Nat.zero_add,c_fah f hb,EV0]
  rw[decide_eq_true (by omega),cond_true]
  unfold qpqc
  rw[hf]
  simp only
  cases i with
  | zero=>
   rw[qtz hf,decide_eq_false (p:=((0:Nat):Int) > 0) (by omega)]
   simp only[cond_false,inner]
   cases qoob f<;>cases f.Uses.all (qscc l f.Name)<;>rfl
  | succ i=>
   obtain⟨g,hg⟩:∃ g,l[i]?=some g:=⟨l[i],List.getElem?_eq_getElem (by omega)⟩
   rw[qsm hf hg,decide_eq_true (p:=((i+1:Nat):Int) > 0) (by omega),qcw (by omega)]
   simp only[qav,hf,hg,MPack.enc,qgn,Nat.zero_add,qwmc,qlub,inner,EV0]
   cases qoob f<;>cases f.Uses.all (qscc l f.Name)<;>cases lt g.Name f.Name<;>rfl
 ·intro n
  simp only[qxn,qan,EV0]
  rw[decide_eq_false (by omega),cond_false,show decide ((l.length:Int)≤6)=decide (l.length≤6) from n_le l.length 6]
def curE (code:Str)(i:Nat)(h:Int):Entry:=Entry.mk 3 [[qix code,Cell.int i,Cell.int h]] 0 false
def Cur (H:List Entry)(id:Nat)(code:Str):Prop:=∃ i h,i≤code.length∧H[id]?=some (curE code i h)
structure Dr (id:Nat)(code:Str)(H H':List Entry):Prop where
 len:H.length≤H'.length
 old:∀ j,j≠id→j < H.length→H'[j]?=H[j]?
 cur:Cur H' id code
theorem Dr.refl {id:Nat}{code:Str}{H:List Entry}(h:Cur H id code):Dr id code H H:=⟨Nat.le_refl _,fun _ _ _=>rfl,h⟩
theorem Dr.trans {id:Nat}{code:Str}{H H1 H2:List Entry}(h:Dr id code H H1)(k:Dr id code H1 H2):Dr id code H H2:=
 ⟨Nat.le_trans h.len k.len,fun j hj hl=>by rw[k.old j hj (Nat.lt_of_lt_of_le hl h.len),h.old j hj hl],k.cur⟩
theorem Dr.app {id:Nat}{code:Str}{H:List Entry}(h:Cur H id code)(T:List Entry):Dr id code H (H++T):=by
 obtain⟨i,x,h1,h2⟩:=h
 have hid:id < H.length:=(List.getElem?_eq_some_iff.1 h2).1
 exact⟨by simp,fun j _ hj=>List.getElem?_append_left hj,i,x,h1,by rw[List.getElem?_append_left hid];exact h2⟩
structure DrN (N id:Nat)(code:Str)(H H':List Entry):Prop where
 len:H.length≤H'.length
 old:∀ j,j≠id→j < N→H'[j]?=H[j]?
 cur:Cur H' id code
theorem Dr.toN {id:Nat}{code:Str}{H H':List Entry}(h:Dr id code H H'){N:Nat}(hN:N≤H.length):DrN N id code H H':=⟨h.len,fun j hj hl=>h.old j hj (by omega),h.cur⟩
theorem DrN.trans {N id:Nat}{code:Str}{H H1 H2:List Entry}(h:DrN N id code H H1)(k:DrN N id code H1 H2):DrN N id code H H2:=
 ⟨Nat.le_trans h.len k.len,fun j hj hl=>by rw[k.old j hj hl,h.old j hj hl],k.cur⟩
theorem DrN.full {id:Nat}{code:Str}{H H':List Entry}(h:DrN H.length id code H H'):Dr id code H H':=⟨h.len,h.old,h.cur⟩
theorem and255 (x:Int):0≤andI .i64 x 255∧andI .i64 x 255≤255:=by
 unfold andI
 have h1:(BitVec.ofInt 64 x&&& BitVec.ofInt 64 255).toNat≤255:=by
  rw[BitVec.toNat_and]
  have:(BitVec.ofInt 64 255).toNat=255:=rfl
  rw[this]
  exact Nat.and_le_right
 have h2:IntKind.i64.wrap (((BitVec.ofInt 64 x&&& BitVec.ofInt 64 255).toNat:Nat):Int)=(((BitVec.ofInt 64 x&&& BitVec.ofInt 64 255).toNat:Nat):Int):=wrap_small (by omega) (by omega)
 show 0≤IntKind.i64.wrap (((BitVec.ofInt 64 x&&& BitVec.ofInt 64 255).toNat:Nat):Int)∧IntKind.i64.wrap (((BitVec.ofInt 64 x&&& BitVec.ofInt 64 255).toNat:Nat):Int)≤255
 rw[h2]
 omega
theorem qtv {id:Nat}{code:Str}{H:List Entry}(hc:Cur H id code)(hl:code.length≤1048576):∃ v H',qlo [.one (.ptr id 3 0 0 0)] H=some ([.one (Cell.int v)],H')∧Dr id code H H'∧0≤v∧v≤255:=by
 have hM:=qag
 obtain⟨i,h,hi,he⟩:=hc
 have hid:id < H.length:=(List.getElem?_eq_some_iff.1 he).1
 have dd:∀ (G:List Entry) (i':Nat) (h':Int) (j:Nat),G[id]?=some (curE code i' h')→deref G (.ptr id 3 0 j 0)=some ([qix code,Cell.int i',Cell.int h'],j):=fun G i' h' j hg=>by simp[deref,entry?,hg,curE]
 have st2:∀ (G:List Entry) (i':Nat) (h' v:Int),G[id]?=some (curE code i' h')→qbu G (.ptr id 3 0 2 0) [Cell.int v]=some (G.set id (curE code i' v)):=fun G i' h' v hg=>by simp[qbu,entry?,hg,curE,splice]
 have st1:∀ (G:List Entry) (i':Nat) (h':Int) (v:Nat),G[id]?=some (curE code i' h')→qbu G (.ptr id 3 0 1 0) [Cell.int v]=some (G.set id (curE code v h')):=fun G i' h' v hg=>by simp[qbu,entry?,hg,curE,splice]
 have g1:∀ x,(H.set id (curE code i x))[id]?=some (curE code i x):=fun x=>List.getElem?_set_self hid
 obtain⟨x,hx⟩:∃ x,x=IntKind.i64.wrap (IntKind.i64.wrap (h*6364136223846793005)+1442695040888963407):=⟨_,rfl⟩
 by_cases hlt:i < code.length
 ·refine⟨andI .i64 (IntKind.i64.wrap ((andI .i64 (xorI .i64 (shrI .i64 x 33) (shrI .i64 x 47)) 255)+IntKind.i64.wrap ((code[i]).toNat:Int))) 255,(H.set id (curE code i x)).set id (curE code (i+1) x),qwi 0 ?_,?_,and255 _⟩
  ·simp only[fdm,ptrC,qcu,Nat.zero_add,dd H i h _ he,EV0]
   rw[← hx]
   clear hx
   simp only[st2 H i h _ he,dd _ i _ _ (g1 _),qan,EV0]
   rw[decide_eq_true (by omega),cond_true]
   simp only[qav,List.getElem?_eq_getElem hlt,qvmb,EV0]
   rw[qae (by omega),st1 _ i _ (i+1) (g1 _)]
   rfl
  ·rw[List.set_set]
   exact⟨by simp,fun j hj hjl=>by rw[List.getElem?_set_ne (Ne.symm hj)],i+1,_,by omega,List.getElem?_set_self hid⟩
 ·refine⟨andI .i64 (xorI .i64 (shrI .i64 x 33) (shrI .i64 x 47)) 255,H.set id (curE code i x),qwi 0 ?_,?_,and255 _⟩
  ·simp only[fdm,ptrC,qcu,Nat.zero_add,dd H i h _ he,EV0]
   rw[← hx]
   clear hx
   simp only[st2 H i h _ he,dd _ i _ _ (g1 _),qan,EV0]
   rw[decide_eq_false (by omega),cond_false]
  ·exact⟨by simp,fun j hj hjl=>by rw[List.getElem?_set_ne (Ne.symm hj)],i,_,hi,List.getElem?_set_self hid⟩
theorem qfkc (code:Str)(hl:code.length≤1048576)(H:List Entry):∃ h,qpb [.one (qix code)] H=some ([.one (.ptr H.length 3 0 0 0)],H++[curE code 0 h]):=by
 have hM:=qag
 have loop:∀ (r:Str) (i n:Nat) (x:Int),code.drop i=r→r.length < n→∀ k m,∃ h,qaub k m n (qix code) x i H=some ([.one (.ptr H.length 3 0 0 0)],H++[curE code 0 h]):=by
  intro r
  induction r with
  | nil=>
   intro i n x hd hn k m
   obtain⟨n,rfl⟩:∃ j,n=j+1:=⟨n - 1,by omega⟩
   have:=drop_nil hd
   refine⟨x,?_⟩
   simp only[qaub,qan,Option.bind_some]
   rw[decide_eq_false (by omega),cond_false]
   rfl
  | cons b r ih=>
   intro i n x hd hn k m
   obtain⟨n,rfl⟩:∃ j,n=j+1:=⟨n - 1,by omega⟩
   obtain⟨hlt,hx,hd'⟩:=qaq hd
   simp only[List.length_cons] at hn
   simp only[qaub,qan,Option.bind_some]
   rw[decide_eq_true (by omega),cond_true]
   by_cases h4:i < 4000
   ·rw[decide_eq_true (by omega),cond_true]
    simp only[qav,hx,qvmb,EV0]
    rw[qae (by omega)]
    exact ih (i+1) n _ hd' (by omega) k m
   ·rw[decide_eq_false (by omega),cond_false]
    exact⟨x,rfl⟩
 obtain⟨h,e⟩:=loop code 0 (code.length+1+1) (IntKind.i64.wrap (778778+(code.length:Int))) rfl (by omega) (code.length+1+1) (code.length+1+1)
 refine⟨h,qngb (code.length+1) ?_⟩
 rw[show((0:Nat):Int)=0 from rfl] at e
 have hle:lenC (qix code)=some code.length:=qan ..
 unfold fdp
 rw[hle,Option.bind_some]
 exact e
theorem Cur.new (code:Str)(h:Int)(H:List Entry):Cur (H++[curE code 0 h]) H.length code:=⟨0,h,Nat.zero_le _,by simp⟩
theorem qdy {id:Nat}{code:Str}{H:List Entry}(hc:Cur H id code)(hl:code.length≤1048576)(n:Nat)(h0:0 < n)(hn:n≤1073741824):∃ (v:Nat) (H':List Entry),qdc [.one (.ptr id 3 0 0 0),.one (Cell.int n)] H=some ([.one (Cell.int (v:Int))],H')∧Dr id code H H'∧v < n:=by
 have hM:=qag
 have hne:(n:Int)≠0:=by omega
 by_cases h2:n≤256
 ·obtain⟨v,H',e,d,v0,v1⟩:=qtv hc hl
  obtain⟨v,rfl⟩:∃ w:Nat,v=(w:Int):=⟨v.toNat,by omega⟩
  refine⟨v % n,H',qwm 0 ?_,d,Nat.mod_lt _ h0⟩
  simp only[fdl,e,EV0]
  rw[decide_eq_false (by omega),cond_false,decide_eq_true (by omega),cond_true,if_neg hne,Int.tmod_eq_emod_of_nonneg v0]
  rfl
 ·obtain⟨v,H1,e1,d1,v0,v1⟩:=qtv hc hl
  obtain⟨x,H2,e2,d2,x0,x1⟩:=qtv d1.cur hl
  obtain⟨y,H3,e3,d3,y0,y1⟩:=qtv d2.cur hl
  obtain⟨v,rfl⟩:∃ w:Nat,v=(w:Int):=⟨v.toNat,by omega⟩
  obtain⟨x,rfl⟩:∃ w:Nat,x=(w:Int):=⟨x.toNat,by omega⟩
  obtain⟨y,rfl⟩:∃ w:Nat,y=(w:Int):=⟨y.toNat,by omega⟩
  refine⟨(v*65536+x*256+y) % n,H3,qwm 0 ?_,d1.trans (d2.trans d3),Nat.mod_lt _ h0⟩
  simp only[fdl,e1,e2,e3,EV0]
  rw[decide_eq_false (by omega),cond_false,decide_eq_false (by omega),cond_false,if_neg hne,wrap_small (n:=(v:Int)*65536) (by omega) (by omega),wrap_small (n:=(x:Int)*256) (by omega) (by omega),wrap_small (n:=(v:Int)*65536+(x:Int)*256) (by omega) (by omega),wrap_small (by omega) (by omega),Int.tmod_eq_emod_of_nonneg (by omega),
   show(v:Int)*65536+(x:Int)*256+(y:Int)=((v*65536+x*256+y:Nat):Int) by omega]
  rfl
theorem qkk {id:Nat}{code:Str}{H:List Entry}(hc:Cur H id code)(hl:code.length≤1048576)(n:Nat)(h0:0 < n)(hn:n≤1073741824):∃ (b:Bool) (H':List Entry),qfl [.one (.ptr id 3 0 0 0),.one (Cell.int n)] H=some ([.one (Cell.bool b)],H')∧Dr id code H H':=by
 obtain⟨v,H',e,d,_⟩:=qdy hc hl n h0 hn
 refine⟨((v:Int)==0),H',qltb 0 ?_,d⟩
 simp only[fdq,e,EV0]
theorem qga {id:Nat}{code:Str}{H:List Entry}(hc:Cur H id code)(hl:code.length≤1048576)(f:Bool)(xs:List Str)(h0:0 < xs.length)(hn:xs.length≤1073741824):∃ s H',qcp [.one (.ptr id 3 0 0 0),.one (.lst f 1 (xs.map eStr))] H=some ([.one (Cell.str (bs s))],H')∧Dr id code H H'∧s∈xs:=by
 obtain⟨v,H',e,d,hv⟩:=qdy hc hl xs.length h0 hn
 refine⟨xs[v],H',quk 0 ?_,d,List.getElem_mem hv⟩
 have hi:idxA 1 (.lst f 1 (xs.map eStr)) (v:Int)=some (.ref (eStr xs[v]) 0):=by rw[qgl,List.getElem?_map,List.getElem?_eq_getElem hv];rfl
 simp only[fdr,lenC,List.length_map,e,hi,eStr,EV0]
theorem qvsc (a b:Nat):(((a:Nat):Int)==((b:Nat):Int))=(a==b):=by
 rw[Bool.eq_iff_iff,beq_iff_eq,beq_iff_eq]
 omega
def OwnM (lo hi:Nat)(H:List Entry)(n:Nat)(c:Cell)(t:Tr):Prop:=∃ ids,Rep H true true n ids c t∧Mine lo hi ids∧qdn c
def OwnS (lo hi:Nat)(H:List Entry)(n:Nat)(cs:List Cell)(ts:List Tr):Prop:=∃ ids,Sp (Rep H true true n) ids cs ts∧Mine lo hi ids
theorem OwnM.nil (sz lo hi:Nat)(n:Nat)(H:List Entry)(h:lo≤hi):OwnM lo hi H (n+1) (.lst true sz []) (.list sz []):=⟨[],.inl ⟨rfl,rfl,true,rfl⟩,Mine.nil h,qci _⟩
theorem Mine.wide {lo hi lo' hi':Nat}{ids:List Nat}(h:Mine lo hi ids)(h1:lo'≤lo)(h2:hi≤hi'):Mine lo' hi' ids:=⟨by have:=h.le;omega,h.nd,fun j hj=>by have:=h.lo j hj;omega,fun j hj=>by have:=h.hi j hj;omega⟩
theorem Mine.swap {lo hi:Nat}{a b:List Nat}(h:Mine lo hi (a++b)):Mine lo hi (b++a):=
 ⟨h.le,by have:=h.nd;rw[List.nodup_append] at this ⊢;exact⟨this.2.1,this.1,fun x hx y hy e=>this.2.2 y hy x hx e.symm⟩,fun j hj=>h.lo j (by simp at hj ⊢;exact hj.symm),fun j hj=>h.hi j (by simp at hj ⊢;exact hj.symm)⟩
theorem OwnM.wide {lo hi lo' hi' n:Nat}{H:List Entry}{c:Cell}{t:Tr}(h:OwnM lo hi H n c t)(h1:lo'≤lo)(h2:hi≤hi'):OwnM lo' hi' H n c t:=by
 obtain⟨ids,a,b,d⟩:=h
 exact⟨ids,a,b.wide h1 h2,d⟩
theorem OwnM.frame {lo hi n id N:Nat}{code:Str}{H H':List Entry}{c:Cell}{t:Tr}(h:OwnM lo hi H n c t)(d:DrN N id code H H')(hid:id < lo)(hN:hi≤N):OwnM lo hi H' n c t:=by
 obtain⟨ids,a,b,e⟩:=h
 exact⟨ids,a.frame fun j hj=>d.old j (fun h=>by have:=b.lo j hj;omega) (by have:=b.hi j hj;omega),b,e⟩
theorem OwnM.s1 {lo hi n:Nat}{H:List Entry}{c:Cell}{t:Tr}(h:OwnM lo hi H n c t):OwnS lo hi H n [c] [t]:=by
 obtain⟨ids,a,b,_⟩:=h
 exact⟨ids++[],.cons a .nil,by simpa using b⟩
theorem OwnS.leaf {lo hi n:Nat}{H:List Entry}{v:Value}{cs:List Cell}{ts:List Tr}(h:OwnS lo hi H (n+1) cs ts):OwnS lo hi H (n+1) (.sc v::cs) (.leaf v::ts):=by
 obtain⟨ids,a,b⟩:=h
 exact⟨[]++ids,.cons ⟨rfl,rfl⟩ a,by simpa using b⟩
theorem qgb (H:List Entry)(sz:Nat)(row:List Cell):qah (H++[Entry.mk sz [row] 0 false]) sz (.vs H.length sz 0 1 0)=some [row]:=by simp[qah,rowsOf,entry?]
theorem OwnM.push {lo mid n sz by' id:Nat}{code:Str}{H:List Entry}{c:Cell}{trs:List (List Tr)}{row:List Cell}{tr:List Tr}(h:OwnM lo mid H (n+1) c (.list sz trs))(hr:OwnS mid H.length H n row tr)(hrl:row.length=sz)
  (hc:Cur H id code) (hid:id < lo) (hlen:trs.length≤1048576) (hby:by'≤1000):
  ∃ p:Cell×List Entry,app (H++[Entry.mk sz [row] 0 false]) sz by' c [row]=some p∧OwnM lo p.2.length p.2 (n+1) p.1 (.list sz (trs++[tr]))∧DrN lo id code H p.2:=by
 obtain⟨ids,h1,h2,h3⟩:=h
 obtain⟨js,k1,k2⟩:=hr
 have hb:(trs.length+1)*by'≤1048577*1000:=Nat.mul_le_mul (by omega) hby
 obtain⟨d,H',ids',a,r,nl,nd,g,m,k,_⟩:=(h1.app [Entry.mk sz [row] 0 false]).append (by':=by') (ys:=[row]) (tys:=[tr]) (js:=js++[]) h3 h2.nd (.cons (Rep.app2 _ k1) .nil) (by intro r hr;simp at hr;rw[hr];exact hrl) (by simpa using k2.nd) (fun j hj h=>by
  have e1:=h2.hi j hj
  have e2:=k2.lo j (by simpa using h)
  omega) (by simp[bound];omega) (by simp[bound];omega)
 obtain⟨i,x,hi,he⟩:=hc
 have hidl:id < H.length:=(List.getElem?_eq_some_iff.1 he).1
 have hm:H.length+1≤H'.length:=by simpa using m
 have hle:=k2.le
 have hle2:=h2.le
 have old:∀ j,j < H.length→j∉ids→H'[j]?=H[j]?:=fun j hj hn=>by rw[k j (by simp;omega) hn,List.getElem?_append_left hj]
 refine⟨(d,H'),a,⟨ids',r,⟨by show lo≤H'.length;omega,nd,fun j hj=>?_,r.lt⟩,nl⟩,by show H.length≤H'.length;omega,fun j hj hl=>old j (by omega) fun h=>by have:=h2.lo j h;omega,i,x,hi,?_⟩
 ·rcases g j hj with h | h | h
  ·exact h2.lo j h
  ·have:=k2.lo j (by simpa using h)
   omega
  ·simp at h
   omega
 ·simp only
  rw[old id hidl fun h=>by have:=h2.lo id h;omega]
  exact he
def VecN (H:List Entry)(ids:List Nat)(c:Cell)(sz:Nat)(rows:List (List Cell)):Prop:=(rows=[]∧ids=[]∧c=.lst true sz [])∨∃ j ep,ids=[j]∧c=.vs j sz 0 rows.length ep∧H[j]?=some ⟨sz,rows,ep,false⟩
theorem VecN.nil (H:List Entry)(sz:Nat):VecN H [] (.lst true sz []) sz []:=.inl ⟨rfl,rfl,rfl⟩
theorem VecN.frame {H H':List Entry}{ids:List Nat}{c:Cell}{sz:Nat}{rows:List (List Cell)}(h:VecN H ids c sz rows)(k:∀ j∈ids,H'[j]?=H[j]?):VecN H' ids c sz rows:=by
 rcases h with h | ⟨j,ep,rfl,rfl,h⟩
 ·exact .inl h
 ·exact .inr ⟨j,ep,rfl,rfl,by rw[k j (by simp)];exact h⟩
theorem VecN.lt {H:List Entry}{ids:List Nat}{c:Cell}{sz:Nat}{rows:List (List Cell)}(h:VecN H ids c sz rows):∀ j∈ids,j < H.length:=by
 rcases h with⟨_,rfl,_⟩ | ⟨j,ep,rfl,rfl,h⟩
 ·simp
 ·intro k hk
  simp at hk
  subst hk
  exact(List.getElem?_eq_some_iff.1 h).1
theorem VecN.len {H:List Entry}{ids:List Nat}{c:Cell}{sz:Nat}{rows:List (List Cell)}(h:VecN H ids c sz rows):lenC c=some rows.length:=by
 rcases h with⟨rfl,_,rfl⟩ | ⟨j,ep,rfl,rfl,h⟩<;>simp[lenC]
theorem VecN.at {H:List Entry}{ids:List Nat}{c:Cell}{sz:Nat}{rows:List (List Cell)}(h:VecN H ids c sz rows){i:Nat}{r:List Cell}(hr:rows[i]?=some r):∃ a,idxA sz c (i:Int)=some a∧∀ f,∃ a',fldA a f=some a'∧deref H a'=some (r,f):=by
 rcases h with⟨rfl,_,_⟩ | ⟨j,ep,rfl,rfl,h⟩
 ·simp at hr
 ·exact⟨.ptr j sz i 0 ep,qgu _ _ _ _ _ (List.getElem?_eq_some_iff.1 hr).1,fun f=>⟨.ptr j sz i f ep,by rw[qcu,Nat.zero_add],by simp[deref,entry?,h,hr]⟩⟩
theorem VecN.tail {H:List Entry}{ids:List Nat}{c:Cell}{sz:Nat}{rows:List (List Cell)}(h:VecN H ids c sz rows){n:Nat}(hn:n≤rows.length):
  ∃ c',slcC sz c (n:Int) none none=some c'∧∀ H',(∀ j∈ids,H'[j]?=H[j]?)→qah H' sz c'=some (rows.drop n):=by
 rcases h with⟨rfl,_,rfl⟩ | ⟨j,ep,rfl,rfl,h⟩
 ·simp at hn
  subst hn
  exact⟨.lst (qya true none 0 0) sz [],by simp[slcC],fun H' _=>by simp[qah,rowsOf]⟩
 ·by_cases e:n=0∨n < rows.length
  ·refine⟨.vs j sz (0+n) (rows.length - n) ep,?_,fun H' k=>?_⟩
   ·simp only[slcC,Option.getD_none,if_true]
    rw[if_pos (by omega),if_pos (by omega)]
    simp only[Int.toNat_natCast,Nat.zero_add,Option.some.injEq,Cell.vs.injEq,true_and,and_true]
    omega
   ·have:=k j (by simp)
    rw[h] at this
    simp only[qah,rowsOf,if_true,entry?,this]
    rw[if_pos (by omega)]
    simp only[Nat.zero_add,Option.some.injEq]
    exact List.take_of_length_le (by simp)
  ·refine⟨.lst false sz [],?_,fun H' k=>?_⟩
   ·simp only[slcC,Option.getD_none,if_true]
    rw[if_pos (by omega),if_neg (by omega)]
   ·simp only[qah,rowsOf,if_true]
    rw[List.drop_eq_nil_of_le (by omega)]
theorem VecN.head {H:List Entry}{ids:List Nat}{c:Cell}{sz:Nat}{rows:List (List Cell)}(h:VecN H ids c sz rows){n:Nat}(hn:n≤rows.length):
  ∃ c',slcC sz c 0 (some (n:Int)) none=some c'∧∀ H',(∀ j∈ids,H'[j]?=H[j]?)→qah H' sz c'=some (rows.take n):=by
 rcases h with⟨rfl,_,rfl⟩ | ⟨j,ep,rfl,rfl,h⟩
 ·simp at hn
  subst hn
  exact⟨.lst (qya true none 0 0) sz [],by simp[slcC],fun H' _=>by simp[qah,rowsOf]⟩
 ·refine⟨.vs j sz 0 n ep,?_,fun H' k=>?_⟩
  ·simp only[slcC,Option.getD_some,Option.getD_none,if_true]
   rw[if_pos ⟨by omega,by omega,by omega,Int.le_refl _⟩,if_pos (.inl trivial)]
   simp
  ·have:=k j (by simp)
   rw[h] at this
   simp only[qah,rowsOf,if_true,entry?,this]
   rw[if_pos (by omega)]
   simp
theorem VecN.app {H:List Entry}{ids:List Nat}{c:Cell}{sz by':Nat}{rows:List (List Cell)}(h:VecN H ids c sz rows)(ys:List (List Cell))(hl:rows.length+ys.length≤1048576)(hby:by'≤1000):
  ∃ (p:Cell×List Entry) (ids':List Nat),app H sz by' c ys=some p∧VecN p.2 ids' p.1 sz (rows++ys)∧(∀ j,j < H.length→j∉ids→p.2[j]?=H[j]?)∧H.length≤p.2.length∧(∀ j∈ids',j∈ids∨H.length≤j):=by
 have hb:(rows.length+ys.length)*by'≤1048576*1000:=Nat.mul_le_mul hl hby
 rcases h with⟨rfl,rfl,rfl⟩ | ⟨j,ep,rfl,rfl,h⟩
 ·cases ys with
  | nil=>exact⟨(_,H),[],by simp[Ev.app],.inl ⟨rfl,rfl,rfl⟩,fun _ _ _=>rfl,Nat.le_refl _,by simp⟩
  | cons y ys=>
   simp only[List.length_nil] at hl hb
   refine⟨(.vs H.length sz 0 (0+(y::ys).length) 0,H++[⟨sz,[]++(y::ys),0,false⟩]),[H.length],?_,.inr ⟨H.length,0,rfl,by simp,by simp⟩,fun j hj _=>List.getElem?_append_left hj,by simp,by simp⟩
   simp only[Ev.app,List.isEmpty_cons,List.length_nil]
   rw[if_neg (by simp),if_pos ⟨trivial,.inr trivial,by unfold bound;omega,by unfold bound;omega⟩]
 ·have hj:=(List.getElem?_eq_some_iff.1 h).1
  refine⟨(.vs j sz 0 (rows.length+ys.length) (ep+1),H.set j ⟨sz,rows++ys,ep+1,false⟩),[j],?_,.inr ⟨j,ep+1,rfl,by simp,List.getElem?_set_self hj⟩,fun k hk hn=>List.getElem?_set_ne (fun e=>hn (by simp[e])),by simp,fun k hk=>.inl hk⟩
  simp only[Ev.app,entry?,h,if_true]
  rw[if_pos ⟨trivial,by simp,.inr trivial,by unfold bound;omega,by unfold bound;omega⟩]
  simp
theorem ins_ok {β:Type}{H:List Entry}{ids:List Nat}{c:Cell}{rows:List (List Cell)}(h:VecN H ids c 2 rows){n:Nat}(hn:n≤rows.length)(row:List Cell)(hl:rows.length≤1000)(K:Cell×List Entry→Option β):
  ∃ (p:Cell×List Entry) (ids':List Nat),((slcC 2 c (n:Int) none none).bind fun c1=>(qah H 2 c1).bind fun r1=>(app H 2 32 (.lst true 2 []) r1).bind fun p1=>(slcC 2 c 0 (some (n:Int)) none).bind fun c2=>(qah p1.2 2 c2).bind fun r2=>
   (app p1.2 2 32 (.lst true 2 []) r2).bind fun p2=>(app p2.2 2 32 p2.1 [row]).bind fun p3=>(qah p3.2 2 p1.1).bind fun r3=>(app p3.2 2 32 p3.1 r3).bind K)=K p∧
   VecN p.2 ids' p.1 2 (rows.take n++row::rows.drop n)∧(∀ j,j < H.length→p.2[j]?=H[j]?)∧H.length≤p.2.length∧∀ j∈ids',H.length≤j:=by
 have hlt:=h.lt
 obtain⟨c1,e1,s1⟩:=h.tail hn
 obtain⟨c2,e2,s2⟩:=h.head hn
 obtain⟨p1,i1,a1,v1,f1,l1,m1⟩:=(VecN.nil H 2).app (by':=32) (rows.drop n) (by simp;omega) (by omega)
 obtain⟨p2,i2,a2,v2,f2,l2,m2⟩:=(VecN.nil p1.2 2).app (by':=32) (rows.take n) (by simp;omega) (by omega)
 obtain⟨p3,i3,a3,v3,f3,l3,m3⟩:=v2.app (by':=32) [row] (by simp;omega) (by omega)
 simp only[List.nil_append] at v1 v2 v3
 have hi1:=v1.lt
 have q3:∀ j∈i1,p3.2[j]?=p1.2[j]?:=fun j hj=>by
  have:=hi1 j hj
  rw[f3 j (by omega) fun h=>by
   rcases m2 j h with h | h
   ·simp at h
   ·omega,f2 j this (by simp)]
 have v1':=v1.frame q3
 have s3:qah p3.2 2 p1.1=some (rows.drop n):=by
  rcases v1' with⟨hd,_,hc⟩ | ⟨j,ep,_,hc,he⟩
  ·rw[hc,hd];simp[qah,rowsOf]
  ·rw[hc]
   simp[qah,rowsOf,entry?,he]
   exact List.take_of_length_le (by simp)
 obtain⟨p4,i4,a4,v4,f4,l4,m4⟩:=v3.app (by':=32) (rows.drop n) (by simp;omega) (by omega)
 have low3:∀ j∈i3,H.length≤j:=fun j hj=>by
  rcases m3 j hj with h | h
  ·rcases m2 j h with h | h
   ·simp at h
   ·omega
  ·omega
 refine⟨p4,i4,?_,?_,fun j hj=>?_,by omega,fun j hj=>?_⟩
 ·rw[e1,Option.bind_some,s1 H fun _ _=>rfl,Option.bind_some,a1,Option.bind_some,e2,Option.bind_some,s2 p1.2 fun j hj=>f1 j (hlt j hj) (by simp),Option.bind_some,a2,Option.bind_some,a3,Option.bind_some,s3,Option.bind_some,a4,Option.bind_some]
 ·simpa using v4
 ·rw[f4 j (by omega) fun h=>by have:=low3 j h;omega,f3 j (by omega) fun h=>by
   rcases m2 j h with h | h
   ·simp at h
   ·omega,f2 j (by omega) (by simp),f1 j hj (by simp)]
 ·rcases m4 j hj with h | h
  ·exact low3 j h
  ·omega
theorem VecN.ownF {α:Type}{sz:Nat}{e:α→List Cell}{tr:α→List Tr}{lo hi:Nat}{H:List Entry}{ids:List Nat}{c:Cell}{l:List α}(h:VecN H ids c sz (l.map e))(hlo:∀ j∈ids,lo≤j)(hh:H.length≤hi)(hl:lo≤hi)(hs:∀ x,(e x).length=sz)(ht:∀ x,Sp (Rep H true true 1) [] (e x) (tr x)):OwnM lo hi H 2 c (trL sz tr l):=by
 have hlt:=h.lt
 rcases h with⟨h1,rfl,rfl⟩ | ⟨j,ep,rfl,rfl,h⟩
 ·simp only[List.map_eq_nil_iff] at h1
  subst h1
  exact OwnM.nil sz lo hi 1 H hl
 ·refine⟨[j],.inr ⟨j,0,ep,l.map e,false,[],by simp,rfl,h,fun _=>rfl,fun _=>⟨rfl,by simp⟩,by simp,?_,?_⟩,⟨hl,by simp,fun k hk=>hlo k hk,fun k hk=>by have:=hlt k hk;omega⟩,qcd _ _ _ _ _⟩
  ·intro r hr
   obtain⟨x,hx,rfl⟩:=List.mem_map.1 hr
   exact hs x
  ·rw[List.drop_zero,List.take_of_length_le (by simp)]
   clear hlt h hlo
   induction l with
   | nil=>exact .nil
   | cons y ys ih=>exact .cons (i:=[]) (is:=[]) (ht y) ih
def qobb (n:MNeed):Prop:=n.Name.length≤20∧n.Range.length≤20
def qiqb (c:MCmd):Prop:=c.Task.length≤20∧c.Acts.length≤3∧(∀ a∈c.Acts,a.length≤100)∧c.Acts≠[]
def qtu (p:MPack):Prop:=p.Name.length≤20∧(p.Uses.length≤4∧∀ u∈p.Uses,u.length≤20)∧(p.Needs.length≤3∧∀ n∈p.Needs,qobb n)∧(p.Cmds.length≤3∧∀ c∈p.Cmds,qiqb c)
theorem qkbb {id:Nat}{code:Str}{H:List Entry}(hc:Cur H id code)(hl:code.length≤1048576):∃ (n:MNeed) (H':List Entry),qye [.one (.ptr id 3 0 0 0)] H=some ([.agg [Cell.str (bs n.Name),Cell.str (bs n.Range)]],H')∧Dr id code H H'∧qobb n:=by
 obtain⟨s1,G1,e1,d1,m1⟩:=qga hc hl true [[108,105,98],[108,111,103],[110,101,116],[122,105,112]] (by simp) (by simp)
 obtain⟨s2,G2,e2,d2,m2⟩:=qga d1.cur hl true [[42],[94,49,46,48,46,48],[126,49,46,49],[62,61,49],[60,50],[49,46,120],[48,46,120,32,124,124,32,50,46,120],[94,48,46,49,46,48]] (by simp) (by simp)
 have h1:s1.length≤20:=(by decide:∀ s∈([[108,105,98],[108,111,103],[110,101,116],[122,105,112]]:List Str),s.length≤20) s1 m1
 have h2:s2.length≤20:=(by decide:∀ s∈([[42],[94,49,46,48,46,48],[126,49,46,49],[62,61,49],[60,50],[49,46,120],[48,46,120,32,124,124,32,50,46,120],[94,48,46,49,46,48]]:List Str),s.length≤20) s2 m2
 simp only[List.map_cons,List.map_nil,eStr] at e1 e2
 refine⟨⟨s1,s2⟩,G2,qnpb 0 ?_,d1.trans d2,h1,h2⟩
 simp only[fdy,e1,e2,EV0]
theorem qxz {id:Nat}{code:Str}{H:List Entry}(hc:Cur H id code)(hl:code.length≤1048576):∃ (l:List MNeed) (c:Cell) (ids:List Nat) (H':List Entry),quh [.one (.ptr id 3 0 0 0)] H=some ([.one c],H')∧Dr id code H H'∧
  VecN H' ids c 2 (l.map MNeed.enc)∧(∀ j∈ids,H.length≤j)∧l.length≤3∧∀ n∈l,qobb n:=by
 have hM:=qag
 have hid:id < H.length:=by obtain⟨i,x,_,he⟩:=hc;exact(List.getElem?_eq_some_iff.1 he).1
 have inner:∀ (b:Cell→Cell→Int→List Entry→Option Res) (q:Int) (nd:MNeed) (l:List MNeed) (c:Cell) (ids:List Nat) (G:List Entry),VecN G ids c 2 (l.map MNeed.enc)→(∀ j∈ids,H.length≤j)→l.length≤1000→H.length≤G.length→Cur G id code→∀ (e i n:Nat),i+e=l.length→e < n→∀ k m,
   ∃ (c':Cell) (ids':List Nat) (G':List Entry) (l':List MNeed),qaxb k m b n (.ptr id 3 0 0 0) c q i (bs nd.Name) (bs nd.Range) G=b (.ptr id 3 0 0 0) c' (IntKind.i64.wrap (q - 1)) G'∧VecN G' ids' c' 2 (l'.map MNeed.enc)∧(∀ j∈ids',H.length≤j)∧Dr id code G G'∧l'.length≤l.length+1∧∀ x∈l',x=nd∨x∈l:=by
  intro b q nd l c ids G hv hlo hll hG hcur e
  have hcur':=hcur
  have ins:∀ i,i≤l.length→∃ (c':Cell) (ids':List Nat) (G':List Entry) (l':List MNeed),((slcC 2 c (i:Int) none none).bind fun c1=>(qah G 2 c1).bind fun r1=>(app G 2 32 (.lst true 2 []) r1).bind fun p1=>(slcC 2 c 0 (some (i:Int)) none).bind fun c2=>(qah p1.2 2 c2).bind fun r2=>
    (app p1.2 2 32 (.lst true 2 []) r2).bind fun p2=>(app p2.2 2 32 p2.1 [[Cell.str (bs nd.Name),Cell.str (bs nd.Range)]]).bind fun p3=>(qah p3.2 2 p1.1).bind fun r3=>(app p3.2 2 32 p3.1 r3).bind fun p4=>b (.ptr id 3 0 0 0) p4.1 (IntKind.i64.wrap (q - 1)) p4.2)=b (.ptr id 3 0 0 0) c' (IntKind.i64.wrap (q - 1)) G'∧
    VecN G' ids' c' 2 (l'.map MNeed.enc)∧(∀ j∈ids',H.length≤j)∧Dr id code G G'∧l'.length≤l.length+1∧∀ x∈l',x=nd∨x∈l:=fun i hi=>by
   obtain⟨p,ids',z1,z2,z3,z4,z5⟩:=ins_ok hv (n:=i) (by simpa using hi) [Cell.str (bs nd.Name),Cell.str (bs nd.Range)] (by simpa using hll) (fun p4=>b (.ptr id 3 0 0 0) p4.1 (IntKind.i64.wrap (q - 1)) p4.2)
   obtain⟨i0,x0,h0,he0⟩:=hcur'
   refine⟨p.1,ids',p.2,l.take i++nd::l.drop i,z1,by simpa[MNeed.enc,List.map_take,List.map_drop] using z2,fun j hj=>by have:=z5 j hj;omega,⟨z4,fun j _ hj=>z3 j hj,i0,x0,h0,by rw[z3 id (by omega)];exact he0⟩,by simp;omega,fun x hx=>?_⟩
   rcases List.mem_append.1 hx with h | h
   ·exact .inr (List.mem_of_mem_take h)
   ·rcases List.mem_cons.1 h with h | h
    ·exact .inl h
    ·exact .inr (List.mem_of_mem_drop h)
  induction e with
  | zero=>
   intro i n hi hn k m
   obtain⟨n,rfl⟩:∃ j,n=j+1:=⟨n - 1,by omega⟩
   have hlc:=hv.len
   rw[List.length_map] at hlc
   simp only[qaxb,hlc,Option.bind_some]
   rw[decide_eq_false (by omega),cond_false,qvsc,show(i==l.length)=true by simp;omega,cond_true]
   exact ins i (by omega)
  | succ e ih=>
   intro i n hi hn k m
   obtain⟨n,rfl⟩:∃ j,n=j+1:=⟨n - 1,by omega⟩
   have hlc:=hv.len
   rw[List.length_map] at hlc
   obtain⟨x,hx⟩:∃ x,l[i]?=some x:=⟨_,List.getElem?_eq_getElem (by omega)⟩
   obtain⟨a,a1,a2⟩:=hv.at (i:=i) (r:=MNeed.enc x) (by rw[List.getElem?_map,hx];rfl)
   obtain⟨a',a3,a4⟩:=a2 0
   simp only[MNeed.enc] at a4
   simp only[qaxb,hlc,Option.bind_some]
   rw[decide_eq_true (by omega),cond_true]
   simp only[a1,a3,a4,qdz,qae (show i < maxLen by omega),EV0]
   cases Op.bytesLess x.Name nd.Name with
   | true=>exact ih (i+1) n (by omega) (by omega) k m
   | false=>
    rw[cond_false,qvsc,show(i==l.length)=false by simp;omega,cond_false]
    cases x.Name==nd.Name with
    | true=>exact⟨c,ids,G,l,rfl,hv,hlo,Dr.refl hcur,by omega,fun x hx=>.inr hx⟩
    | false=>
     rw[Bool.not_false,cond_true]
     exact ins i (by omega)
 have loop:∀ (d n:Nat) (l:List MNeed) (c:Cell) (ids:List Nat) (G:List Entry),d < n→VecN G ids c 2 (l.map MNeed.enc)→(∀ j∈ids,H.length≤j)→l.length+d≤3→(∀ x∈l,qobb x)→Dr id code H G→∀ k m,1000≤m→
   ∃ (l':List MNeed) (c':Cell) (ids':List Nat) (H':List Entry),qyx k m n (.ptr id 3 0 0 0) c (d:Int) G=some ([.one c'],H')∧Dr id code H H'∧VecN H' ids' c' 2 (l'.map MNeed.enc)∧(∀ j∈ids',H.length≤j)∧l'.length≤3∧∀ n∈l',qobb n:=by
  intro d
  induction d with
  | zero=>
   intro n l c ids G hn hv hlo hll hs hd k m hm
   obtain⟨n,rfl⟩:∃ j,n=j+1:=⟨n - 1,by omega⟩
   refine⟨l,c,ids,G,?_,hd,hv,hlo,by omega,hs⟩
   simp only[qyx]
   rw[decide_eq_false (by omega),cond_false]
  | succ d ih=>
   intro n l c ids G hn hv hlo hll hs hd k m hm
   obtain⟨n,rfl⟩:∃ j,n=j+1:=⟨n - 1,by omega⟩
   obtain⟨nd,G1,e1,d1,s1⟩:=qkbb hd.cur hl
   have hv1:VecN G1 ids c 2 (l.map MNeed.enc):=hv.frame fun j hj=>d1.old j (fun e=>by have:=hlo j hj;omega) (hv.lt j hj)
   obtain⟨c2,ids2,G2,l2,e2,v2,lo2,d2,ll2,m2⟩:=inner (qyx k m n) ((d+1:Nat):Int) nd l c ids G1 hv1 hlo (by omega) (by have:=hd.len;have:=d1.len;omega) d1.cur l.length 0 m (by omega) (by omega) k m
   obtain⟨l',c',ids',H',e3,r⟩:=ih n l2 c2 ids2 G2 (by omega) v2 lo2 (by omega) (fun x hx=>by
    rcases m2 x hx with rfl | h
    ·exact s1
    ·exact hs x h) (hd.trans (d1.trans d2)) k m hm
   refine⟨l',c',ids',H',?_,r⟩
   simp only[qyx]
   rw[decide_eq_true (by omega),cond_true]
   simp only[e1,EV0]
   rw[show((0:Nat):Int)=0 from rfl] at e2
   rw[e2,qcw (by omega)]
   exact e3
 obtain⟨v,G2,e2,d2,hv⟩:=qdy hc hl 3 (by omega) (by omega)
 obtain⟨l',c',ids',H',e3,r⟩:=loop v 1000 [] (.lst true 2 []) [] G2 (by omega) (VecN.nil _ _) (by simp) (by simp;omega) (by simp) d2 1000 1000 (by omega)
 refine⟨l',c',ids',H',qphb 999 ?_,r⟩
 rw[show((3:Nat):Int)=3 from rfl] at e2
 simp only[fdx,e2,EV0]
 exact e3
theorem VecN.own {lo hi:Nat}{H:List Entry}{ids:List Nat}{c:Cell}{l:List MNeed}(h:VecN H ids c 2 (l.map MNeed.enc))(hlo:∀ j∈ids,lo≤j)(hh:H.length≤hi)(hl:lo≤hi):OwnM lo hi H 2 c (trL 2 MNeed.tr l):=by
 have hlt:=h.lt
 rcases h with⟨h1,rfl,rfl⟩ | ⟨j,ep,rfl,rfl,h⟩
 ·simp only[List.map_eq_nil_iff] at h1
  subst h1
  exact OwnM.nil 2 lo hi 1 H hl
 ·refine⟨[j],.inr ⟨j,0,ep,l.map MNeed.enc,false,[],by simp,rfl,h,fun _=>rfl,fun _=>⟨rfl,by simp⟩,by simp,?_,?_⟩,⟨hl,by simp,fun k hk=>hlo k hk,fun k hk=>by have:=hlt k hk;omega⟩,qcd _ _ _ _ _⟩
  ·intro r hr
   obtain⟨x,hx,rfl⟩:=List.mem_map.1 hr
   rfl
  ·rw[List.drop_zero,List.take_of_length_le (by simp)]
   clear hlt h hlo
   induction l with
   | nil=>exact .nil
   | cons y ys ih=>
    refine .cons (i:=[]) (is:=[]) ?_ ih
    unfold MNeed.tr MNeed.enc
    exact .cons (i:=[]) (is:=[]) ⟨rfl,rfl⟩ (Sp.leaf1 _)
theorem qqkc {id j:Nat}{code:Str}{H:List Entry}(hc:Cur H id code)(hl:code.length≤1048576)(xs:List Str)(h0:0 < xs.length)(hn:xs.length≤1073741824)(hj:j≠id)(he:H[j]?=some ⟨1,xs.map eStr,0,false⟩):
  ∃ s H',qcp [.one (.ptr id 3 0 0 0),.one (.vs j 1 0 xs.length 0)] H=some ([.one (Cell.str (bs s))],H')∧Dr id code H H'∧s∈xs:=by
 obtain⟨v,H',e,d,hv⟩:=qdy hc hl xs.length h0 hn
 have hjl:=(List.getElem?_eq_some_iff.1 he).1
 have he':H'[j]?=some ⟨1,xs.map eStr,0,false⟩:=by rw[d.old j hj hjl];exact he
 refine⟨xs[v],H',quk 0 ?_,d,List.getElem_mem hv⟩
 have hi:idxA 1 (.vs j 1 0 xs.length 0) (v:Int)=some (.ptr j 1 v 0 0):=qgu _ _ _ _ _ hv
 have hd:deref H' (.ptr j 1 v 0 0)=some (eStr xs[v],0):=by simp[deref,entry?,he',List.getElem?_eq_getElem hv]
 simp only[eStr] at hd
 simp only[fdr,lenC,e,hi,hd,EV0]
theorem qwsc {id:Nat}{code:Str}{H:List Entry}(hc:Cur H id code)(hl:code.length≤1048576)(pk:Str)(hp:pk.length≤20):∃ (s:Str) (H':List Entry),qxl [.one (.ptr id 3 0 0 0),.one (Cell.str (bs pk))] H=some ([.one (Cell.str (bs s))],H')∧Dr id code H H'∧s.length≤100:=by
 obtain⟨s1,G1,e1,d1,m1⟩:=qga hc hl true [[112,117,116,32,104,105,32,62,32,111],[99,97,116,32]++pk++[47,120,32,62,32,111],[99,97,116,32]++pk++[47,120,32]++pk++[47,121,32,62,32,112],[101,110,118,32,109,111,100,101,32,62,32,101],[117,115,101,32,97,35,98,117,105,108,100,32,111,32,62,32,113],[117,115,101,32,98,35,98,117,105,108,100,32,111,32,62,32,113],[108,111,103,32,100,111,110,101],[108,111,103,32,120,32,121],[102,97,105,108],[119,104,97,116],[112,117,116,32,62,32,114]] (by simp) (by simp)
 have h1:s1.length≤100:=by
  simp only[List.mem_cons,List.not_mem_nil,or_false] at m1
  rcases m1 with rfl | rfl | rfl | rfl | rfl | rfl | rfl | rfl | rfl | rfl | rfl<;>simp<;>omega
 simp only[List.map_cons,List.map_nil,eStr] at e1
 refine⟨s1,G1,qofb 0 ?_,d1,h1⟩
 simp only[fdt]
 rw[qdm (by simp;omega),Option.bind_some,qdm (by simp;omega),Option.bind_some,Option.bind_some,qdm (by simp;omega),Option.bind_some,qdm (by simp;omega),Option.bind_some,qdm (by simp;omega),Option.bind_some]
 simp only[e1,EV0]
theorem qbpd {id:Nat}{code:Str}{H:List Entry}(hc:Cur H id code)(hl:code.length≤1048576)(pk:Str)(hp:pk.length≤20)(t:Str)(ht:t.length≤20):∃ (x:MCmd) (c:Cell) (H':List Entry),qoq [.one (.ptr id 3 0 0 0),.one (Cell.str (bs pk)),.one (Cell.str (bs t))] H=some ([.agg [Cell.str (bs t),c]],H')∧Dr id code H H'∧
  OwnM H.length H'.length H' 2 c (trL 1 qbx x.Acts)∧x.Task=t∧qiqb x:=by
 have hM:=qag
 have hid:id < H.length:=by obtain⟨i,x,_,he⟩:=hc;exact(List.getElem?_eq_some_iff.1 he).1
 have loop:∀ (d n:Nat) (l:List Str) (c:Cell) (G:List Entry),d < n→DrN H.length id code H G→OwnM H.length G.length G 2 c (trL 1 qbx l)→l.length+d≤3→(∀ a∈l,a.length≤100)→l≠[]→∀ k m,
   ∃ (l':List Str) (c':Cell) (H':List Entry),qbwb k m n (.ptr id 3 0 0 0) (bs pk) (d:Int) (bs t) c G=some ([.agg [Cell.str (bs t),c']],H')∧DrN H.length id code H H'∧OwnM H.length H'.length H' 2 c' (trL 1 qbx l')∧l'.length≤3∧(∀ a∈l',a.length≤100)∧l'≠[]:=by
  intro d
  induction d with
  | zero=>
   intro n l c G hn hd ho hll hs hne k m
   obtain⟨n,rfl⟩:∃ j,n=j+1:=⟨n - 1,by omega⟩
   refine⟨l,c,G,?_,hd,ho,by omega,hs,hne⟩
   simp only[qbwb]
   rw[decide_eq_false (by omega),cond_false]
  | succ d ih=>
   intro n l c G hn hd ho hll hs hne k m
   obtain⟨n,rfl⟩:∃ j,n=j+1:=⟨n - 1,by omega⟩
   obtain⟨s,G1,e1,d1,h1⟩:=qwsc hd.cur hl pk hp
   have ho1:=ho.frame (d1.toN (Nat.le_refl _)) hid (Nat.le_refl _)
   obtain⟨p,e2,o2,d2⟩:=OwnM.push (by':=16) (sz:=1) (row:=[Cell.str (bs s)]) (tr:=qbx s) ho1 ⟨[],Sp.leaf1 _,Mine.nil d1.len⟩ rfl d1.cur hid (by simp;omega) (by omega)
   obtain⟨l',c',H',e3,r⟩:=ih n (l++[s]) p.1 p.2 (by omega) (hd.trans ((d1.toN hd.len).trans d2)) (by
    rw[trL,List.map_append]
    exact o2) (by simp;omega) (fun a ha=>by
    rcases List.mem_append.1 ha with h | h
    ·exact hs a h
    ·simp only[List.mem_singleton] at h
     rw[h];exact h1) (by simp) k m
   refine⟨l',c',H',?_,r⟩
   simp only[qbwb]
   rw[decide_eq_true (by omega),cond_true]
   simp only[e1,qgb,e2,EV0]
   rw[qcw (by omega)]
   exact e3
 have c0:Cur (H++[Entry.mk 1 (([[112,117,116,32,104,105,32,62,32,111],[99,97,116,32]++pk++[47,120,32,62,32,111],[108,111,103,32]++t]:List Str).map eStr) 0 false]) id code:=(Dr.app hc _).cur
 obtain⟨s1,G1,e1,d1,m1⟩:=qqkc (j:=H.length) c0 hl [[112,117,116,32,104,105,32,62,32,111],[99,97,116,32]++pk++[47,120,32,62,32,111],[108,111,103,32]++t] (by simp) (by simp) (by omega) (by simp)
 have h1:s1.length≤100:=by
  simp only[List.mem_cons,List.not_mem_nil,or_false] at m1
  rcases m1 with rfl | rfl | rfl<;>simp<;>omega
 have d1':Dr id code H G1:=(Dr.app hc _).trans d1
 have d1a:=Dr.app d1.cur [Entry.mk 1 [[Cell.str (bs s1)]] 0 false]
 obtain⟨v,G2,e2,d2,hv⟩:=qdy d1a.cur hl 3 (by omega) (by omega)
 have hG1:=d1'.len
 have ho0:OwnM H.length (G1.length+1) (G1++[Entry.mk 1 [[Cell.str (bs s1)]] 0 false]) 2 (.vs G1.length 1 0 1 0) (trL 1 qbx [s1]):=
  ⟨[G1.length],.inr ⟨G1.length,0,0,[[Cell.str (bs s1)]],false,[],rfl,rfl,by simp,fun _=>rfl,fun _=>⟨rfl,rfl⟩,by simp,by simp,.cons (i:=[]) (is:=[]) (Sp.leaf1 _) .nil⟩,⟨by omega,by simp,by simp;omega,by simp⟩,qcd _ _ _ _ _⟩
 have ho:OwnM H.length G2.length G2 2 (.vs G1.length 1 0 1 0) (trL 1 qbx [s1]):=(ho0.frame (d2.toN (Nat.le_refl _)) hid (by simp)).wide (Nat.le_refl _) (by have:=d2.len;simp at this;omega)
 obtain⟨l',c',H',e3,d3,o3,h3,h4,h5⟩:=loop v 1000 [s1] _ G2 (by omega) ((d1'.trans (d1a.trans d2)).toN (Nat.le_refl _)) ho (by simp;omega) (by simpa using h1) (by simp) 1000 1000
 refine⟨⟨t,l'⟩,c',H',qlwb 999 ?_,d3.full,o3,rfl,ht,h3,h4,h5⟩
 simp only[List.map_cons,List.map_nil,eStr,List.length_cons,List.length_nil,Nat.zero_add,Nat.reduceAdd] at e1
 rw[show((3:Nat):Int)=3 from rfl] at e2
 simp only[fdv]
 rw[qdm (by simp;omega),Option.bind_some,qdm (by simp;omega),Option.bind_some,qdm (by simp;omega),Option.bind_some]
 simp only[e1,e2,EV0]
 exact e3
theorem qnqb {id:Nat}{code:Str}{H:List Entry}(hc:Cur H id code)(hl:code.length≤1048576)(nm:Str)(hp:nm.length≤20):∃ (p:MPack) (cN cC:Cell) (mid:Nat) (H':List Entry),qmk [.one (.ptr id 3 0 0 0),.one (Cell.str (bs nm))] H=some ([.agg [Cell.str (bs nm),.lst true 1 [],cN,cC]],H')∧Dr id code H H'∧
  OwnM H.length mid H' 2 cN (trL 2 MNeed.tr p.Needs)∧OwnM mid H'.length H' 3 cC (trL 2 MCmd.tr p.Cmds)∧p.Name=nm∧p.Uses=[]∧qtu p∧p.Cmds≠[]:=by
 have hM:=qag
 have hid:id < H.length:=by obtain⟨i,x,_,he⟩:=hc;exact(List.getElem?_eq_some_iff.1 he).1
 obtain⟨needs,cN,ids,G,e1,d1,v1,lo1,hn1,hn2⟩:=qxz hc hl
 have oN:=v1.own (hi:=G.length) (lo:=H.length) lo1 (Nat.le_refl _) d1.len
 have hG:=d1.len
 have lits:∀ (i:Nat),i < 3→∃ t:Str,idxA 1 (.lst true 1 [[Cell.str (bs [98,117,105,108,100])],[Cell.str (bs [108,105,110,116])],[Cell.str (bs [116,101,115,116])]]) (i:Int)=some (.ref [Cell.str (bs t)] 0)∧t.length≤20:=fun i hi=>by
  have:i=0∨i=1∨i=2:=by omega
  rcases this with rfl | rfl | rfl
  ·exact⟨[98,117,105,108,100],by rw[qgl];rfl,by simp⟩
  ·exact⟨[108,105,110,116],by rw[qgl];rfl,by simp⟩
  ·exact⟨[116,101,115,116],by rw[qgl];rfl,by simp⟩
 have loop:∀ (d i n:Nat) (l:List MCmd) (c:Cell) (F:List Entry),i+d=3→d < n→DrN G.length id code G F→OwnM G.length F.length F 3 c (trL 2 MCmd.tr l)→l.length≤i→(∀ x∈l,qiqb x)→(0 < i→l≠[])→∀ k m,
   ∃ (l':List MCmd) (c':Cell) (H':List Entry),qlv k m n (.ptr id 3 0 0 0) (bs nm) (i:Int) (bs nm) cN c F=some ([.agg [Cell.str (bs nm),.lst true 1 [],cN,c']],H')∧DrN G.length id code G H'∧OwnM G.length H'.length H' 3 c' (trL 2 MCmd.tr l')∧l'.length≤3∧(∀ x∈l',qiqb x)∧l'≠[]:=by
  intro d
  induction d with
  | zero=>
   intro i n l c F hi hn hd ho hll hs hne k m
   obtain⟨n,rfl⟩:∃ j,n=j+1:=⟨n - 1,by omega⟩
   refine⟨l,c,F,?_,hd,ho,by omega,hs,hne (by omega)⟩
   simp only[qlv]
   rw[decide_eq_false (by omega),cond_false]
  | succ d ih=>
   intro i n l c F hi hn hd ho hll hs hne k m
   obtain⟨n,rfl⟩:∃ j,n=j+1:=⟨n - 1,by omega⟩
   obtain⟨t,t1,t2⟩:=lits i (by omega)
   obtain⟨b,F1,e2,d2⟩:=qkk hd.cur hl 2 (by omega) (by omega)
   have d2n:=d2.toN hd.len
   have ho1:=ho.frame (d2.toN (Nat.le_refl _)) (by omega) (Nat.le_refl _)
   have cmd:∃ (p:Cell×List Entry) (s:Res),qoq [.one (.ptr id 3 0 0 0),.one (Cell.str (bs nm)),.one (Cell.str (bs t))] F1=some s∧
     (∀ (q:Cell→List Entry→Option Res),(cond (qab qapc s.1) ((cS (qaa s.1 0) 0).bind fun s18=>(cC (qaa s.1 0) 1).bind fun c19=>(qah (s.2++[Entry.mk 2 [[Cell.str s18,c19]] 0 false]) 2 (.vs s.2.length 2 0 1 0)).bind fun r20=>(app (s.2++[Entry.mk 2 [[Cell.str s18,c19]] 0 false]) 2 40 c r20).bind fun p21=>q p21.1 p21.2) none)=q p.1 p.2)∧
     DrN G.length id code F1 p.2∧∃ x:MCmd,OwnM G.length p.2.length p.2 3 p.1 (trL 2 MCmd.tr (l++[x]))∧qiqb x:=by
    obtain⟨x,c3,F2,e3,d3,o3,x1,x2⟩:=qbpd d2.cur hl nm hp t t2
    have ho2:=ho1.frame (d3.toN (Nat.le_refl _)) (by omega) d2.len
    have hF1:G.length≤F1.length:=Nat.le_trans hd.len d2.len
    obtain⟨p,e4,o4,d4⟩:=OwnM.push (by':=40) (sz:=2) (row:=[Cell.str (bs t),c3]) (tr:=MCmd.tr x) ho2 (by
     obtain⟨js,j1,j2⟩:=(o3.wide d2.len (Nat.le_refl _)).s1.leaf (v:=.string (bs t))
     exact⟨js,by unfold MCmd.tr;rw[x1];exact j1,j2⟩) rfl d3.cur (by omega) (by simp;omega) (by omega)
    refine⟨p,_,e3,fun q=>?_,(d3.toN hF1).trans d4,x,by rw[trL,List.map_append];exact o4,x2⟩
    simp only[qgb,e4,EV0]
   obtain⟨p,s,c1,c2,c3,x,c4,c5⟩:=cmd
   have more:∀ k m,∃ (l':List MCmd) (c':Cell) (H':List Entry),qlv k m n (.ptr id 3 0 0 0) (bs nm) ((i+1:Nat):Int) (bs nm) cN p.1 p.2=some ([.agg [Cell.str (bs nm),.lst true 1 [],cN,c']],H')∧DrN G.length id code G H'∧OwnM G.length H'.length H' 3 c' (trL 2 MCmd.tr l')∧l'.length≤3∧(∀ x∈l',qiqb x)∧l'≠[]:=
    fun k m=>ih (i+1) n (l++[x]) p.1 p.2 (by omega) (by omega) (hd.trans (d2n.trans c3)) c4 (by simp;omega) (fun y hy=>by
     rcases List.mem_append.1 hy with h | h
     ·exact hs y h
     ·simp only[List.mem_singleton] at h
      rw[h];exact c5) (fun _=>by simp) k m
   simp only[qlv]
   rw[decide_eq_true (by omega),cond_true]
   rw[show((2:Nat):Int)=2 from rfl] at e2
   simp only[t1,e2,EV0]
   rw[qae (by omega)]
   cases b with
   | true=>
    rw[cond_true,c1,Option.bind_some,c2 (fun a b=>qlv k m n (.ptr id 3 0 0 0) (bs nm) ((i+1:Nat):Int) (bs nm) cN a b)]
    exact more k m
   | false=>
    rw[cond_false]
    cases hi0:((i:Int)==0) with
    | true=>
     rw[cond_true,c1,Option.bind_some,c2 (fun a b=>qlv k m n (.ptr id 3 0 0 0) (bs nm) ((i+1:Nat):Int) (bs nm) cN a b)]
     exact more k m
    | false=>
     rw[cond_false]
     exact ih (i+1) n l c F1 (by omega) (by omega) (hd.trans d2n) (ho1.wide (Nat.le_refl _) d2.len) (by omega) hs (fun _=>hne (by
      have:¬ ((i:Int)=0):=by simpa using hi0
      omega)) k m
 obtain⟨cmds,cC,H',e2,d2,o2,h1,h2,h3⟩:=loop 3 0 1000 [] (.lst true 2 []) G (by omega) (by omega) ((Dr.refl d1.cur).toN (Nat.le_refl _)) (OwnM.nil 2 _ _ 2 _ (Nat.le_refl _)) (by simp) (by simp) (fun h=>by omega) 1000 1000
 refine⟨⟨nm,[],needs,cmds⟩,cN,cC,G.length,H',qqsb 999 ?_,(d1.trans d2.full),oN.frame d2 hid (Nat.le_refl _),o2,rfl,rfl,⟨hp,⟨by simp,by simp⟩,⟨hn1,hn2⟩,h1,h2⟩,h3⟩
 rw[show((0:Nat):Int)=0 from rfl] at e2
 simp only[fdz,e1,EV0]
 exact e2
def qzh:List Str:=[[97],[98],[99],[100]]
structure Drawn (names:List Str)(l:List MPack):Prop where
 nm:l.map (·.Name)=names.take l.length
 len:l.length≤names.length
 sm:∀ p∈l,qtu p
 us:∀ p∈l,∀ u∈p.Uses,u∈names
theorem qgjb {id:Nat}{code:Str}{H:List Entry}(hc:Cur H id code)(hl:code.length≤1048576)(ring:Bool):∃ (l:List MPack) (v:Nat) (c:Cell) (H':List Entry),qpl [.one (.ptr id 3 0 0 0),.one (Cell.bool ring)] H=some ([.one c],H')∧Dr id code H H'∧
  OwnM H.length H'.length H' 4 c (trL 4 MPack.tr l)∧Drawn (qzh.take (1+v)) l∧v < 4∧l.length=(qzh.take (1+v)).length:=by
 have hM:=qag
 have hid:id < H.length:=by obtain⟨i,x,_,he⟩:=hc;exact(List.getElem?_eq_some_iff.1 he).1
 obtain⟨v,H1,e1,d1,hv⟩:=qdy hc hl 4 (by omega) (by omega)
 obtain⟨names,hnames⟩:∃ names,names=qzh.take (1+v):=⟨_,rfl⟩
 have hn4:names.length≤4:=by rw[hnames];simp[qzh];omega
 have hsm:∀ s∈names,s.length≤20:=fun s hs=>by
  rw[hnames] at hs
  exact(by decide:∀ s∈qzh,s.length≤20) s (List.mem_of_mem_take hs)
 obtain⟨f,hsl⟩:∃ f,slcC 1 (.lst true 1 [[Cell.str (bs [97])],[Cell.str (bs [98])],[Cell.str (bs [99])],[Cell.str (bs [100])]]) 0 (some (IntKind.i64.wrap (1+(v:Int)))) none=some (.lst f 1 (names.map eStr)):=by
  have hw:IntKind.i64.wrap (1+(v:Int))=((1+v:Nat):Int):=by rw[wrap_small (by omega) (by omega)];omega
  rw[hw,hnames]
  have:v=0∨v=1∨v=2∨v=3:=by omega
  rcases this with rfl | rfl | rfl | rfl<;>exact⟨_,rfl⟩
 have hnx:∀ (i:Nat) (s:Str),names[i]?=some s→idxA 1 (.lst f 1 (names.map eStr)) (i:Int)=some (.ref [Cell.str (bs s)] 0):=fun i s hs=>by rw[qgl,List.getElem?_map,hs];rfl
 have hnl:lenC (.lst f 1 (names.map eStr))=some names.length:=by simp[lenC]
 have inner:∀ (b:Cell→Bool→Cell→Cell→Int→List Entry→Option Res) (i:Nat) (p:MPack) (cN cC c9:Cell) (mid:Nat) (l:List MPack) (G0 G:List Entry),H1.length≤mid→mid≤G.length→OwnM H1.length mid G 4 c9 (trL 4 MPack.tr l)→(∃ mm,OwnM mid mm G 2 cN (trL 2 MNeed.tr p.Needs)∧OwnM mm G.length G 3 cC (trL 2 MCmd.tr p.Cmds))→qtu {p with Uses:=[]}→l.length≤10→i < names.length→
   ∀ (d kk n:Nat) (us:List Str) (c:Cell) (F:List Entry),kk+d=names.length→d < n→DrN G.length id code G F→Cur F id code→OwnM G.length F.length F 2 c (trL 1 qbx us)→us.length≤kk→(∀ u∈us,u∈names)→∀ k m,
   ∃ (us':List Str) (q:Cell×List Entry),qin k m b n (.ptr id 3 0 0 0) ring (.lst f 1 (names.map eStr)) c9 (i:Int) (kk:Int) (bs p.Name) c cN cC F=b (.ptr id 3 0 0 0) ring (.lst f 1 (names.map eStr)) q.1 ((i+1:Nat):Int) q.2∧
    DrN H1.length id code G q.2∧OwnM H1.length q.2.length q.2 4 q.1 (trL 4 MPack.tr (l++[{p with Uses:=us'}]))∧qtu {p with Uses:=us'}∧∀ u∈us',u∈names:=by
  intro b i p cN cC c9 mid l G0 G hm1 hm2 hout hparts hsp hll hi d
  have hidm:id < H1.length:=by have:=d1.len;omega
  induction d with
  | zero=>
   intro kk n us c F hk hn hd hcur ho hul hus k m
   obtain⟨n,rfl⟩:∃ j,n=j+1:=⟨n - 1,by omega⟩
   obtain⟨mm,oN,oC⟩:=hparts
   have hmm:mid≤mm:=by obtain⟨_,_,h,_⟩:=oN;exact h.le
   have hmm2:mm≤G.length:=by obtain⟨_,_,h,_⟩:=oC;exact h.le
   have oN':=oN.frame hd (by omega) hmm2
   have oC':=oC.frame hd (by omega) (Nat.le_refl _)
   have hout':=hout.frame hd hidm hm2
   obtain⟨iN,n1,n2,_⟩:=oN'
   obtain⟨iC,k1,k2,_⟩:=oC'
   obtain⟨iU,u1,u2,_⟩:=ho
   obtain⟨q,e2,o2,d2⟩:=OwnM.push (by':=88) (sz:=4) (row:=[Cell.str (bs p.Name),c,cN,cC]) (tr:=MPack.tr {p with Uses:=us}) hout' (by
    refine⟨[]++(iU++(iN++(iC++[]))),?_,?_⟩
    ·unfold MPack.tr
     exact .cons ⟨rfl,rfl⟩ (.cons (u1.more (by omega)) (.cons (n1.more (by omega)) (.cons (k1.more (by omega)) .nil)))
    ·rw[List.nil_append,List.append_nil]
     exact(Mine.app (n2.app k2) u2).swap) rfl hcur hidm (by simp;omega) (by omega)
   refine⟨us,q,?_,(DrN.trans ⟨hd.len,fun j hj hl=>hd.old j hj (by omega),hd.cur⟩ d2),by rw[trL,List.map_append];exact o2,⟨hsp.1,⟨by show us.length≤4;omega,fun u hu=>hsm u (hus u hu)⟩,hsp.2.2⟩,hus⟩
   simp only[qin,hnl,Option.bind_some]
   rw[decide_eq_false (by omega),cond_false]
   simp only[qgb,e2,EV0]
   rw[qae (by omega)]
  | succ d ih=>
   intro kk n us c F hk hn hd hcur ho hul hus k m
   obtain⟨n,rfl⟩:∃ j,n=j+1:=⟨n - 1,by omega⟩
   obtain⟨s,hs⟩:∃ s,names[kk]?=some s:=⟨_,List.getElem?_eq_getElem (by omega)⟩
   have hsn:=List.mem_of_getElem? hs
   have hGl:=hd.len
   have put:∀ (F1:List Entry),Dr id code F F1→∃ q:Cell×List Entry,app (F1++[Entry.mk 1 [[Cell.str (bs s)]] 0 false]) 1 16 c [[Cell.str (bs s)]]=some q∧OwnM G.length q.2.length q.2 2 q.1 (trL 1 qbx (us++[s]))∧DrN G.length id code G q.2:=fun F1 dd=>by
    have ho1:=ho.frame (dd.toN (Nat.le_refl _)) (by omega) (Nat.le_refl _)
    obtain⟨q,e2,o2,d2⟩:=OwnM.push (by':=16) (sz:=1) (row:=[Cell.str (bs s)]) (tr:=qbx s) ho1 ⟨[],Sp.leaf1 _,Mine.nil dd.len⟩ rfl dd.cur (by omega) (by simp;omega) (by omega)
    exact⟨q,e2,by rw[trL,List.map_append];exact o2,hd.trans ((dd.toN hGl).trans d2)⟩
   have keep:∀ (F1:List Entry),Dr id code F F1→∀ k m,∃ (us':List Str) (q:Cell×List Entry),qin k m b n (.ptr id 3 0 0 0) ring (.lst f 1 (names.map eStr)) c9 (i:Int) ((kk+1:Nat):Int) (bs p.Name) c cN cC F1=b (.ptr id 3 0 0 0) ring (.lst f 1 (names.map eStr)) q.1 ((i+1:Nat):Int) q.2∧
     DrN H1.length id code G q.2∧OwnM H1.length q.2.length q.2 4 q.1 (trL 4 MPack.tr (l++[{p with Uses:=us'}]))∧qtu {p with Uses:=us'}∧∀ u∈us',u∈names:=fun F1 dd k m=>
    ih (kk+1) n us c F1 (by omega) (by omega) (hd.trans (dd.toN hGl)) dd.cur ((ho.frame (dd.toN (Nat.le_refl _)) (by omega) (Nat.le_refl _)).wide (Nat.le_refl _) dd.len) (by omega) hus k m
   have more:∀ (F1:List Entry) (q:Cell×List Entry),OwnM G.length q.2.length q.2 2 q.1 (trL 1 qbx (us++[s]))→DrN G.length id code G q.2→∀ k m,∃ (us':List Str) (q':Cell×List Entry),qin k m b n (.ptr id 3 0 0 0) ring (.lst f 1 (names.map eStr)) c9 (i:Int) ((kk+1:Nat):Int) (bs p.Name) q.1 cN cC q.2=b (.ptr id 3 0 0 0) ring (.lst f 1 (names.map eStr)) q'.1 ((i+1:Nat):Int) q'.2∧
     DrN H1.length id code G q'.2∧OwnM H1.length q'.2.length q'.2 4 q'.1 (trL 4 MPack.tr (l++[{p with Uses:=us'}]))∧qtu {p with Uses:=us'}∧∀ u∈us',u∈names:=fun F1 q o2 d2 k m=>
    ih (kk+1) n (us++[s]) q.1 q.2 (by omega) (by omega) d2 d2.cur o2 (by simp;omega) (fun u hu=>by
     rcases List.mem_append.1 hu with h | h
     ·exact hus u h
     ·simp only[List.mem_singleton] at h
      rw[h];exact hsn) k m
   simp only[qin,hnl,Option.bind_some]
   rw[decide_eq_true (by omega),cond_true]
   have hk1:IntKind.i64.wrap ((kk:Int)+1)=((kk+1:Nat):Int):=qae (by omega)
   by_cases hki:kk < i
   ·rw[decide_eq_true (by omega),cond_true]
    obtain⟨x,F1,e2,d2⟩:=qkk hcur hl 2 (by omega) (by omega)
    rw[show((2:Nat):Int)=2 from rfl] at e2
    simp only[e2,EV0]
    cases x with
    | true=>
     obtain⟨q,e3,o3,d3⟩:=put F1 d2
     simp only[cond_true,hnx kk s hs,qgb,e3,hk1,EV0]
     exact more F1 q o3 d3 k m
    | false=>
     simp only[cond_false,hk1]
     exact keep F1 d2 k m
   ·rw[decide_eq_false (by omega),cond_false]
    cases ring with
    | false=>
     simp only[cond_false,hk1]
     exact keep F (Dr.refl hcur) k m
    | true=>
     rw[cond_true]
     by_cases hik:i < kk
     ·rw[decide_eq_true (by omega),cond_true]
      obtain⟨x,F1,e2,d2⟩:=qkk hcur hl 3 (by omega) (by omega)
      rw[show((3:Nat):Int)=3 from rfl] at e2
      simp only[e2,EV0]
      cases x with
      | false=>
       simp only[cond_false,hk1]
       exact keep F1 d2 k m
      | true=>
       obtain⟨y,F2,e3,d3⟩:=qkk d2.cur hl 2 (by omega) (by omega)
       rw[show((2:Nat):Int)=2 from rfl] at e3
       simp only[cond_true,e3,EV0]
       cases y with
       | true=>
        obtain⟨q,e4,o4,d4⟩:=put F2 (d2.trans d3)
        simp only[cond_true,hnx kk s hs,qgb,e4,hk1,EV0]
        exact more F2 q o4 d4 k m
       | false=>
        simp only[cond_false,hk1]
        exact keep F2 (d2.trans d3) k m
     ·rw[decide_eq_false (by omega),cond_false]
      simp only[hk1]
      exact keep F (Dr.refl hcur) k m
 have loop:∀ (d i n:Nat) (l:List MPack) (c:Cell) (G:List Entry),i+d=names.length→d < n→DrN H1.length id code H1 G→OwnM H1.length G.length G 4 c (trL 4 MPack.tr l)→Drawn names l→l.length=i→∀ k m,1000≤m→
   ∃ (l':List MPack) (c':Cell) (H':List Entry),qyq k m n (.ptr id 3 0 0 0) ring (.lst f 1 (names.map eStr)) c (i:Int) G=some ([.one c'],H')∧DrN H1.length id code H1 H'∧OwnM H1.length H'.length H' 4 c' (trL 4 MPack.tr l')∧Drawn names l'∧l'.length=names.length:=by
  intro d
  induction d with
  | zero=>
   intro i n l c G hi hn hd ho hdr hll k m hm
   obtain⟨n,rfl⟩:∃ j,n=j+1:=⟨n - 1,by omega⟩
   refine⟨l,c,G,?_,hd,ho,hdr,by omega⟩
   simp only[qyq,hnl,Option.bind_some]
   rw[decide_eq_false (by omega),cond_false]
  | succ d ih=>
   intro i n l c G hi hn hd ho hdr hll k m hm
   obtain⟨n,rfl⟩:∃ j,n=j+1:=⟨n - 1,by omega⟩
   obtain⟨s,hs⟩:∃ s,names[i]?=some s:=⟨_,List.getElem?_eq_getElem (by omega)⟩
   have hidm:id < H1.length:=by have:=d1.len;omega
   obtain⟨p,cN,cC,mid,G1,e2,d2,oN,oC,pn,pu,ps,_⟩:=qnqb hd.cur hl s (hsm s (List.mem_of_getElem? hs))
   have ho1:=ho.frame (d2.toN (Nat.le_refl _)) hidm (Nat.le_refl _)
   have hGl:=hd.len
   have hps:qtu {p with Uses:=[]}:=⟨ps.1,⟨by simp,by simp⟩,ps.2.2⟩
   obtain⟨us,q,e3,d3,o3,s3,u3⟩:=inner (qyq k m n) i p cN cC c G.length l G G1 hGl d2.len ho1 ⟨mid,oN,oC⟩ hps (by omega) (by omega) names.length 0 m [] (.lst true 1 []) G1 (by omega) (by omega) ((Dr.refl d2.cur).toN (Nat.le_refl _)) d2.cur (OwnM.nil 1 _ _ 1 _ (Nat.le_refl _)) (by simp) (by simp) k m
   obtain⟨l',c',H',e4,r⟩:=ih (i+1) n (l++[{p with Uses:=us}]) q.1 q.2 (by omega) (by omega) (hd.trans ((d2.toN hGl).trans d3)) o3 ⟨by
     rw[List.map_append,hdr.nm,List.length_append,List.map_cons,List.map_nil,List.length_singleton,hll,List.take_add_one,hs]
     simp[pn],by simp;omega,fun x hx=>by
     rcases List.mem_append.1 hx with h | h
     ·exact hdr.sm x h
     ·simp only[List.mem_singleton] at h
      rw[h];exact s3,fun x hx=>by
     rcases List.mem_append.1 hx with h | h
     ·exact hdr.us x h
     ·simp only[List.mem_singleton] at h
      rw[h];exact u3⟩ (by simp;omega) k m hm
   refine⟨l',c',H',?_,r⟩
   rw[show((0:Nat):Int)=0 from rfl,pn] at e3
   simp only[qyq,hnl,Option.bind_some]
   rw[decide_eq_true (by omega),cond_true]
   simp only[hnx i s hs,e2,EV0]
   rw[e3]
   exact e4
 obtain⟨l',c',H',e4,d4,o4,r1,r2⟩:=loop names.length 0 1000 [] (.vs H1.length 4 0 0 0) (H1++[Entry.mk 4 [] 0 false]) (by omega) (by omega) ((Dr.app d1.cur _).toN (Nat.le_refl _)) (by
  exact⟨[H1.length],.inr ⟨H1.length,0,0,[],false,[],rfl,rfl,by simp,fun _=>rfl,fun _=>⟨rfl,rfl⟩,by simp,by simp,.nil⟩,⟨by simp,by simp,by simp,by simp⟩,qcd _ _ _ _ _⟩) ⟨by simp,by simp,by simp,by simp⟩ rfl 1000 1000 (by omega)
 refine⟨l',v,c',H',qmib 999 ?_,d1.trans d4.full,o4.wide d1.len (Nat.le_refl _),by rw[← hnames];exact r1,hv,by rw[← hnames];exact r2⟩
 rw[show((4:Nat):Int)=4 from rfl] at e1
 rw[show((0:Nat):Int)=0 from rfl] at e4
 simp only[fea,e1,hsl,EV0]
 exact e4
theorem qmsc {id:Nat}{code:Str}{H:List Entry}(hc:Cur H id code)(hl:code.length≤1048576):∃ (s:Str) (H':List Entry),qvy [.one (.ptr id 3 0 0 0)] H=some ([.one (Cell.str (bs s))],H')∧Dr id code H H'∧s.length≤20:=by
 obtain⟨s1,G1,e1,d1,m1⟩:=qga hc hl true [[],[97],[98],[97,98],[97,45,98],[65,98],[120,49],[101,108,101,118,101,110,98,121,116,101,115],[116,101,110,45,98,121,116,101,115,49],[97,32,98],[9],[127],[49,97],[45,97],[122],[104,101,108,108,111]] (by simp) (by simp)
 have h1:s1.length≤20:=(by decide:∀ s∈([[],[97],[98],[97,98],[97,45,98],[65,98],[120,49],[101,108,101,118,101,110,98,121,116,101,115],[116,101,110,45,98,121,116,101,115,49],[97,32,98],[9],[127],[49,97],[45,97],[122],[104,101,108,108,111]]:List Str),s.length≤20) s1 m1
 simp only[List.map_cons,List.map_nil,eStr] at e1
 refine⟨s1,G1,qrfb 0 ?_,d1,h1⟩
 simp only[fds,e1,EV0]
theorem OwnM.push0 {lo mid n sz by':Nat}{H:List Entry}{c:Cell}{trs:List (List Tr)}{row:List Cell}{tr:List Tr}(h:OwnM lo mid H (n+1) c (.list sz trs))(hr:OwnS mid H.length H n row tr)(hrl:row.length=sz)
  (hlen:trs.length≤1048576) (hby:by'≤1000):
  ∃ p:Cell×List Entry,app H sz by' c [row]=some p∧OwnM lo p.2.length p.2 (n+1) p.1 (.list sz (trs++[tr]))∧H.length≤p.2.length∧∀ j,j < lo→p.2[j]?=H[j]?:=by
 obtain⟨ids,h1,h2,h3⟩:=h
 obtain⟨js,k1,k2⟩:=hr
 have hb:(trs.length+1)*by'≤1048577*1000:=Nat.mul_le_mul (by omega) hby
 obtain⟨d,H',ids',a,r,nl,nd,g,m,k,_⟩:=h1.append (by':=by') (ys:=[row]) (tys:=[tr]) (js:=js++[]) h3 h2.nd (.cons k1 .nil) (by intro r hr;simp at hr;rw[hr];exact hrl) (by simpa using k2.nd) (fun j hj h=>by
  have e1:=h2.hi j hj
  have e2:=k2.lo j (by simpa using h)
  omega) (by simp[bound];omega) (by simp[bound];omega)
 have hle:=k2.le
 have hle2:=h2.le
 refine⟨(d,H'),a,⟨ids',r,⟨by show lo≤H'.length;omega,nd,fun j hj=>?_,r.lt⟩,nl⟩,m,fun j hj=>k j (by omega) fun h=>by have:=h2.lo j h;omega⟩
 rcases g j hj with h | h | h
 ·exact h2.lo j h
 ·have:=k2.lo j (by simpa using h)
  omega
 ·omega
theorem OwnM.pushF {lo mid n sz by':Nat}{H:List Entry}{c:Cell}{trs:List (List Tr)}{row:List Cell}{tr:List Tr}(h:OwnM lo mid H (n+1) c (.list sz trs))(hr:OwnS mid H.length H n row tr)(hrl:row.length=sz)
  (hlen:trs.length≤1048576) (hby:by'≤1000):
  ∃ p:Cell×List Entry,app (H++[Entry.mk sz [row] 0 false]) sz by' c [row]=some p∧OwnM lo p.2.length p.2 (n+1) p.1 (.list sz (trs++[tr]))∧H.length≤p.2.length∧∀ j,j < lo→p.2[j]?=H[j]?:=by
 obtain⟨ids,h1,h2,h3⟩:=h
 obtain⟨js,k1,k2⟩:=hr
 obtain⟨p,a,b,c',d⟩:=OwnM.push0 (by':=by') (H:=H++[Entry.mk sz [row] 0 false]) (row:=row) (tr:=tr) ⟨ids,h1.app _,h2,h3⟩ ⟨js,Rep.app2 _ k1,k2.wide (Nat.le_refl _) (by simp)⟩ hrl hlen hby
 have hle:=k2.le
 have hle2:=h2.le
 exact⟨p,a,b,by simp at c';omega,fun j hj=>by rw[d j hj,List.getElem?_append_left (by omega)]⟩
theorem OwnM.frameF {lo hi n:Nat}{H H':List Entry}{c:Cell}{t:Tr}(h:OwnM lo hi H n c t)(d:∀ j,lo≤j→j < hi→H'[j]?=H[j]?):OwnM lo hi H' n c t:=by
 obtain⟨ids,a,b,e⟩:=h
 exact⟨ids,a.frame fun j hj=>d j (b.lo j hj) (b.hi j hj),b,e⟩
theorem DrN.ofF {N id:Nat}{code:Str}{H H':List Entry}(hc:Cur H id code)(hid:id < N)(h1:H.length≤H'.length)(h2:∀ j,j < N→H'[j]?=H[j]?):DrN N id code H H':=by
 obtain⟨i,x,hi,he⟩:=hc
 exact⟨h1,fun j _ hj=>h2 j hj,i,x,hi,by rw[h2 id hid];exact he⟩
theorem qoec {id:Nat}{code:Str}{H:List Entry}(hc:Cur H id code)(hl:code.length≤1048576):∃ (l:List Str) (c:Cell) (H':List Entry),qyd [.one (.ptr id 3 0 0 0)] H=some ([.one c],H')∧Dr id code H H'∧OwnM H.length H'.length H' 2 c (trL 1 qbx l)∧l.length≤5∧∀ a∈l,a.length≤20:=by
 have hM:=qag
 have hid:id < H.length:=by obtain⟨i,x,_,he⟩:=hc;exact(List.getElem?_eq_some_iff.1 he).1
 have loop:∀ (d n:Nat) (l:List Str) (c:Cell) (G:List Entry),d < n→DrN H.length id code H G→OwnM H.length G.length G 2 c (trL 1 qbx l)→l.length+d≤5→(∀ a∈l,a.length≤20)→∀ k m,
   ∃ (l':List Str) (c':Cell) (H':List Entry),qcab k m n (.ptr id 3 0 0 0) c (d:Int) G=some ([.one c'],H')∧DrN H.length id code H H'∧OwnM H.length H'.length H' 2 c' (trL 1 qbx l')∧l'.length≤5∧∀ a∈l',a.length≤20:=by
  intro d
  induction d with
  | zero=>
   intro n l c G hn hd ho hll hs k m
   obtain⟨n,rfl⟩:∃ j,n=j+1:=⟨n - 1,by omega⟩
   refine⟨l,c,G,?_,hd,ho,by omega,hs⟩
   simp only[qcab]
   rw[decide_eq_false (by omega),cond_false]
  | succ d ih=>
   intro n l c G hn hd ho hll hs k m
   obtain⟨n,rfl⟩:∃ j,n=j+1:=⟨n - 1,by omega⟩
   obtain⟨s,G1,e1,d1,h1⟩:=qmsc hd.cur hl
   have ho1:=ho.frame (d1.toN (Nat.le_refl _)) hid (Nat.le_refl _)
   obtain⟨p,e2,o2,l2,f2⟩:=OwnM.push0 (by':=16) (sz:=1) (row:=[Cell.str (bs s)]) (tr:=qbx s) ho1 ⟨[],Sp.leaf1 _,Mine.nil d1.len⟩ rfl (by simp;omega) (by omega)
   obtain⟨l',c',H',e3,r⟩:=ih n (l++[s]) p.1 p.2 (by omega) (hd.trans ((d1.toN hd.len).trans (DrN.ofF d1.cur hid l2 f2))) (by
    rw[trL,List.map_append]
    exact o2) (by simp;omega) (fun a ha=>by
    rcases List.mem_append.1 ha with h | h
    ·exact hs a h
    ·simp only[List.mem_singleton] at h
     rw[h];exact h1) k m
   refine⟨l',c',H',?_,r⟩
   simp only[qcab]
   rw[decide_eq_true (by omega),cond_true]
   simp only[e1,e2,EV0]
   rw[qcw (by omega)]
   exact e3
 obtain⟨v,G2,e2,d2,hv⟩:=qdy hc hl 6 (by omega) (by omega)
 obtain⟨l',c',H',e3,d3,r⟩:=loop v 1000 [] (.lst true 1 []) G2 (by omega) (d2.toN (Nat.le_refl _)) (OwnM.nil 1 _ _ 1 _ d2.len) (by simp;omega) (by simp) 1000 1000
 refine⟨l',c',H',qoyb 999 ?_,d3.full,r⟩
 rw[show((6:Nat):Int)=6 from rfl] at e2
 simp only[fdo,e2,EV0]
 exact e3
theorem VecN.fresh (H:List Entry)(sz:Nat):VecN (H++[Entry.mk sz [] 0 false]) [H.length] (.vs H.length sz 0 0 0) sz []:=.inr ⟨H.length,0,rfl,rfl,by simp⟩
theorem x_fdw (p:MPack)(h1:p.Uses.length≤1000)(h2:p.Needs.length≤1000)(h3:p.Cmds.length≤1000)(h4:∀ c∈p.Cmds,c.Acts.length≤1000):
  ∃ (cU cN cC:Cell) (E:List Entry) (a b:Nat),qld [.agg [Cell.str (bs p.Name),qax p.Uses,encL 2 MNeed.enc p.Needs,encL 2 MCmd.enc p.Cmds]] []=some ([.agg [Cell.str (bs p.Name),cU,cN,cC]],E)∧
   OwnM 0 a E 2 cU (trL 1 qbx p.Uses)∧OwnM a b E 2 cN (trL 2 MNeed.tr p.Needs)∧OwnM b E.length E 3 cC (trL 2 MCmd.tr p.Cmds):=by
 have hM:=qag
 obtain⟨q1,i1,a1,v1,f1,l1,m1⟩:=(VecN.nil ([]:List Entry) 1).app (by':=16) (p.Uses.map eStr) (by simp;omega) (by omega)
 obtain⟨q2,i2,a2,v2,f2,l2,m2⟩:=(VecN.nil q1.2 2).app (by':=32) (p.Needs.map MNeed.enc) (by simp;omega) (by omega)
 simp only[List.nil_append] at v1 v2
 have hi1:=v1.lt
 have lt1:∀ j∈i2,q1.2.length≤j:=fun j hj=>by
  rcases m2 j hj with h | h
  ·simp at h
  ·exact h
 have o1:OwnM 0 q1.2.length q2.2 2 q1.1 (trL 1 qbx p.Uses):=by
  have hv:=v1.ownF (lo:=0) (hi:=q1.2.length) (tr:=qbx) (by simp) (Nat.le_refl _) (Nat.zero_le _) (fun _=>rfl) (fun x=>Sp.leaf1 _)
  exact hv.frameF fun j _ hj=>f2 j hj (by simp)
 have o2:OwnM q1.2.length q2.2.length q2.2 2 q2.1 (trL 2 MNeed.tr p.Needs):=v2.ownF lt1 (Nat.le_refl _) l2 (fun _=>rfl) (fun x=>by
  unfold MNeed.tr MNeed.enc
  exact .cons (i:=[]) (is:=[]) ⟨rfl,rfl⟩ (Sp.leaf1 _))
 have loop:∀ (d i n:Nat) (c:Cell) (G:List Entry),i+d=p.Cmds.length→d < n→q2.2.length≤G.length→(∀ j,j < q2.2.length→G[j]?=q2.2[j]?)→OwnM q2.2.length G.length G 3 c (trL 2 MCmd.tr (p.Cmds.take i))→∀ k m,
   ∃ (c':Cell) (E:List Entry),qarb k m n (i:Int) (bs p.Name) (qax p.Uses) (encL 2 MNeed.enc p.Needs) (encL 2 MCmd.enc p.Cmds) (bs p.Name) q1.1 q2.1 c G=some ([.agg [Cell.str (bs p.Name),q1.1,q2.1,c']],E)∧(∀ j,j < q2.2.length→E[j]?=q2.2[j]?)∧OwnM q2.2.length E.length E 3 c' (trL 2 MCmd.tr p.Cmds):=by
  intro d
  induction d with
  | zero=>
   intro i n c G hi hn hlG hfr ho k m
   obtain⟨n,rfl⟩:∃ j,n=j+1:=⟨n - 1,by omega⟩
   rw[List.take_of_length_le (by omega)] at ho
   refine⟨c,G,?_,hfr,ho⟩
   simp only[qarb,qan,Option.bind_some]
   rw[decide_eq_false (by omega),cond_false]
  | succ d ih=>
   intro i n c G hi hn hlG hfr ho k m
   obtain⟨n,rfl⟩:∃ j,n=j+1:=⟨n - 1,by omega⟩
   obtain⟨x,hx⟩:∃ x,p.Cmds[i]?=some x:=⟨_,List.getElem?_eq_getElem (by omega)⟩
   have hxa:=h4 x (List.mem_of_getElem? hx)
   obtain⟨q3,i3,a3,v3,f3,l3,m3⟩:=(VecN.nil G 1).app (by':=16) (x.Acts.map eStr) (by simp;omega) (by omega)
   rw[List.nil_append] at v3
   have l3':G.length≤q3.2.length:=l3
   have lo3:∀ j∈i3,G.length≤j:=fun j hj=>by
    rcases m3 j hj with h | h
    ·simp at h
    ·exact h
   have o3:OwnM G.length q3.2.length q3.2 2 q3.1 (trL 1 qbx x.Acts):=v3.ownF lo3 (Nat.le_refl _) l3' (fun _=>rfl) (fun x=>Sp.leaf1 _)
   have fG:∀ j,j < G.length→q3.2[j]?=G[j]?:=fun j hj=>f3 j hj (by simp)
   have ho':=ho.frameF (H':=q3.2) fun j _ hj=>fG j hj
   obtain⟨p4,a4,o4,l4,f4⟩:=OwnM.pushF (by':=40) (sz:=2) (row:=[Cell.str (bs x.Task),q3.1]) (tr:=MCmd.tr x) ho' (by
    obtain⟨js,j1,j2⟩:=o3.s1.leaf (v:=.string (bs x.Task))
    exact⟨js,by unfold MCmd.tr;exact j1,j2⟩) rfl (by simp;omega) (by omega)
   obtain⟨c',E,e5,r⟩:=ih (i+1) n p4.1 p4.2 (by omega) (by omega) (by omega) (fun j hj=>by rw[f4 j hj,fG j (by omega),hfr j hj]) (by
    rw[List.take_add_one,hx,trL,List.map_append]
    exact o4) k m
   refine⟨c',E,?_,r⟩
   simp only[qarb,qan,Option.bind_some]
   rw[decide_eq_true (by omega),cond_true]
   simp only[qav,hx,MCmd.enc,qgn,qpq,a3,qgb,a4,qae (show i < maxLen by omega),Nat.zero_add,Nat.reduceAdd,EV0]
   exact e5
 obtain⟨c',E,e3,f3,o3⟩:=loop p.Cmds.length 0 2000 (.lst true 2 []) q2.2 (by omega) (by omega) (Nat.le_refl _) (fun _ _=>rfl) (OwnM.nil 2 _ _ 2 _ (Nat.le_refl _)) 2000 2000
 have hq:q1.2.length≤q2.2.length:=l2
 refine⟨q1.1,q2.1,c',E,q1.2.length,q2.2.length,qlzb 1999 ?_,o1.frameF fun j _ hj=>f3 j (by omega),o2.frameF fun j _ hj=>f3 j hj,o3⟩
 have s1:qah [] 1 (qax p.Uses)=some (p.Uses.map eStr):=qpq _ _
 have s2:∀ H,qah H 2 (encL 2 MNeed.enc p.Needs)=some (p.Needs.map MNeed.enc):=fun H=>by simp[qah,rowsOf,encL]
 rw[show((0:Nat):Int)=0 from rfl] at e3
 simp only[fdw,s1,a1,s2,a2,Option.bind_some]
 exact e3
theorem Rep.head {H:List Entry}{n sz:Nat}{ids:List Nat}{c:Cell}{r:List Tr}{trs:List (List Tr)}(h:Rep H true true (n+1) ids c (.list sz (r::trs))):∃ id ep row rest i0 i1,c=.vs id sz 0 (trs.length+1) ep∧ids=id::(i0++i1)∧H[id]?=some ⟨sz,row::rest,ep,false⟩∧
  row.length=sz∧(∀ r∈rest,r.length=sz)∧Sp (Rep H true true n) i0 row r∧Sp (Sp (Rep H true true n)) i1 rest trs:=by
 rcases h with⟨h,_⟩ | ⟨id,off,ep,e,fr,is,rfl,rfl,he,hq,hwh,hl,hrl,hs⟩
 ·simp at h
 ·obtain⟨rfl,hle⟩:=hwh rfl
  obtain rfl:=hq rfl
  rw[List.drop_zero,List.take_of_length_le (by omega)] at hs
  obtain⟨i,i',a,as',rfl,rfl,h1,h2⟩:=hs.cons_inv
  exact⟨id,ep,a,as',i,i',rfl,rfl,he,hrl a List.mem_cons_self,fun r hr=>hrl r (List.mem_cons_of_mem _ hr),h1,h2⟩
theorem Rep.head_mk {H:List Entry}{n sz id ep:Nat}{row:List Cell}{rest:List (List Cell)}{i0 i1:List Nat}{r:List Tr}{trs:List (List Tr)}(he:H[id]?=some ⟨sz,row::rest,ep,false⟩)(hr:row.length=sz)(hrest:∀ r∈rest,r.length=sz)
  (h0:Sp (Rep H true true n) i0 row r) (h1:Sp (Sp (Rep H true true n)) i1 rest trs):Rep H true true (n+1) (id::(i0++i1)) (.vs id sz 0 (trs.length+1) ep) (.list sz (r::trs)):=by
 have hl:=h1.length
 refine .inr ⟨id,0,ep,row::rest,false,i0++i1,rfl,rfl,he,fun _=>rfl,fun _=>⟨rfl,by simp[hl]⟩,by simp[hl],fun r hr'=>?_,?_⟩
 ·rcases List.mem_cons.1 hr' with rfl | h
  ·exact hr
  ·exact hrest r h
 ·rw[List.drop_zero,List.take_of_length_le (by simp[hl])]
  exact .cons h0 h1
structure PkO (lo:Nat)(H:List Entry)(cU cN cC:Cell)(p:MPack)(iU iN iC:List Nat):Prop where
 r1:Rep H true true 3 iU cU (trL 1 qbx p.Uses)
 r2:Rep H true true 3 iN cN (trL 2 MNeed.tr p.Needs)
 r3:Rep H true true 3 iC cC (trL 2 MCmd.tr p.Cmds)
 nd:(iU++(iN++iC)).Nodup
 lo':∀ j∈iU++(iN++iC),lo≤j
 l1:qdn cU
 l2:qdn cN
 l3:qdn cC
theorem PkO.s {lo:Nat}{H:List Entry}{cU cN cC:Cell}{p:MPack}{iU iN iC:List Nat}(h:PkO lo H cU cN cC p iU iN iC)(hl:lo≤H.length):OwnS lo H.length H 3 [Cell.str (bs p.Name),cU,cN,cC] p.tr:=by
 refine⟨[]++(iU++(iN++(iC++[]))),?_,⟨hl,by simpa using h.nd,fun j hj=>h.lo' j (by simpa using hj),fun j hj=>?_⟩⟩
 ·unfold MPack.tr
  exact .cons ⟨rfl,rfl⟩ (.cons h.r1 (.cons h.r2 (.cons h.r3 .nil)))
 ·simp only[List.nil_append,List.append_nil,List.mem_append] at hj
  rcases hj with hj | hj | hj
  ·exact h.r1.lt j hj
  ·exact h.r2.lt j hj
  ·exact h.r3.lt j hj
theorem PkO.frame {lo id:Nat}{code:Str}{H H':List Entry}{cU cN cC:Cell}{p:MPack}{iU iN iC:List Nat}(h:PkO lo H cU cN cC p iU iN iC)(d:Dr id code H H')(hid:id < lo):PkO lo H' cU cN cC p iU iN iC:=by
 have key:∀ j,j∈iU++(iN++iC)→j < H.length→H'[j]?=H[j]?:=fun j hj hl=>d.old j (fun e=>by have:=h.lo' j hj;omega) hl
 exact⟨h.r1.frame fun j hj=>key j (by simp[hj]) (h.r1.lt j hj),h.r2.frame fun j hj=>key j (by simp[hj]) (h.r2.lt j hj),h.r3.frame fun j hj=>key j (by simp[hj]) (h.r3.lt j hj),h.nd,h.lo',h.l1,h.l2,h.l3⟩
theorem PkO.setU {lo:Nat}{H H1:List Entry}{cU cN cC c:Cell}{p:MPack}{iU iN iC is:List Nat}(h:PkO lo H cU cN cC p iU iN iC)(us:List Str)(hlo:lo≤H.length)(hf:∀ j,lo≤j→j < H.length→j∉iU→H1[j]?=H[j]?)(hc:Rep H1 true true 3 is c (trL 1 qbx us))(hn:is.Nodup)(hi:∀ j∈is,j∈iU∨H.length≤j)(nl:qdn c):
  PkO lo H1 c cN cC {p with Uses:=us} is iN iC:=by
 have hnd:=List.nodup_append.1 h.nd
 have l2:=h.r2.lt
 have l3:=h.r3.lt
 refine⟨hc,h.r2.frame fun j hj=>hf j (h.lo' j (by simp[hj])) (l2 j hj) fun hh=>hnd.2.2 j hh j (by simp[hj]) rfl,h.r3.frame fun j hj=>hf j (h.lo' j (by simp[hj])) (l3 j hj) fun hh=>hnd.2.2 j hh j (by simp[hj]) rfl,List.nodup_append.2 ⟨hn,hnd.2.1,fun a ha b hb e=>?_⟩,fun j hj=>?_,nl,h.l2,h.l3⟩
 ·subst e
  rcases hi a ha with h1 | h1
  ·exact hnd.2.2 a h1 a hb rfl
  ·rcases List.mem_append.1 hb with hb | hb
   ·have:=l2 a hb;omega
   ·have:=l3 a hb;omega
 ·rcases List.mem_append.1 hj with hj | hj
  ·rcases hi j hj with h1 | h1
   ·exact h.lo' j (by simp[h1])
   ·omega
  ·exact h.lo' j (List.mem_append_right _ hj)
theorem PkO.setN {lo:Nat}{H H1:List Entry}{cU cN cC c:Cell}{p:MPack}{iU iN iC is:List Nat}(h:PkO lo H cU cN cC p iU iN iC)(ns:List MNeed)(hlo:lo≤H.length)(hf:∀ j,lo≤j→j < H.length→j∉iN→H1[j]?=H[j]?)(hc:Rep H1 true true 3 is c (trL 2 MNeed.tr ns))(hn:is.Nodup)(hi:∀ j∈is,j∈iN∨H.length≤j)(nl:qdn c):
  PkO lo H1 cU c cC {p with Needs:=ns} iU is iC:=by
 have hnd:=List.nodup_append.1 h.nd
 have hnd2:=List.nodup_append.1 hnd.2.1
 have l1:=h.r1.lt
 have l3:=h.r3.lt
 refine⟨h.r1.frame fun j hj=>hf j (h.lo' j (by simp[hj])) (l1 j hj) fun hh=>hnd.2.2 j hj j (by simp[hh]) rfl,hc,h.r3.frame fun j hj=>hf j (h.lo' j (by simp[hj])) (l3 j hj) fun hh=>hnd2.2.2 j hh j hj rfl,List.nodup_append.2 ⟨hnd.1,List.nodup_append.2 ⟨hn,hnd2.2.1,fun a ha b hb e=>?_⟩,fun a ha b hb e=>?_⟩,fun j hj=>?_,h.l1,nl,h.l3⟩
 ·subst e
  rcases hi a ha with h1 | h1
  ·exact hnd2.2.2 a h1 a hb rfl
  ·have:=l3 a hb;omega
 ·subst e
  rcases List.mem_append.1 hb with hb | hb
  ·rcases hi a hb with h1 | h1
   ·exact hnd.2.2 a ha a (by simp[h1]) rfl
   ·have:=l1 a ha;omega
  ·exact hnd.2.2 a ha a (by simp[hb]) rfl
 ·simp only[List.mem_append] at hj
  rcases hj with hj | hj | hj
  ·exact h.lo' j (by simp[hj])
  ·rcases hi j hj with h1 | h1
   ·exact h.lo' j (by simp[h1])
   ·omega
  ·exact h.lo' j (by simp[hj])
theorem PkO.setC {lo:Nat}{H H1:List Entry}{cU cN cC c:Cell}{p:MPack}{iU iN iC is:List Nat}(h:PkO lo H cU cN cC p iU iN iC)(cs:List MCmd)(hlo:lo≤H.length)(hf:∀ j,lo≤j→j < H.length→j∉iC→H1[j]?=H[j]?)(hc:Rep H1 true true 3 is c (trL 2 MCmd.tr cs))(hn:is.Nodup)(hi:∀ j∈is,j∈iC∨H.length≤j)(nl:qdn c):
  PkO lo H1 cU cN c {p with Cmds:=cs} iU iN is:=by
 have hnd:=List.nodup_append.1 h.nd
 have hnd2:=List.nodup_append.1 hnd.2.1
 have l1:=h.r1.lt
 have l2:=h.r2.lt
 refine⟨h.r1.frame fun j hj=>hf j (h.lo' j (by simp[hj])) (l1 j hj) fun hh=>hnd.2.2 j hj j (by simp[hh]) rfl,h.r2.frame fun j hj=>hf j (h.lo' j (by simp[hj])) (l2 j hj) fun hh=>hnd2.2.2 j hj j hh rfl,hc,List.nodup_append.2 ⟨hnd.1,List.nodup_append.2 ⟨hnd2.1,hn,fun a ha b hb e=>?_⟩,fun a ha b hb e=>?_⟩,fun j hj=>?_,h.l1,h.l2,nl⟩
 ·subst e
  rcases hi a hb with h1 | h1
  ·exact hnd2.2.2 a ha a h1 rfl
  ·have:=l2 a ha;omega
 ·subst e
  rcases List.mem_append.1 hb with hb | hb
  ·exact hnd.2.2 a ha a (by simp[hb]) rfl
  ·rcases hi a hb with h1 | h1
   ·exact hnd.2.2 a ha a (by simp[h1]) rfl
   ·have:=l1 a ha;omega
 ·simp only[List.mem_append] at hj
  rcases hj with hj | hj | hj
  ·exact h.lo' j (by simp[hj])
  ·exact h.lo' j (by simp[hj])
  ·rcases hi j hj with h1 | h1
   ·exact h.lo' j (by simp[h1])
   ·omega
theorem qzgb (a:Cell):eqC a a=true:=by unfold eqC;simp
theorem qsv {H:List Entry}{c d:Cell}(h:qal false H (.one c)=some (.one d)):reify false H depth c=some d:=by
 simp only[qal,Option.map_eq_some_iff,AV.one.injEq] at h
 obtain⟨x,h1,rfl⟩:=h
 exact h1
theorem qcyd {H:List Entry}{a b c d a' b' c' d':Cell}(h1:qal false H (.one a)=some (.one a'))(h2:qal false H (.one b)=some (.one b'))(h3:qal false H (.one c)=some (.one c'))(h4:qal false H (.one d)=some (.one d')):
  qal false H (.agg [a,b,c,d])=some (.agg [a',b',c',d']):=by
 simp only[qal,mapO,qsv h1,qsv h2,qsv h3,qsv h4,Option.map_some]
theorem f_fdw (p:MPack)(h1:p.Uses.length≤1000)(h2:p.Needs.length≤1000)(h3:p.Cmds.length≤1000)(h4:∀ c∈p.Cmds,c.Acts.length≤1000):
  Fresh qld true 3 [.agg [Cell.str (bs p.Name),qax p.Uses,encL 2 MNeed.enc p.Needs,encL 2 MCmd.enc p.Cmds]] [.agg p.tr]:=by
 obtain⟨cU,cN,cC,E,a,b,e,⟨iU,u1,u2,_⟩,⟨iN,n1,n2,_⟩,⟨iC,k1,k2,_⟩⟩:=x_fdw p h1 h2 h3 h4
 refine Fresh.agg (ids:=[]++(iU++(iN++(iC++[])))) e ?_ ?_
 ·unfold MPack.tr
  exact .cons ⟨rfl,rfl⟩ (.cons (u1.more (by omega)) (.cons (n1.more (by omega)) (.cons k1 .nil)))
 ·simpa using (u2.app (n2.app k2)).nd
theorem qjub {p:Run}{args vs:List AV}{cs ds:List Cell}{E H H2:List Entry}(ha:mapO (qal false H) args=some vs)(h:p vs []=some ([.agg cs],E))(hc:qfd p args H=some ([.agg ds],H2))(hn:∀ c∈cs,qdn c):∀ d∈ds,qdn d:=by
 unfold qfd at hc
 rw[ha] at hc
 simp only[h] at hc
 split at hc
 ·simp only[List.map_cons,List.map_nil,Option.some.injEq,Prod.mk.injEq,List.cons.injEq,AV.agg.injEq,and_true] at hc
  obtain⟨h1,_⟩:=hc
  subst h1
  intro d hd f s q e
  obtain⟨c,hc',rfl⟩:=List.mem_map.1 hd
  cases c with
  | lst f' s' q'=>
   simp only[qhr,Cell.lst.injEq] at e
   have:=hn _ hc' f' s' q' rfl
   rw[← e.1];exact this
  | _=>simp[qhr] at e
 ·simp at hc
theorem d_fdw {H:List Entry}{cs:List Cell}(p:MPack)(h1:p.Uses.length≤1000)(h2:p.Needs.length≤1000)(h3:p.Cmds.length≤1000)(h4:∀ c∈p.Cmds,c.Acts.length≤1000)
  (ha:qal false H (.agg cs)=some (.agg [Cell.str (bs p.Name),qax p.Uses,encL 2 MNeed.enc p.Needs,encL 2 MCmd.enc p.Cmds])):
  ∃ cU cN cC E iU iN iC,qfd qld [.agg cs] H=some ([.agg [Cell.str (bs p.Name),cU,cN,cC]],H++E)∧PkO H.length (H++E) cU cN cC p iU iN iC:=by
 obtain⟨cU0,cN0,cC0,E0,a,b,e0,⟨_,_,_,t1⟩,⟨_,_,_,t2⟩,⟨_,_,_,t3⟩⟩:=x_fdw p h1 h2 h3 h4
 have ham:mapO (qal false H) [.agg cs]=some [.agg [Cell.str (bs p.Name),qax p.Uses,encL 2 MNeed.enc p.Needs,encL 2 MCmd.enc p.Cmds]]:=qbb ha (qas _)
 obtain⟨ds,E,ids,e1,r1,w1,_⟩:=freshA (f_fdw p h1 h2 h3 h4) H ham
 have hnl:=qjub ham e0 e1 (by
  intro c hc
  simp only[List.mem_cons,List.not_mem_nil,or_false] at hc
  rcases hc with rfl | rfl | rfl | rfl
  ·intro f s r h;simp at h
  ·exact t1
  ·exact t2
  ·exact t3)
 have r1':=r1
 unfold MPack.tr at r1'
 obtain⟨i0,j1,c0,ds1,q1,rfl,k0,r2⟩:=r1'.cons_inv
 obtain⟨iU,j2,cU,ds2,q2,rfl,k1,r3⟩:=r2.cons_inv
 obtain⟨iN,j3,cN,ds3,q3,rfl,k2,r4⟩:=r3.cons_inv
 obtain⟨iC,j4,cC,ds4,q4,rfl,k3,r5⟩:=r4.cons_inv
 obtain⟨q5,rfl⟩:=r5.nil_inv
 obtain⟨q6,rfl⟩:=k0
 have hids:ids=iU++(iN++iC):=by rw[q1,q2,q3,q4,q5,q6];simp
 refine⟨cU,cN,cC,E,iU,iN,iC,e1,k1,k2,k3,by rw[← hids];exact w1.nd,fun j hj=>w1.lo j (by rw[hids];exact hj),hnl _ (by simp),hnl _ (by simp),hnl _ (by simp)⟩
def qvbc (c:MCmd):Prop:=c.Task.length≤20∧c.Acts.length≤6∧∀ a∈c.Acts,a.length≤100
def qegc (n:MNeed):Prop:=n.Name.length≤20∧n.Range.length≤40
def qly (p:MPack):Prop:=p.Name.length≤20∧(p.Uses.length≤5∧∀ u∈p.Uses,u.length≤20)∧(p.Needs.length≤4∧∀ n∈p.Needs,qegc n)∧(p.Cmds.length≤4∧∀ c∈p.Cmds,qvbc c)
theorem qtu.q {p:MPack}(h:qtu p):qly p:=by
 obtain⟨h1,⟨h2,h3⟩,⟨h4,h5⟩,h6,h7⟩:=h
 exact⟨h1,⟨by omega,h3⟩,⟨by omega,fun n hn=>⟨(h5 n hn).1,Nat.le_trans (h5 n hn).2 (by omega)⟩⟩,by omega,fun c hc=>⟨(h7 c hc).1,Nat.le_trans (h7 c hc).2.1 (by omega),(h7 c hc).2.2.1⟩⟩
def qli (cs:List MCmd)(s:Str):List MCmd:=match cs with
 | x::r=>{x with Acts:=x.Acts++[s]}::r
 | []=>[]
theorem PkO.act {lo id:Nat}{code:Str}{H G:List Entry}{cU cN cC:Cell}{p:MPack}{iU iN iC:List Nat}(h:PkO lo H cU cN cC p iU iN iC)(hne:p.Cmds≠[])(hlen:∀ c∈p.Cmds,c.Acts.length≤1000∧c.Acts≠[])(hlo:lo≤H.length)(hid:id < lo)(d:Dr id code H G)(s:Str):
  ∃ (a0 a1 ca:Cell) (row:List Cell) (q:Cell×List Entry) (H':List Entry) (iC':List Nat),idxA 2 cC 0=some a0∧fldA a0 1=some a1∧deref H a1=some (row,1)∧deref G a1=some (row,1)∧deref (G++[Entry.mk 1 [[Cell.str (bs s)]] 0 false]) a1=some (row,1)∧Ev.cC row 1=some ca∧
   app (G++[Entry.mk 1 [[Cell.str (bs s)]] 0 false]) 1 16 ca [[Cell.str (bs s)]]=some q∧qbu q.2 a1 [q.1]=some H'∧PkO lo H' cU cN cC {p with Cmds:=qli p.Cmds s} iU iN iC'∧DrN lo id code G H':=by
 have hG:=h.frame d hid
 have hGl:=d.len
 cases hc:p.Cmds with
 | nil=>exact absurd hc hne
 | cons x r=>
  have r3:=hG.r3
  rw[hc,trL,List.map_cons] at r3
  obtain⟨ci,ep,row,rest,i0,i1,rfl,hids,he,hrl,hrest,k0,k1⟩:=r3.head
  have k0':=k0
  unfold MCmd.tr at k0'
  obtain⟨j0,j1,c0,cs1,e0,rfl,q0,q1⟩:=k0'.cons_inv
  obtain⟨ia,j2,ca,cs2,e1,rfl,q2,q3⟩:=q1.cons_inv
  obtain⟨e2,rfl⟩:=q3.nil_inv
  obtain⟨e3,rfl⟩:=q0
  have hia:i0=ia:=by rw[e0,e1,e2,e3];simp
  subst hia
  have hnd:=List.nodup_append.1 hG.nd
  have hndC:=(List.nodup_append.1 hnd.2.1).2.1
  rw[hids] at hndC
  obtain⟨hn1,hn2⟩:=List.nodup_cons.1 hndC
  have hn3:=List.nodup_append.1 hn2
  have hcil:ci < G.length:=(List.getElem?_eq_some_iff.1 he).1
  have heH:H[ci]?=some ⟨2,[Cell.sc (.string (bs x.Task)),ca]::rest,ep,false⟩:=by
   have hl:ci < H.length:=h.r3.lt ci (by rw[hids];exact List.mem_cons_self)
   rw[← d.old ci (fun e=>by have:=h.lo' ci (by simp[hids]);omega) hl]
   exact he
  have hal:=hlen x (by rw[hc];exact List.mem_cons_self)
  have nlA:qdn ca:=by
   rcases q2 with⟨h,_⟩ | ⟨_,_,_,_,_,_,rfl,_⟩
   ·simp only[List.map_eq_nil_iff] at h
    exact absurd h hal.2
   ·exact qcd _ _ _ _ _
  obtain⟨dn,G2,ids',a,rr,nl,nd,g,m,k,_⟩:=(q2.app [Entry.mk 1 [[Cell.str (bs s)]] 0 false]).append (by':=16) (ys:=[[Cell.str (bs s)]]) (tys:=[qbx s]) (js:=[]) nlA hn3.1 (.cons (i:=[]) (is:=[]) (Sp.leaf1 _) .nil) (by simp) (by simp) (by simp) (by simp[bound];omega) (by simp[bound];omega)
  have hm:G.length+1≤G2.length:=by simpa using m
  have fr:∀ j,j < G.length→j∉i0→G2[j]?=G[j]?:=fun j hj hn=>by rw[k j (by simp;omega) hn,List.getElem?_append_left hj]
  have hci2:G2[ci]?=some ⟨2,[Cell.sc (.string (bs x.Task)),ca]::rest,ep,false⟩:=by rw[fr ci hcil fun h=>hn1 (List.mem_append_left _ h)];exact he
  have hlt0:=q2.lt
  have gi:∀ j∈ids',j∈i0∨G.length≤j:=fun j hj=>by
   rcases g j hj with h | h | h
   ·exact .inl h
   ·simp at h
   ·simp at h;exact .inr (by omega)
  have hne2:∀ j,j≠ci→(G2.set ci ⟨2,[Cell.sc (.string (bs x.Task)),dn]::rest,ep,false⟩)[j]?=G2[j]?:=fun j hj=>List.getElem?_set_ne (Ne.symm hj)
  have hcs:(G2.set ci ⟨2,[Cell.sc (.string (bs x.Task)),dn]::rest,ep,false⟩)[ci]?=some ⟨2,[Cell.sc (.string (bs x.Task)),dn]::rest,ep,false⟩:=List.getElem?_set_self (by omega)
  have nci:∀ j∈ids',j≠ci:=fun j hj e=>by
   subst e
   rcases gi j hj with h | h
   ·exact hn1 (List.mem_append_left _ h)
   ·omega
  have rr':Rep (G2.set ci ⟨2,[Cell.sc (.string (bs x.Task)),dn]::rest,ep,false⟩) true true 2 ids' dn (trL 1 qbx (x.Acts++[s])):=by
   rw[trL,List.map_append]
   exact rr.frame fun j hj=>hne2 j (nci j hj)
  have k1':Sp (Sp (Rep (G2.set ci ⟨2,[Cell.sc (.string (bs x.Task)),dn]::rest,ep,false⟩) true true 2)) i1 rest (r.map MCmd.tr):=by
   refine k1.mono fun i b t hi hs=>hs.mono fun i' b' t' hi' hr=>hr.frame fun j hj=>?_
   have hj1:=hi j (hi' j hj)
   rw[hne2 j fun e=>hn1 (by rw[← e];exact List.mem_append_right _ hj1),fr j (hr.lt j hj) fun h=>hn3.2.2 j h j hj1 rfl]
  have rC:=Rep.head_mk (i0:=[]++(ids'++[])) (r:=MCmd.tr {x with Acts:=x.Acts++[s]}) hcs rfl hrest (by
   unfold MCmd.tr
   exact .cons ⟨rfl,rfl⟩ (.cons rr' .nil)) k1'
  simp only[List.nil_append,List.append_nil] at rC
  have dd:∀ F:List Entry,F[ci]?=some ⟨2,[Cell.sc (.string (bs x.Task)),ca]::rest,ep,false⟩→deref F (.ptr ci 2 0 1 ep)=some ([Cell.sc (.string (bs x.Task)),ca],1):=fun F hF=>by simp[deref,entry?,hF]
  refine⟨.ptr ci 2 0 0 ep,.ptr ci 2 0 1 ep,ca,[Cell.sc (.string (bs x.Task)),ca],(dn,G2),G2.set ci ⟨2,[Cell.sc (.string (bs x.Task)),dn]::rest,ep,false⟩,ci::(ids'++i1),?_,by rw[qcu],dd H heH,dd G he,dd _ (by rw[List.getElem?_append_left hcil];exact he),rfl,a,?_,?_,?_⟩
  ·simp only[idxA,if_true]
   rw[if_pos ⟨by omega,by omega⟩]
   rfl
  ·simp[qbu,entry?,hci2,splice]
  ·refine PkO.setC hG (qli (x::r) s) (by omega) (H1:=G2.set ci ⟨2,[Cell.sc (.string (bs x.Task)),dn]::rest,ep,false⟩) (fun j _ hj hn=>?_) ?_ ?_ (fun j hj=>?_) (qcd _ _ _ _ _)
   ·rw[hids] at hn
    rw[hne2 j fun e=>hn (by rw[e];exact List.mem_cons_self),fr j hj fun h=>hn (List.mem_cons_of_mem _ (List.mem_append_left _ h))]
   ·exact rC
   ·refine List.nodup_cons.2 ⟨fun h=>?_,List.nodup_append.2 ⟨nd,hn3.2.1,fun b hb c hc e=>?_⟩⟩
    ·rcases List.mem_append.1 h with h | h
     ·exact nci ci h rfl
     ·exact hn1 (List.mem_append_right _ h)
    ·subst e
     rcases gi b hb with h | h
     ·exact hn3.2.2 b h b hc rfl
     ·have:=hG.r3.lt b (by rw[hids];exact List.mem_cons_of_mem _ (List.mem_append_right _ hc))
      omega
   ·rw[hids]
    rcases List.mem_cons.1 hj with rfl | hj
    ·exact .inl List.mem_cons_self
    ·rcases List.mem_append.1 hj with hj | hj
     ·rcases gi j hj with h | h
      ·exact .inl (List.mem_cons_of_mem _ (List.mem_append_left _ h))
      ·exact .inr h
     ·exact .inl (List.mem_cons_of_mem _ (List.mem_append_right _ hj))
  ·refine DrN.ofF d.cur hid (by simp;omega) fun j hj=>?_
   have hlo2:=h.lo' ci (by simp[hids])
   rw[hne2 j (by omega),fr j (by omega) fun hh=>by
    have:=h.lo' j (by rw[hids];simp[hh])
    omega]
theorem PkO.pushU {lo:Nat}{H:List Entry}{cU cN cC:Cell}{p:MPack}{iU iN iC:List Nat}(h:PkO lo H cU cN cC p iU iN iC)(hlo:lo≤H.length)(s:Str)(hl:p.Uses.length≤1000):
  ∃ (q:Cell×List Entry) (iU':List Nat),app (H++[Entry.mk 1 [[Cell.str (bs s)]] 0 false]) 1 16 cU [[Cell.str (bs s)]]=some q∧PkO lo q.2 q.1 cN cC {p with Uses:=p.Uses++[s]} iU' iN iC∧H.length≤q.2.length∧∀ j,j < lo→q.2[j]?=H[j]?:=by
 obtain⟨d,H',ids',a,r,nl,nd,g,m,k,_⟩:=(h.r1.app [Entry.mk 1 [[Cell.str (bs s)]] 0 false]).append (by':=16) (ys:=[[Cell.str (bs s)]]) (tys:=[qbx s]) (js:=[]) h.l1 (List.nodup_append.1 h.nd).1 (.cons (i:=[]) (is:=[]) (Sp.leaf1 _) .nil) (by simp) (by simp) (by simp) (by simp[bound];omega) (by simp[bound];omega)
 have hm:H.length+1≤H'.length:=by simpa using m
 have fr:∀ j,j < H.length→j∉iU→H'[j]?=H[j]?:=fun j hj hn=>by rw[k j (by simp;omega) hn,List.getElem?_append_left hj]
 refine⟨(d,H'),ids',a,h.setU (p.Uses++[s]) hlo (fun j _=>fr j) (by rw[trL,List.map_append];exact r) nd (fun j hj=>?_) nl,by show H.length≤H'.length;omega,fun j hj=>fr j (by omega) fun hh=>by have:=h.lo' j (by simp[hh]);omega⟩
 rcases g j hj with h | h | h
 ·exact .inl h
 ·simp at h
 ·simp at h;exact .inr (by omega)
theorem PkO.pushN {lo:Nat}{H:List Entry}{cU cN cC:Cell}{p:MPack}{iU iN iC:List Nat}(h:PkO lo H cU cN cC p iU iN iC)(hlo:lo≤H.length)(x:MNeed)(hl:p.Needs.length≤1000):
  ∃ (q:Cell×List Entry) (iN':List Nat),app (H++[Entry.mk 2 [[Cell.str (bs x.Name),Cell.str (bs x.Range)]] 0 false]) 2 32 cN [[Cell.str (bs x.Name),Cell.str (bs x.Range)]]=some q∧PkO lo q.2 cU q.1 cC {p with Needs:=p.Needs++[x]} iU iN' iC∧H.length≤q.2.length∧∀ j,j < lo→q.2[j]?=H[j]?:=by
 have hx:Sp (Rep (H++[Entry.mk 2 [[Cell.str (bs x.Name),Cell.str (bs x.Range)]] 0 false]) true true 2) ([]:List Nat) [Cell.str (bs x.Name),Cell.str (bs x.Range)] (MNeed.tr x):=by
  unfold MNeed.tr
  exact .cons (i:=[]) (is:=[]) ⟨rfl,rfl⟩ (Sp.leaf1 _)
 obtain⟨d,H',ids',a,r,nl,nd,g,m,k,_⟩:=(h.r2.app [Entry.mk 2 [[Cell.str (bs x.Name),Cell.str (bs x.Range)]] 0 false]).append (by':=32) (ys:=[[Cell.str (bs x.Name),Cell.str (bs x.Range)]]) (tys:=[MNeed.tr x]) (js:=[]) h.l2 (List.nodup_append.1 (List.nodup_append.1 h.nd).2.1).1 (.cons (i:=[]) (is:=[]) hx .nil) (by simp) (by simp) (by simp) (by simp[bound];omega) (by simp[bound];omega)
 have hm:H.length+1≤H'.length:=by simpa using m
 have fr:∀ j,j < H.length→j∉iN→H'[j]?=H[j]?:=fun j hj hn=>by rw[k j (by simp;omega) hn,List.getElem?_append_left hj]
 refine⟨(d,H'),ids',a,h.setN (p.Needs++[x]) hlo (fun j _=>fr j) (by rw[trL,List.map_append];exact r) nd (fun j hj=>?_) nl,by show H.length≤H'.length;omega,fun j hj=>fr j (by omega) fun hh=>by have:=h.lo' j (by simp[hh]);omega⟩
 rcases g j hj with h | h | h
 ·exact .inl h
 ·simp at h
 ·simp at h;exact .inr (by omega)
theorem PkO.pushC {lo id:Nat}{code:Str}{G H:List Entry}{cU cN cC c:Cell}{p:MPack}{iU iN iC:List Nat}(h:PkO lo G cU cN cC p iU iN iC)(hlo:lo≤G.length)(hid:id < lo)(dd:Dr id code G H)(x:MCmd)(ho:OwnM G.length H.length H 2 c (trL 1 qbx x.Acts))(hl:p.Cmds.length≤1000):
  ∃ (q:Cell×List Entry) (iC':List Nat),app (H++[Entry.mk 2 [[Cell.str (bs x.Task),c]] 0 false]) 2 40 cC [[Cell.str (bs x.Task),c]]=some q∧PkO lo q.2 cU cN q.1 {p with Cmds:=p.Cmds++[x]} iU iN iC'∧H.length≤q.2.length∧∀ j,j < lo→q.2[j]?=H[j]?:=by
 obtain⟨js,j1,j2,_⟩:=ho
 have hml:=j2.le
 have hH:=h.frame dd hid
 have l3:=h.r3.lt
 have hx:Sp (Rep (H++[Entry.mk 2 [[Cell.str (bs x.Task),c]] 0 false]) true true 2) ([]++(js++[])) [Cell.str (bs x.Task),c] (MCmd.tr x):=by
  unfold MCmd.tr
  exact .cons ⟨rfl,rfl⟩ (.cons (j1.app _) .nil)
 have hnd:=List.nodup_append.1 h.nd
 have hnd2:=List.nodup_append.1 hnd.2.1
 obtain⟨d,H',ids',a,r,nl,nd,g,m,k,_⟩:=(hH.r3.app [Entry.mk 2 [[Cell.str (bs x.Task),c]] 0 false]).append (by':=40) (ys:=[[Cell.str (bs x.Task),c]]) (tys:=[MCmd.tr x]) (js:=([]++(js++[]))++[]) h.l3 hnd2.2.1 (.cons hx .nil) (by simp) (by simpa using j2.nd) (fun j hj hh=>by
  have e1:=l3 j hj
  have e2:=j2.lo j (by simpa using hh)
  omega) (by simp[bound];omega) (by simp[bound];omega)
 have hm:H.length+1≤H'.length:=by simpa using m
 have fr:∀ j,j < H.length→j∉iC→H'[j]?=H[j]?:=fun j hj hn=>by rw[k j (by simp;omega) hn,List.getElem?_append_left hj]
 refine⟨(d,H'),ids',a,h.setC (p.Cmds++[x]) hlo (fun j hj1 hj hn=>by rw[fr j (by omega) hn];exact dd.old j (by omega) hj) (by rw[trL,List.map_append];exact r) nd (fun j hj=>?_) nl,by show H.length≤H'.length;omega,fun j hj=>fr j (by omega) fun hh=>by have:=h.lo' j (by simp[hh]);omega⟩
 rcases g j hj with h | h | h
 ·exact .inl h
 ·exact .inr (j2.lo j (by simpa using h))
 ·simp at h;exact .inr (by omega)
theorem PkO.name {lo:Nat}{H:List Entry}{cU cN cC:Cell}{p:MPack}{iU iN iC:List Nat}(h:PkO lo H cU cN cC p iU iN iC)(s:Str):PkO lo H cU cN cC {p with Name:=s} iU iN iC:=⟨h.r1,h.r2,h.r3,h.nd,h.lo',h.l1,h.l2,h.l3⟩
theorem qenc {id:Nat}{code:Str}{H:List Entry}(hc:Cur H id code)(hl:code.length≤1048576):∃ (p:MPack) (cU cN cC:Cell) (H':List Entry),qrf [.one (.ptr id 3 0 0 0)] H=some ([.agg [Cell.str (bs p.Name),cU,cN,cC]],H')∧Dr id code H H'∧
  OwnS H.length H'.length H' 3 [Cell.str (bs p.Name),cU,cN,cC] p.tr∧qly p:=by
 have hM:=qag
 have hid:id < H.length:=by obtain⟨i,x,_,he⟩:=hc;exact(List.getElem?_eq_some_iff.1 he).1
 obtain⟨s1,G1,e1,d1,m1⟩:=qga hc hl true [[97],[98]] (by simp) (by simp)
 have hs1:s1.length≤20:=(by decide:∀ s∈([[97],[98]]:List Str),s.length≤20) s1 m1
 simp only[List.map_cons,List.map_nil,eStr] at e1
 obtain⟨p0,cN0,cC0,mid,G2,e2,d2,oN,oC,pn,pu,ps,pne⟩:=qnqb d1.cur hl s1 hs1
 obtain⟨v,G3,e3,d3,hv⟩:=qdy d2.cur hl 4 (by omega) (by omega)
 obtain⟨us,hus,f,hsl⟩:∃ us:List Str,us=([[97],[98],[99]]:List Str).take v∧∃ f,slcC 1 (.lst true 1 [[Cell.str (bs [97])],[Cell.str (bs [98])],[Cell.str (bs [99])]]) 0 (some (v:Int)) none=some (.lst f 1 (us.map eStr)):=by
  refine⟨_,rfl,?_⟩
  have:v=0∨v=1∨v=2∨v=3:=by omega
  rcases this with rfl | rfl | rfl | rfl<;>exact⟨_,rfl⟩
 have husl:us.length≤3:=by rw[hus];simp;omega
 have husm:∀ u∈us,u.length≤20:=fun u hu=>by
  rw[hus] at hu
  exact(by decide:∀ s∈([[97],[98],[99]]:List Str),s.length≤20) u (List.mem_of_mem_take hu)
 have d12:=d1.trans d2
 have hmid:G1.length≤mid:=by obtain⟨_,_,h,_⟩:=oN;exact h.le
 have hmid2:mid≤G2.length:=by obtain⟨_,_,h,_⟩:=oC;exact h.le
 have hidG:id < G1.length:=by have:=d1.len;omega
 have oN3:=oN.frame (d3.toN (Nat.le_refl _)) hidG hmid2
 have oC3:=oC.frame (d3.toN (Nat.le_refl _)) (by omega) (Nat.le_refl _)
 have ra:qal false G3 (.agg [Cell.str (bs s1),.lst f 1 (us.map eStr),cN0,cC0])=some (.agg [Cell.str (bs s1),qax us,encL 2 MNeed.enc p0.Needs,encL 2 MCmd.enc p0.Cmds]):=by
  refine qcyd (qam _ _ _) (qfi f us G3) ?_ ?_
  ·obtain⟨ids,r,_⟩:=oN3
   have:=qhj r (by omega)
   rwa [qck] at this
  ·obtain⟨ids,r,_⟩:=oC3
   have:=qhj r (by omega)
   rwa [qck] at this
 obtain⟨psn,⟨psu,psu'⟩,⟨psl,psl'⟩,psc,psc'⟩:=ps
 obtain⟨cU,cN,cC,E,iU,iN,iC,e4,k4⟩:=d_fdw (H:=G3) (cs:=[Cell.str (bs s1),.lst f 1 (us.map eStr),cN0,cC0]) {p0 with Name:=s1,Uses:=us} (by show us.length≤1000;omega) (by show p0.Needs.length≤1000;omega) (by show p0.Cmds.length≤1000;omega) (fun c hc=>by have:=(psc' c hc).2.1;omega) ra
 obtain⟨p1,hp1⟩:∃ p1:MPack,p1={p0 with Name:=s1,Uses:=us}:=⟨_,rfl⟩
 rw[← hp1] at k4
 have q1:qly p1:=by
  rw[hp1]
  exact⟨hs1,⟨by show us.length≤5;omega,husm⟩,⟨by show p0.Needs.length≤4;omega,fun n hn=>⟨(psl' n hn).1,Nat.le_trans (psl' n hn).2 (by omega)⟩⟩,by show p0.Cmds.length≤4;omega,fun c hc=>⟨(psc' c hc).1,Nat.le_trans (psc' c hc).2.1 (by omega),(psc' c hc).2.2.1⟩⟩
 have q1u:p1.Uses.length≤3:=by rw[hp1];exact husl
 have q1n:p1.Needs.length≤3:=by rw[hp1];exact psl
 have q1c:p1.Cmds.length≤3:=by rw[hp1];exact psc
 have q1a:∀ c∈p1.Cmds,c.Acts.length≤3∧c.Acts≠[]:=fun c hc=>by rw[hp1] at hc;exact⟨(psc' c hc).2.1,(psc' c hc).2.2.2⟩
 have q1e:p1.Cmds≠[]:=by rw[hp1];exact pne
 have q1nm:p1.Name=s1:=by rw[hp1]
 have e4:qfd qld [.agg [Cell.str (bs s1),.lst f 1 (us.map eStr),cN0,cC0]] G3=some ([.agg [Cell.str (bs s1),cU,cN,cC]],G3++E):=e4
 have dE:=Dr.app d3.cur E
 obtain⟨w,G5,e5,d5,hw⟩:=qdy dE.cur hl 12 (by omega) (by omega)
 have hid3:id < G3.length:=by have:=d12.len;have:=d3.len;omega
 have k5:=k4.frame d5 hid3
 have d05:Dr id code H G5:=d12.trans (d3.trans (dE.trans d5))
 have hG3:H.length≤G3.length:=by have:=(d12.trans d3).len;omega
 have hG35:G3.length≤G5.length:=by have:=(dE.trans d5).len;simpa using this
 have w5:IntKind.i64.wrap 0=0:=rfl
 simp only[show((12:Nat):Int)=12 from rfl,show((4:Nat):Int)=4 from rfl] at e5 e3
 have fin:∀ {G:List Entry} {a b c:Cell} {p:MPack} {i1 i2 i3:List Nat},PkO G3.length G a b c p i1 i2 i3→G3.length≤G.length→OwnS H.length G.length G 3 [Cell.str (bs p.Name),a,b,c] p.tr:=fun k hk=>by
  obtain⟨ids,r,m⟩:=k.s hk
  exact⟨ids,r,m.wide hG3 (Nat.le_refl _)⟩
 have hsplit:w=0∨w=1∨w=2∨w=3∨w=4∨5≤w:=by omega
 rcases hsplit with rfl | rfl | rfl | rfl | rfl | hw5
 ·obtain⟨s,G6,e6,d6,m6⟩:=qga d5.cur hl true [[],[65],[101,108,101,118,101,110,98,121,116,101,115]] (by simp) (by simp)
  have hs:s.length≤20:=(by decide:∀ s∈([[],[65],[101,108,101,118,101,110,98,121,116,101,115]]:List Str),s.length≤20) s m6
  simp only[List.map_cons,List.map_nil,eStr] at e6
  refine⟨{p1 with Name:=s},cU,cN,cC,G6,qff 0 ?_,d05.trans d6,fin ((k5.frame d6 hid3).name s) (Nat.le_trans hG35 d6.len),hs,q1.2⟩
  simp only[fdu,e1,e2,e3,hsl,e4,e5,EV0]
  rw[show(((0:Nat):Int)==0)=true from rfl,cond_true]
  simp only[e6,EV0]
 ·obtain⟨s,G6,e6,d6,m6⟩:=qga d5.cur hl true [[97],[122],[65]] (by simp) (by simp)
  have hs:s.length≤20:=(by decide:∀ s∈([[97],[122],[65]]:List Str),s.length≤20) s m6
  simp only[List.map_cons,List.map_nil,eStr] at e6
  obtain⟨q,iU',e7,k7,l7,f7⟩:=(k5.frame d6 hid3).pushU (Nat.le_trans hG35 d6.len) s (by omega)
  have hl6:=d6.len
  refine⟨{p1 with Uses:=p1.Uses++[s]},q.1,cN,cC,q.2,qff 0 ?_,(d05.toN (Nat.le_refl _)).trans ((d6.toN d05.len).trans (DrN.ofF d6.cur hid l7 fun j hj=>f7 j (by omega))) |>.full,fin k7 (by omega),q1.1,⟨by simp;omega,fun u hu=>?_⟩,q1.2.2⟩
  ·simp only[fdu,e1,e2,e3,hsl,e4,e5,EV0]
   rw[show(((1:Nat):Int)==0)=false from rfl,cond_false,show(((1:Nat):Int)==1)=true from rfl,cond_true]
   simp only[e6,qgb,e7,q1nm,EV0]
  ·rcases List.mem_append.1 hu with h | h
   ·exact q1.2.1.2 u h
   ·simp only[List.mem_singleton] at h
    rw[h];exact hs
 ·obtain⟨s,G6,e6,d6,m6⟩:=qga d5.cur hl true [[97],[122,122]] (by simp) (by simp)
  have hs:s.length≤20:=(by decide:∀ s∈([[97],[122,122]]:List Str),s.length≤20) s m6
  obtain⟨t,G7,e7,d7,m7⟩:=qga d6.cur hl true [[120],[42],[],[62,61,49,46,48,46,48,32,60,50,46,48,46,48,32,124,124,32,51,46,120]] (by simp) (by simp)
  have ht:t.length≤40:=(by decide:∀ s∈([[120],[42],[],[62,61,49,46,48,46,48,32,60,50,46,48,46,48,32,124,124,32,51,46,120]]:List Str),s.length≤40) t m7
  simp only[List.map_cons,List.map_nil,eStr] at e6 e7
  have d67:=d6.trans d7
  obtain⟨q,iN',e8,k8,l8,f8⟩:=(k5.frame d67 hid3).pushN (Nat.le_trans hG35 d67.len) ⟨s,t⟩ (by omega)
  have hl6:=d67.len
  refine⟨{p1 with Needs:=p1.Needs++[⟨s,t⟩]},cU,q.1,cC,q.2,qff 0 ?_,(d05.toN (Nat.le_refl _)).trans ((d67.toN d05.len).trans (DrN.ofF d67.cur hid l8 fun j hj=>f8 j (by omega))) |>.full,fin k8 (by omega),q1.1,q1.2.1,⟨by simp;omega,fun u hu=>?_⟩,q1.2.2.2⟩
  ·simp only[fdu,e1,e2,e3,hsl,e4,e5,EV0]
   rw[show(((2:Nat):Int)==0)=false from rfl,cond_false,show(((2:Nat):Int)==1)=false from rfl,cond_false,show(((2:Nat):Int)==2)=true from rfl,cond_true]
   simp only[e6,e7,qgb,e8,q1nm,EV0]
  ·rcases List.mem_append.1 hu with h | h
   ·exact q1.2.2.1.2 u h
   ·simp only[List.mem_singleton] at h
    rw[h];exact⟨hs,ht⟩
 ·obtain⟨s,G6,e6,d6,m6⟩:=qga d5.cur hl true [[97],[122,122]] (by simp) (by simp)
  have hs:s.length≤20:=(by decide:∀ s∈([[97],[122,122]]:List Str),s.length≤20) s m6
  simp only[List.map_cons,List.map_nil,eStr] at e6
  obtain⟨l,cl,G7,e7,d7,o7,h7,h7'⟩:=qoec d6.cur hl
  obtain⟨q,iC',e8,k8,l8,f8⟩:=(k5.frame d6 hid3).pushC (Nat.le_trans hG35 d6.len) hid3 d7 ⟨s,l⟩ o7 (by omega)
  have d67:=d6.trans d7
  have hl6:=d67.len
  refine⟨{p1 with Cmds:=p1.Cmds++[⟨s,l⟩]},cU,cN,q.1,q.2,qff 0 ?_,(d05.toN (Nat.le_refl _)).trans ((d67.toN d05.len).trans (DrN.ofF d67.cur hid l8 fun j hj=>f8 j (by omega))) |>.full,fin k8 (by omega),q1.1,q1.2.1,q1.2.2.1,by simp;omega,fun u hu=>?_⟩
  ·simp only[fdu,e1,e2,e3,hsl,e4,e5,EV0]
   rw[show(((3:Nat):Int)==0)=false from rfl,cond_false,show(((3:Nat):Int)==1)=false from rfl,cond_false,show(((3:Nat):Int)==2)=false from rfl,cond_false,show(((3:Nat):Int)==3)=true from rfl,cond_true]
   simp only[e6,e7,qgb,e8,q1nm,EV0]
  ·rcases List.mem_append.1 hu with h | h
   ·exact q1.2.2.2.2 u h
   ·simp only[List.mem_singleton] at h
    rw[h];exact⟨hs,by show l.length≤6;omega,fun a ha=>Nat.le_trans (h7' a ha) (by omega)⟩
 ·obtain⟨s,G6,e6,d6,m6⟩:=qga d5.cur hl true [[10],[97,32,116,101,120,116,32,111,102,32,109,111,114,101,32,116,104,97,110,32,102,111,114,116,121,32,98,121,116,101,115,44,32,97,115,32,105,116,32,115,101,101,109,115]] (by simp) (by simp)
  have hs:s.length≤100:=(by decide:∀ s∈([[10],[97,32,116,101,120,116,32,111,102,32,109,111,114,101,32,116,104,97,110,32,102,111,114,116,121,32,98,121,116,101,115,44,32,97,115,32,105,116,32,115,101,101,109,115]]:List Str),s.length≤100) s m6
  simp only[List.map_cons,List.map_nil,eStr] at e6
  obtain⟨a0,a1,ca,row,q,H',iC',x1,x2,x3,x4,x5,x6,x7,x8,x9,x10⟩:=k5.act q1e (fun c hc=>⟨by have:=(q1a c hc).1;omega,(q1a c hc).2⟩) hG35 hid3 d6 s
  have hl6:=d6.len
  refine⟨{p1 with Cmds:=qli p1.Cmds s},cU,cN,cC,H',qff 0 ?_,(d05.toN (Nat.le_refl _)).trans ((d6.toN d05.len).trans ⟨x10.len,fun j hj hjl=>x10.old j hj (by omega),x10.cur⟩) |>.full,fin x9 (by have:=x10.len;omega),q1.1,q1.2.1,q1.2.2.1,?_,fun u hu=>?_⟩
  ·simp only[fdu,e1,e2,e3,hsl,e4,e5,EV0]
   rw[show(((4:Nat):Int)==0)=false from rfl,cond_false,show(((4:Nat):Int)==1)=false from rfl,cond_false,show(((4:Nat):Int)==2)=false from rfl,cond_false,show(((4:Nat):Int)==3)=false from rfl,cond_false,show(((4:Nat):Int)==4)=true from rfl,cond_true]
   simp only[x1,x2,x3,x6,e6,qgb,x7,x8,x4,x5,qzgb,q1nm,EV0]
  ·show(qli p1.Cmds s).length≤4
   cases hcm:p1.Cmds with
   | nil=>simp[qli]
   | cons x r=>rw[hcm] at q1c;simp[qli] at q1c ⊢;omega
  ·cases hcm:p1.Cmds with
   | nil=>exact absurd hcm q1e
   | cons x r=>
    have hxm:x∈p1.Cmds:=by rw[hcm];exact List.mem_cons_self
    have hu:u∈qli p1.Cmds s:=hu
    rw[hcm] at hu
    simp only[qli,List.mem_cons] at hu
    rcases hu with rfl | hu
    ·have hx:=q1.2.2.2.2 x hxm
     have ha:=(q1a x hxm).1
     refine⟨hx.1,by simp;omega,fun a ha'=>?_⟩
     rcases List.mem_append.1 ha' with h | h
     ·exact hx.2.2 a h
     ·simp only[List.mem_singleton] at h
      rw[h];exact hs
    ·exact q1.2.2.2.2 u (by rw[hcm];exact List.mem_cons_of_mem _ hu)
 ·refine⟨p1,cU,cN,cC,G5,qff 0 ?_,d05,fin k5 hG35,q1⟩
  simp only[fdu,e1,e2,e3,hsl,e4,e5,EV0]
  rw[show((w:Int)==0)=false by simp;omega,cond_false,show((w:Int)==1)=false by simp;omega,cond_false,show((w:Int)==2)=false by simp;omega,cond_false,show((w:Int)==3)=false by simp;omega,cond_false,show((w:Int)==4)=false by simp;omega,cond_false,q1nm]
theorem OwnM.set0 {lo mid n sz:Nat}{H:List Entry}{c:Cell}{t:List Tr}{ts:List (List Tr)}{row:List Cell}{r:List Tr}(h:OwnM lo mid H (n+1) c (.list sz (t::ts)))(hr:OwnS mid H.length H n row r)(hrl:row.length=sz):
  ∃ (a:Cell) (H':List Entry),idxA sz c 0=some a∧qbu H a row=some H'∧OwnM lo H'.length H' (n+1) c (.list sz (r::ts))∧H.length≤H'.length∧∀ j,j < lo→H'[j]?=H[j]?:=by
 obtain⟨ids,h1,h2,h3⟩:=h
 obtain⟨js,k1,k2⟩:=hr
 obtain⟨ci,ep,old,rest,i0,i1,rfl,rfl,he,hol,hrest,q0,q1⟩:=h1.head
 have hcil:ci < H.length:=(List.getElem?_eq_some_iff.1 he).1
 obtain⟨hn1,hn2⟩:=List.nodup_cons.1 h2.nd
 have hn3:=List.nodup_append.1 hn2
 have hne:∀ j,j≠ci→(H.set ci ⟨sz,row::rest,ep,false⟩)[j]?=H[j]?:=fun j hj=>List.getElem?_set_ne (Ne.symm hj)
 have hcs:(H.set ci ⟨sz,row::rest,ep,false⟩)[ci]?=some ⟨sz,row::rest,ep,false⟩:=List.getElem?_set_self hcil
 have hcm:ci < mid:=h2.hi ci List.mem_cons_self
 have njs:∀ j∈js,j≠ci:=fun j hj=>by have:=k2.lo j hj;omega
 have rC:=Rep.head_mk (i0:=js) (i1:=i1) (r:=r) hcs hrl hrest (k1.mono fun i b t' hi hr=>hr.frame fun j hj=>hne j (njs j (hi j hj)))
  (q1.mono fun i b t' hi hs=>hs.mono fun i' b' t'' hi' hr=>hr.frame fun j hj=>hne j fun e=>hn1 (by rw[← e];exact List.mem_append_right _ (hi j (hi' j hj))))
 have hle:=h2.le
 have hml:=k2.le
 refine⟨.ptr ci sz 0 0 ep,H.set ci ⟨sz,row::rest,ep,false⟩,?_,?_,⟨ci::(js++i1),rC,⟨by simp;omega,List.nodup_cons.2 ⟨fun hh=>?_,List.nodup_append.2 ⟨k2.nd,hn3.2.1,fun a ha b hb e=>?_⟩⟩,fun j hj=>?_,rC.lt⟩,qcd _ _ _ _ _⟩,by simp,fun j hj=>hne j (by have:=h2.lo ci List.mem_cons_self;omega)⟩
 ·simp only[idxA,if_true]
  rw[if_pos ⟨by omega,by omega⟩]
  rfl
 ·have hsp:splice old 0 row=row:=by
   unfold splice
   rw[List.take_zero,List.nil_append,List.drop_eq_nil_of_le (by omega),List.append_nil]
  have hent:entry? H ci ep=some ⟨sz,old::rest,ep,false⟩:=by simp[entry?,he]
  simp only[qbu,hent,List.getElem?_cons_zero]
  rw[if_pos ⟨trivial,by omega,trivial⟩,hsp]
  rfl
 ·rcases List.mem_append.1 hh with hh | hh
  ·exact njs ci hh rfl
  ·exact hn1 (List.mem_append_right _ hh)
 ·subst e
  have e1:=k2.lo a ha
  have e2:=h2.hi a (List.mem_cons_of_mem _ (List.mem_append_right _ hb))
  omega
 ·rcases List.mem_cons.1 hj with rfl | hj
  ·exact h2.lo _ List.mem_cons_self
  ·rcases List.mem_append.1 hj with hj | hj
   ·have:=k2.lo j hj;omega
   ·exact h2.lo j (List.mem_cons_of_mem _ (List.mem_append_right _ hj))
theorem qnf {id:Nat}{code:Str}{H:List Entry}(hc:Cur H id code)(hl:code.length≤1048576):∃ (l:List MPack) (c:Cell) (H':List Entry),qnx [.one (.ptr id 3 0 0 0)] H=some ([.one c],H')∧Dr id code H H'∧
    OwnM H.length H'.length H' 4 c (trL 4 MPack.tr l) ∧ l.length ≤ 9 ∧ ∀ p ∈ l, qly p := by
  have hM := qag
  have hid : id < H.length := by obtain ⟨i, x, _, he⟩ := hc; exact (List.getElem?_eq_some_iff.1 he).1
  obtain ⟨b, G1, e1, d1⟩ := qkk hc hl 3 (by omega) (by omega)
  obtain ⟨l, v, c, G2, e2, d2, o2, r1, r2, r3⟩ := qgjb d1.cur hl b
  obtain ⟨w, G3, e3, d3, hw⟩ := qdy d2.cur hl 8 (by omega) (by omega)
  have hl4 : l.length ≤ 4 := by rw [r3]; simp [qzh]; omega
  have hl1 : 1 ≤ l.length := by rw [r3]; simp [qzh]; omega
  have hsm : ∀ p ∈ l, qly p := fun p hp => (r1.sm p hp).q
  have o3 := o2.frame (d3.toN (Nat.le_refl _)) (by have := d1.len; omega) (Nat.le_refl _)
  have d123 := d1.trans (d2.trans d3)
  have hG := d1.len
  have hG2 := d2.len
  have hG3 := d3.len
  simp only [show ((3 : Nat) : Int) = 3 from rfl, show ((8 : Nat) : Int) = 8 from rfl] at e1 e3
  have hsplit : w = 0 ∨ w = 1 ∨ w = 2 ∨ 3 ≤ w := by omega
  rcases hsplit with rfl | rfl | rfl | hw3
  · obtain ⟨p, cU, cN, cC, G4, e4, d4, o4, q4⟩ := qenc d3.cur hl
    have o34 := o3.frame (d4.toN (Nat.le_refl _)) (by omega) d3.len
    obtain ⟨q, e5, o5, d5⟩ := OwnM.push (by' := 88) (sz := 4) (row := [Cell.str (bs p.Name), cU, cN, cC]) (tr := MPack.tr p) o34 (by
      obtain ⟨js, j1, j2⟩ := o4
      exact ⟨js, j1, j2.wide hG3 (Nat.le_refl _)⟩) rfl d4.cur (by omega) (by simp; omega) (by omega)
    refine ⟨l ++ [p], q.1, q.2, qjg 0 ?_, ((d123.trans d4).toN (Nat.le_refl _)).trans ⟨d5.len, fun j hj hjl => d5.old j hj (by omega), d5.cur⟩ |>.full, by
      rw [trL, List.map_append]
      exact o5.wide hG (Nat.le_refl _), by simp; omega, fun x hx => ?_⟩
    · simp only [feb, e1, e2, e3, EV0]
      rw [show (((0 : Nat) : Int) == 0) = true from rfl, cond_true]
      simp only [e4, qgb, e5, EV0]
    · rcases List.mem_append.1 hx with h | h
      · exact hsm x h
      · simp only [List.mem_singleton] at h
        rw [h]; exact q4
  · obtain ⟨p, cU, cN, cC, G4, e4, d4, o4, q4⟩ := qenc d3.cur hl
    have o34 := o3.frame (d4.toN (Nat.le_refl _)) (by omega) d3.len
    cases hlc : l with
    | nil => rw [hlc] at hl1; simp at hl1
    | cons x r =>
      rw [hlc, trL, List.map_cons] at o34
      obtain ⟨a, H', x1, x2, x3, x4, x5⟩ := o34.set0 (r := MPack.tr p) (row := [Cell.str (bs p.Name), cU, cN, cC]) (by
        obtain ⟨js, j1, j2⟩ := o4
        exact ⟨js, j1, j2.wide hG3 (Nat.le_refl _)⟩) rfl
      have hd4 := d4.len
      refine ⟨p :: r, c, H', qjg 0 ?_, ((d123.trans d4).toN (Nat.le_refl _)).trans (DrN.ofF d4.cur hid x4 fun j hj => x5 j (by omega)) |>.full, by
        rw [trL, List.map_cons]
        exact x3.wide hG (Nat.le_refl _), by rw [hlc] at hl4; simp at hl4 ⊢; omega, fun y hy => ?_⟩
      · simp only [feb, e1, e2, e3, EV0]
        rw [show (((1 : Nat) : Int) == 0) = false from rfl, cond_false, show (((1 : Nat) : Int) == 1) = true from rfl, cond_true]
        simp only [e4, x1, x2, EV0]
      · rcases List.mem_cons.1 hy with rfl | hy
        · exact q4
        · exact hsm y (by rw [hlc]; exact List.mem_cons_of_mem _ hy)
  · have loop : ∀ (d i n : Nat) (l' : List MPack) (c : Cell) (G : List Entry), i + d = 5 → d < n → DrN G1.length id code G3 G → OwnM G1.length G.length G 4 c (trL 4 MPack.tr l') → l'.length + d ≤ 9 → (∀ p ∈ l', qly p) → ∀ k m,
        ∃ (l2 : List MPack) (c' : Cell) (H' : List Entry), qbcb k m n c (i : Int) G = some ([.one c'], H') ∧ DrN G1.length id code G3 H' ∧ OwnM G1.length H'.length H' 4 c' (trL 4 MPack.tr l2) ∧ l2.length ≤ 9 ∧ ∀ p ∈ l2, qly p := by
      intro d
      induction d with
      | zero =>
        intro i n l' c G hi hn hd ho hll hs k m
        obtain ⟨n, rfl⟩ : ∃ j, n = j + 1 := ⟨n - 1, by omega⟩
        refine ⟨l', c, G, ?_, hd, ho, by omega, hs⟩
        simp only [qbcb]
        rw [decide_eq_false (by omega), cond_false]
      | succ d ih =>
        intro i n l' c G hi hn hd ho hll hs k m
        obtain ⟨n, rfl⟩ : ∃ j, n = j + 1 := ⟨n - 1, by omega⟩
        have hnl : (numT i).length ≤ 7 := by
          have : i = 0 ∨ i = 1 ∨ i = 2 ∨ i = 3 ∨ i = 4 := by omega
          have h1 := qnd i
          have h2 := (qcf (qwo (k := i) (most := 1000) (by omega) (by omega))).2.2
          omega
        have en := c_fcw i (by omega)
        have ec : catS (bs [122]) (bs (numT i)) = some (bs ([122] ++ numT i)) := qdm (by simp; omega)
        obtain ⟨q, e4, o4, d4⟩ := OwnM.push (by' := 88) (sz := 4) (row := [Cell.str (bs ([122] ++ numT i)), .lst true 1 [], .lst true 2 [], .lst true 2 []]) (tr := MPack.tr ⟨[122] ++ numT i, [], [], []⟩) ho (by
          refine ⟨[] ++ ([] ++ ([] ++ ([] ++ []))), ?_, Mine.nil (Nat.le_refl _)⟩
          unfold MPack.tr
          exact .cons ⟨rfl, rfl⟩ (.cons (.inl ⟨rfl, rfl, true, rfl⟩) (.cons (.inl ⟨rfl, rfl, true, rfl⟩) (.cons (.inl ⟨rfl, rfl, true, rfl⟩) .nil)))) rfl hd.cur (by omega) (by simp; omega) (by omega)
        obtain ⟨l2, c', H', e5, r⟩ := ih (i + 1) n (l' ++ [⟨[122] ++ numT i, [], [], []⟩]) q.1 q.2 (by omega) (by omega) (hd.trans d4) (by
          rw [trL, List.map_append]
          exact o4) (by simp; omega) (fun p hp => by
          rcases List.mem_append.1 hp with h | h
          · exact hs p h
          · simp only [List.mem_singleton] at h
            rw [h]
            exact ⟨by simp; omega, ⟨by simp, by simp⟩, ⟨by simp, by simp⟩, by simp, by simp⟩) k m
        refine ⟨l2, c', H', ?_, r⟩
        simp only [qbcb]
        rw [decide_eq_true (by omega), cond_true]
        simp only [en, ec, qgb, e4, qae (show i < maxLen by omega), EV0]
        exact e5
    obtain ⟨l2, c', H', e4, d4, o4, q4, q5⟩ := loop 5 0 1000 l c G3 (by omega) (by omega) ((Dr.refl d3.cur).toN (by omega)) (o3.wide (Nat.le_refl _) hG3) (by omega) hsm 1000 1000
    refine ⟨l2, c', H', qjg 999 ?_, (d123.toN (Nat.le_refl _)).trans ⟨d4.len, fun j hj hjl => d4.old j hj (by omega), d4.cur⟩ |>.full, o4.wide hG (Nat.le_refl _), q4, q5⟩
    rw [show ((0 : Nat) : Int) = 0 from rfl] at e4
    simp only [feb, e1, e2, e3, EV0]
    rw [show (((2 : Nat) : Int) == 0) = false from rfl, cond_false, show (((2 : Nat) : Int) == 1) = false from rfl, cond_false, show (((2 : Nat) : Int) == 2) = true from rfl, cond_true]
    exact e4
  · refine ⟨l, c, G3, qjg 0 ?_, d123, o3.wide hG hG3, by omega, hsm⟩
    simp only [feb, e1, e2, e3, EV0]
    rw [show ((w : Int) == 0) = false by simp; omega, cond_false, show ((w : Int) == 1) = false by simp; omega, cond_false, show ((w : Int) == 2) = false by simp; omega, cond_false]
def qsu (l:List MPack):Prop:=l.length≤9∧∀ p∈l,qly p
theorem wtB {α:Type}{w:α→Nat}{m:Nat}:∀ (xs:List α),(∀ x∈xs,w x≤m)→wtL w xs≤xs.length*(m+1):=by
 intro xs
 induction xs with
 | nil=>intro _;simp[wtL]
 | cons x xs ih=>
  intro h
  have h1:=ih fun y hy=>h y (List.mem_cons_of_mem _ hy)
  have h2:=h x List.mem_cons_self
  simp only[wtL,List.map_cons,List.sum_cons,List.length_cons,Nat.add_mul] at h1 ⊢
  omega
theorem qly.bd {p:MPack}(h:qly p):p.Bd 1048576:=by
 obtain⟨h1,⟨h2,h3⟩,⟨h4,h5⟩,h6,h7⟩:=h
 refine⟨Nat.le_trans h1 (by omega),⟨by omega,fun u hu=>Nat.le_trans (h3 u hu) (by omega)⟩,⟨by omega,fun n hn=>?_⟩,by omega,fun c hc=>?_⟩
 ·exact⟨Nat.le_trans (h5 n hn).1 (by omega),Nat.le_trans (h5 n hn).2 (by omega)⟩
 ·obtain⟨k1,k2,k3⟩:=h7 c hc
  exact⟨Nat.le_trans k1 (by omega),by omega,fun a ha=>Nat.le_trans (k3 a ha) (by omega)⟩
theorem qly.wt {p:MPack}(h:qly p):MPack.wt p≤10000:=by
 obtain⟨h1,⟨h2,h3⟩,⟨h4,h5⟩,h6,h7⟩:=h
 have e1:=wtB (w:=wtS) (m:=20) p.Uses fun u hu=>h3 u hu
 have e2:=wtB (w:=MNeed.wt) (m:=60) p.Needs fun n hn=>by
  have:=h5 n hn
  unfold qegc at this
  simp only[MNeed.wt,wtS]
  omega
 have e3:=wtB (w:=MCmd.wt) (m:=1000) p.Cmds fun c hc=>by
  obtain⟨k1,k2,k3⟩:=h7 c hc
  have:=wtB (w:=wtS) (m:=100) c.Acts fun a ha=>k3 a ha
  have e:c.Acts.length*(100+1)≤6*101:=Nat.mul_le_mul k2 (by omega)
  simp only[MCmd.wt,wtS] at this ⊢
  omega
 have e4:p.Uses.length*(20+1)≤5*21:=Nat.mul_le_mul h2 (by omega)
 have e5:p.Needs.length*(60+1)≤4*61:=Nat.mul_le_mul h4 (by omega)
 have e6:p.Cmds.length*(1000+1)≤4*1001:=Nat.mul_le_mul h6 (by omega)
 simp only[MPack.wt,wtS] at e1 ⊢
 omega
theorem qsu.bd {l:List MPack}(h:qsu l):bdL 1048576 (MPack.Bd 1048576) l:=⟨by have:=h.1;omega,fun p hp=>(h.2 p hp).bd⟩
theorem qsu.wt {l:List MPack}(h:qsu l):wtL MPack.wt l≤1048576:=by
 have:=wtB (w:=MPack.wt) (m:=10000) l fun p hp=>(h.2 p hp).wt
 have e:l.length*(10000+1)≤9*10001:=Nat.mul_le_mul h.1 (by omega)
 omega
theorem read4 {lo hi:Nat}{H:List Entry}{c:Cell}{l:List MPack}(h:OwnM lo hi H 4 c (trL 4 MPack.tr l)):qal false H (.one c)=some (.one (encL 4 MPack.enc l)):=by
 obtain⟨ids,r,_⟩:=h
 have:=qhj r (by omega)
 rwa [qck] at this
theorem c_fct (code:Str)(hl:code.length≤1048576):∃ (l:List MPack) (s:Str),qsu l∧s.length≤20∧outL qve [.one (qix code)]=some [.one (encL 4 MPack.enc l),.one (Cell.str (bs s))]:=by
 obtain⟨h,e1⟩:=qfkc code hl []
 have hc:Cur ([]++[curE code 0 h]) 0 code:=Cur.new code h []
 obtain⟨l,c,H1,e2,d2,o2,q1,q2⟩:=qnf hc hl
 obtain⟨s,H',e3,d3,m3⟩:=qga d2.cur hl true [[97],[98],[99],[113]] (by simp) (by simp)
 have hs:s.length≤20:=(by decide:∀ s∈([[97],[98],[99],[113]]:List Str),s.length≤20) s m3
 simp only[List.map_cons,List.map_nil,eStr] at e3
 have o3:=o2.frame (d3.toN (Nat.le_refl _)) (by simp) (Nat.le_refl _)
 refine⟨l,s,⟨q1,q2⟩,hs,qbz (xs:=[.one c,.one (Cell.str (bs s))]) (H:=H') (qqob 0 ?_) (qbb (read4 o3) (qaz [.one (Cell.str (bs s))] _ _))⟩
 simp only[List.length_nil,List.nil_append] at e1 e2 e3
 simp only[fct,e1,e2,e3,EV0]
theorem c_fcs (code:Str)(hl:code.length≤1048576):∃ (l:List MPack) (s:Str),qsu l∧s.length≤20∧outL qvt [.one (qix code)]=some [.one (encL 4 MPack.enc l),.one (Cell.str (bs s))]:=by
 obtain⟨l,s,h1,h2,h3⟩:=c_fct code hl
 refine⟨l,s,h1,h2,qeb (H:=[]) (qqjb 0 ?_)⟩
 simp only[fcs,h3,EV0]
theorem c_fdj (code:Str)(hl:code.length≤1048576):∃ l:List MPack,qsu l∧outL qmw [.one (qix code)]=some [.one (encL 4 MPack.enc l)]:=by
 obtain⟨h,e1⟩:=qfkc code hl []
 have hc:Cur ([]++[curE code 0 h]) 0 code:=Cur.new code h []
 obtain⟨b,G,e2,d2⟩:=qkk hc hl 6 (by omega) (by omega)
 simp only[List.length_nil,List.nil_append,show((6:Nat):Int)=6 from rfl] at e1 e2
 cases b with
 | true=>
  obtain⟨l,c,H',e3,d3,o3,q1,q2⟩:=qnf d2.cur hl
  refine⟨l,⟨q1,q2⟩,qbz (xs:=[.one c]) (H:=H') (qvo 0 ?_) (qbb (read4 o3) (qas _))⟩
  simp only[fdj,e1,e2,e3,EV0]
 | false=>
  obtain⟨l,v,c,H',e3,d3,o3,r1,r2,r3⟩:=qgjb d2.cur hl true
  refine⟨l,⟨by rw[r3];simp[qzh];omega,fun p hp=>(r1.sm p hp).q⟩,qbz (xs:=[.one c]) (H:=H') (qvo 0 ?_) (qbb (read4 o3) (qas _))⟩
  simp only[fdj,e1,e2,e3,EV0]
theorem c_fcv (code:Str)(hl:code.length≤1048576):∃ l:List MPack,qsu l∧outL qxw [.one (qix code)]=some [.one (encL 4 MPack.enc l)]:=by
 obtain⟨l,h1,h2⟩:=c_fdj code hl
 refine⟨l,h1,qeb (H:=[]) (qqeb 0 ?_)⟩
 simp only[fcv,h2,EV0]
theorem c_fcu (code:Str)(hl:code.length≤1048576):∃ l:List MPack,qsu l∧outL qwj [.one (qix code)]=some [.one (encL 4 MPack.enc l)]:=by
 obtain⟨l,h1,h2⟩:=c_fdj code hl
 refine⟨l,h1,qeb (H:=[]) (qsmb 0 ?_)⟩
 simp only[fcu,h2,EV0]
theorem c_fcf (x:Str)(hx:bdS maxLen x):out qva [.one (qix x)]=some [.one (Cell.bool (decide (1048576 < x.length)))]:=by
 refine qbw (H:=[]) (qqwb 0 ?_)
 simp only[fcf,qan,EV0]
 rw[show decide ((x.length:Int) > 1048576)=decide (1048576 < x.length) from decide_eq_decide.2 (by omega)]
theorem c_fcg (xs:List Str)(s:Str)(hx:xs.length≤1073741824):out qpn [.one (qax xs),.one (Cell.str (bs s))]=some [.one (Cell.bool (xs.contains s))]:=by
 have hM:=qag
 have loop:∀ (r:List Str) (i n:Nat),xs.drop i=r→r.length < n→∀ k m,qbhb k m n (qax xs) (bs s) i=some ([.one (Cell.bool (r.contains s))],[]):=by
  intro r
  induction r with
  | nil=>
   intro i n hd hn k m
   obtain⟨n,rfl⟩:∃ j,n=j+1:=⟨n - 1,by omega⟩
   have:=drop_nil hd
   simp only[qbhb,qan,Option.bind_some]
   rw[decide_eq_false (by omega),cond_false]
   rfl
  | cons x r ih=>
   intro i n hd hn k m
   obtain⟨n,rfl⟩:∃ j,n=j+1:=⟨n - 1,by omega⟩
   obtain⟨hlt,hg,hd'⟩:=qaq hd
   simp only[List.length_cons] at hn
   simp only[qbhb,qan,Option.bind_some]
   rw[decide_eq_true (by omega),cond_true]
   simp only[qav,hg,eStr,qae (show i < maxLen by omega),ih (i+1) n hd' (by omega),qdz,EV0]
   rw[List.contains_cons]
   by_cases e:x=s
   ·subst e
    simp
   ·rw[show(x==s)=false by simpa using e,show(s==x)=false by simpa using fun h:s=x=>e h.symm,cond_false,Bool.false_or]
 refine qbw (H:=[]) (qpnb (xs.length+1) ?_)
 have:=loop xs 0 (xs.length+1+1) rfl (by omega) (xs.length+1+1) (xs.length+1+1)
 rw[show((0:Nat):Int)=0 from rfl] at this
 simp only[fcg]
 exact this
theorem hasM {H:List Entry}{ids:List Nat}{c:Cell}{xs:List Str}(h:qce H ids c xs)(hx:xs.length≤1073741824)(s:Str):qbc qpn [.one c,.one (Cell.str (bs s))] H=some [.one (Cell.bool (xs.contains s))]:=by
 rw[qbv (qbb h.read (qaz [.one (Cell.str (bs s))] _ _))]
 exact c_fcg xs s hx
theorem qce.take {H:List Entry}{ids:List Nat}{c:Cell}{xs:List Str}(h:qce H ids c xs){n:Nat}(hn:n≤xs.length):∃ c',slcC 1 c 0 (some (n:Int)) none=some c'∧qce H ids c' (xs.take n):=by
 rcases h with⟨f,rfl⟩ | ⟨is,h,hi⟩
 ·refine⟨.lst (qya f none n (xs.map eStr).length) 1 ((xs.take n).map eStr),?_,.inl ⟨_,rfl⟩⟩
  simp only[slcC,Option.getD_some,Option.getD_none,List.length_map]
  rw[if_pos (.inl trivial),if_pos ⟨by omega,by omega,by omega,Int.le_refl _⟩]
  simp[List.map_take]
 ·rcases h with⟨h1,h2,f,rfl⟩ | ⟨id,off,ep,e,fr,is',rfl,rfl,he,_,_,hl,hr,hsp⟩
  ·simp only[List.map_eq_nil_iff] at h1
   subst h1
   simp at hn
   subst hn
   exact⟨.lst (qya f none 0 0) 1 [],by simp[slcC],.inl ⟨_,rfl⟩⟩
  ·simp only[List.length_map] at hl hsp
   have hex:∃ i1,Sp (Sp (Rep H false false 1)) i1 ((e.drop off).take n) ((xs.take n).map qbx)∧∀ j∈i1,j∈is':=by
    by_cases hlt:n < xs.length
    ·obtain⟨i1,i,i2,a,e1,_,_,h4,_⟩:=hsp.at (n:=n) (b:=qbx xs[n]) (by rw[List.getElem?_map,List.getElem?_eq_getElem hlt];rfl)
     rw[List.take_take,← List.map_take,Nat.min_eq_left (by omega)] at h4
     exact⟨i1,h4,fun j hj=>by rw[e1];exact List.mem_append_left _ hj⟩
    ·have:n=xs.length:=by omega
     subst this
     rw[List.take_length]
     exact⟨is',hsp,fun j hj=>hj⟩
   obtain⟨i1,h4,h5⟩:=hex
   refine⟨.vs id 1 off n ep,?_,.inr ⟨id::i1,.inr ⟨id,off,ep,e,fr,i1,by simp[Nat.min_eq_left hn],rfl,he,fun h=>by simp at h,fun h=>by simp at h,by simp;omega,hr,by simpa[Nat.min_eq_left hn] using h4⟩,fun j hj=>hi j ?_⟩⟩
   ·simp only[slcC,Option.getD_some,Option.getD_none,if_true,List.length_map]
    rw[if_pos ⟨by omega,by omega,by omega,Int.le_refl _⟩,if_pos (.inl trivial)]
    simp
   ·rcases List.mem_cons.1 hj with rfl | hj
    ·exact List.mem_cons_self
    ·exact List.mem_cons_of_mem _ (h5 j hj)
end Go.Ev
