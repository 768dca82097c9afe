/- What the functions come to. Conditions: none. -/
import Derived.Test.YteofbfalngmmeaaGreatDoorKp1
set_option linter.unusedSimpArgs false
set_option linter.unusedVariables false
namespace Go.Ev
open Go
theorem qrhc {nx:Str→List Str}{g:Str}:∀ (k:Nat) (x:Str),dst nx g x=k+1→(x::wayL nx g k x).length=k+1∧(∀ (i:Nat) y,(x::wayL nx g k x)[i]?=some y→dst nx g y=k+1 - i)∧
  ∀ (i:Nat) y z,(x::wayL nx g k x)[i]?=some y→(x::wayL nx g k x)[i+1]?=some z→z∈nx y:=by
 intro k
 induction k with
 | zero=>
  intro x hx
  refine⟨rfl,fun i y hy=>?_,fun i y z hy hz=>?_⟩
  ·cases i with
   | zero=>
    simp only[List.getElem?_cons_zero,Option.some.injEq] at hy
    rw[← hy];exact hx
   | succ i=>simp[wayL] at hy
  ·simp[wayL] at hz
 | succ k ih=>
  intro x hx
  obtain⟨y,h1,h2,h3⟩:=qsq hx
  obtain⟨k1,k2,k3⟩:=ih y h2
  have e:wayL nx g (k+1) x=y::wayL nx g k y:=by rw[wayL,h1]
  rw[e]
  refine⟨by rw[List.length_cons,k1],fun i z hz=>?_,fun i a b ha hb=>?_⟩
  ·cases i with
   | zero=>
    simp only[List.getElem?_cons_zero,Option.some.injEq] at hz
    rw[← hz];exact hx
   | succ i=>
    have:=k2 i z (by simpa using hz)
    omega
  ·cases i with
   | zero=>
    simp only[List.getElem?_cons_zero,Option.some.injEq] at ha
    simp only[Nat.zero_add,List.getElem?_cons_succ,List.getElem?_cons_zero,Option.some.injEq] at hb
    rw[← ha,← hb];exact h3
   | succ i=>exact k3 i a b (by simpa using ha) (by simpa using hb)
theorem qzb (s:Str):∀ (l:List MPack) (i:Nat),idxF (fun p:MPack=>p.Name==s) l i=idxS s (l.map (·.Name)) i:=by
 intro l
 induction l with
 | nil=>intro i;rfl
 | cons p l ih=>
  intro i
  rw[idxF,List.map_cons,idxS]
  by_cases e:p.Name=s
  ·rw[show(p.Name==s)=true by simpa using e,cond_true,if_pos e.symm]
  ·rw[show(p.Name==s)=false by simpa using e,cond_false,if_neg (fun h=>e h.symm),ih]
structure RingOk (l:List MPack)(r:List Str):Prop where
 there:∀ (i:Nat) x,r[i]?=some x→∃ (j:Nat) (p:MPack),idxF (fun p:MPack=>p.Name==x) l 0=(j:Int)∧l[j]?=some p∧∀ y,r[(i+1) % r.length]?=some y→p.Uses.contains y=true
 once:∀ (i:Nat) x,r[i]?=some x→(r.take i).contains x=false
theorem qdcb {l:List MPack}{x y:Str}(h:y∈qgf l x):∃ (j:Nat) (p:MPack),idxF (fun p:MPack=>p.Name==x) l 0=(j:Int)∧l[j]?=some p∧p.Uses=qgf l x:=by
 have h0:=h
 unfold qgf qak at h
 split at h
 ·simp at h
 ·rename_i hn
  rw[← qzb] at hn
  rcases qfsb (fun p:MPack=>p.Name==x) l 0 with⟨e1,_⟩ | ⟨j,p,e1,e2,_⟩
  ·omega
  ·refine⟨j,p,by rw[e1,Nat.zero_add],e2,?_⟩
   rw[Nat.zero_add] at e1
   unfold qgf qak
   rw[← qzb,e1,if_neg (by omega)]
   simp[e2]
theorem qbvd (l:List MPack):RingOk l (qgg l):=by
 unfold qgg qbub
 split
 ·rename_i g hg
  have hd:=List.find?_some hg
  have hd:0 < dst (qgf l) g g:=by simpa using hd
  obtain⟨k,hk⟩:∃ k,dst (qgf l) g g=k+1:=⟨dst (qgf l) g g - 1,by omega⟩
  obtain⟨k1,k2,k3⟩:=qrhc k g hk
  have e:qbvb (qgf l) g=g::wayL (qgf l) g k g:=by unfold qbvb;rw[hk];rfl
  rw[e]
  constructor
  ·intro i x hx
   have hi:=(List.getElem?_eq_some_iff.1 hx).1
   rw[k1] at hi
   rw[k1]
   have hdx:=k2 i x hx
   by_cases hl:i=k
   ·have h1:dst (qgf l) g x=1:=by omega
    obtain⟨j,p,j1,j2,j3⟩:=qdcb (qhsb.1 h1)
    refine⟨j,p,j1,j2,fun y hy=>?_⟩
    rw[hl,Nat.mod_self,List.getElem?_cons_zero,Option.some.injEq] at hy
    rw[j3,← hy]
    exact List.contains_iff_mem.2 (qhsb.1 h1)
   ·obtain⟨z,hz⟩:∃ z,(g::wayL (qgf l) g k g)[i+1]?=some z:=⟨_,List.getElem?_eq_getElem (by omega)⟩
    have hm:=k3 i x z hx hz
    obtain⟨j,p,j1,j2,j3⟩:=qdcb hm
    refine⟨j,p,j1,j2,fun y hy=>?_⟩
    rw[Nat.mod_eq_of_lt (by omega),hz,Option.some.injEq] at hy
    rw[j3,← hy]
    exact List.contains_iff_mem.2 hm
  ·intro i x hx
   have hi:=(List.getElem?_eq_some_iff.1 hx).1
   rw[k1] at hi
   rw[Bool.eq_false_iff]
   intro hc
   obtain⟨j,hj⟩:=List.getElem?_of_mem (List.contains_iff_mem.1 hc)
   rw[List.getElem?_take] at hj
   split at hj
   ·rename_i hlt
    have a:=k2 i x hx
    have b:=k2 j x hj
    omega
   ·simp at hj
 ·exact⟨fun i x hx=>by simp at hx,fun i x hx=>by simp at hx⟩
theorem c_fch (xs:List Str)(hx:xs.length≤1073741824):out qhy [.one (qax xs),.one (qax xs)]=some [.one (Cell.bool true)]:=by
 have hM:=qag
 have loop:∀ (d i n:Nat),i+d=xs.length→d < n→∀ k m,qcnb k m n (qax xs) (qax xs) i=some ([.one (Cell.bool true)],[]):=by
  intro d
  induction d with
  | zero=>
   intro i n hi hn k m
   obtain⟨n,rfl⟩:∃ j,n=j+1:=⟨n - 1,by omega⟩
   simp only[qcnb,qan,Option.bind_some]
   rw[decide_eq_false (by omega),cond_false]
  | succ d ih=>
   intro i n hi hn k m
   obtain⟨n,rfl⟩:∃ j,n=j+1:=⟨n - 1,by omega⟩
   obtain⟨x,hx'⟩:∃ x,xs[i]?=some x:=⟨_,List.getElem?_eq_getElem (by omega)⟩
   simp only[qcnb,qan,Option.bind_some]
   rw[decide_eq_true (by omega),cond_true]
   simp only[qav,hx',eStr,qae (show i < maxLen by omega),ih (i+1) n (by omega) (by omega),beq_self_eq_true,Bool.not_true,EV0]
 refine qbw (H:=[]) (qpqb (xs.length+1) ?_)
 have:=loop xs.length 0 (xs.length+1+1) (by omega) (by omega) (xs.length+1+1) (xs.length+1+1)
 rw[show((0:Nat):Int)=0 from rfl] at this
 simp only[fch,qan,bne_self_eq_false,EV0]
 exact this
theorem qudc {H:List Entry}{ids:List Nat}{c:Cell}{xs:List Str}(h:qce H ids c xs)(hx:xs.length≤1073741824):qbc qhy [.one c,.one (qax xs)] H=some [.one (Cell.bool true)]:=by
 rw[qbv (qbb h.read (qaz [.one (qax xs)] _ _))]
 exact c_fch xs hx
theorem c_fce (xs:List Str)(hx:xs.length≤1073741824)(hp:xs.Pairwise (· < ·)):out qnz [.one (qax xs)]=some [.one (Cell.bool true)]:=by
 have hM:=qag
 have loop:∀ (d i n:Nat),i+d=xs.length→d < n→∀ k m,qzg k m n (qax xs) ((i+1:Nat):Int)=some ([.one (Cell.bool true)],[]):=by
  intro d
  induction d with
  | zero=>
   intro i n hi hn k m
   obtain⟨n,rfl⟩:∃ j,n=j+1:=⟨n - 1,by omega⟩
   simp only[qzg,qan,Option.bind_some]
   rw[decide_eq_false (by omega),cond_false]
  | succ d ih=>
   intro i n hi hn k m
   obtain⟨n,rfl⟩:∃ j,n=j+1:=⟨n - 1,by omega⟩
   by_cases hl:i+1 < xs.length
   ·obtain⟨x,hx'⟩:∃ x,xs[i]?=some x:=⟨_,List.getElem?_eq_getElem (by omega)⟩
    obtain⟨y,hy⟩:∃ y,xs[i+1]?=some y:=⟨_,List.getElem?_eq_getElem (by omega)⟩
    have hlt:Op.bytesLess x y=true:=by
     refine(qqzc x y).2 ?_
     obtain⟨a1,rfl⟩:=List.getElem?_eq_some_iff.1 hx'
     obtain⟨b1,rfl⟩:=List.getElem?_eq_some_iff.1 hy
     exact List.pairwise_iff_getElem.1 hp i (i+1) a1 b1 (by omega)
    simp only[qzg,qan,Option.bind_some]
    rw[decide_eq_true (by omega),cond_true,qcw (by omega)]
    simp only[qav,hx',hy,eStr,qdz,hlt,qae (show i+1 < maxLen by omega),Bool.not_true,EV0]
    exact ih (i+1) n (by omega) (by omega) k m
   ·simp only[qzg,qan,Option.bind_some]
    rw[decide_eq_false (by omega),cond_false]
 refine qbw (H:=[]) (qshb (xs.length+1) ?_)
 have:=loop xs.length 0 (xs.length+1+1) (by omega) (by omega) (xs.length+1+1) (xs.length+1+1)
 simp only[fce]
 exact this
theorem c_fcd (x0:Str)(hx0:bdS maxLen x0):out qrwb [.one (qix x0)]=some [.one (Cell.bool true)]:=by
 have hM:=qag
 have eb:=c_fcf x0 hx0
 by_cases hb:1048576 < x0.length
 ·refine qbw (H:=[]) (quc 0 ?_)
  rw[decide_eq_true hb] at eb
  simp only[fcd,eb,EV0]
 rw[decide_eq_false hb] at eb
 obtain⟨l,hl,dl⟩:=c_fcv x0 (by omega)
 obtain⟨o,ho,dO⟩:=c_fcu x0 (by omega)
 obtain⟨a,s,ha,hs,da⟩:=c_fcs x0 (by omega)
 have hsb:bdS 1048576 s:=Nat.le_trans hs (by omega)
 have ca:∀ (l:List MPack) (H:List Entry),mapO (qal false H) [.one (encL 4 MPack.enc l)]=some [.one (encL 4 MPack.enc l)]:=fun l H=>qaz _ _ _
 have cb:∀ H,mapO (qal false H) [.one (encL 4 MPack.enc a),.one (Cell.str (bs s))]=some [.one (encL 4 MPack.enc a),.one (Cell.str (bs s))]:=fun H=>qaz _ _ _
 have s1:=c_fcy l hl.bd hl.wt
 have s2:=c_fcx o ho.bd
 have s3:=c_fcr a ha.bd ha.wt s hsb hsb
 have s4:=c_fcq a ha.bd ha.wt s hsb hsb
 have s5:=c_fda a ha.bd s hsb
 have lR:(qgg l).length≤1048576:=(b_Ring l hl.bd hl.wt).1
 have lD:(qgx a s).length≤1048576:=(qpib a ha.bd ha.wt s hsb hsb).1
 obtain⟨c1,E1,i1,e1,r1,w1,_⟩:=qir (f_fan l hl.bd hl.wt) [] (ca l _)
 obtain⟨c2,E2,i2,e2,r2,w2,_⟩:=qckd (f_fag o ho.bd) ([]++E1) (ca o _)
 obtain⟨c3,E3,i3,e3,r3,w3,_⟩:=qir (f_fab a ha.bd ha.wt s hsb hsb) ([]++E1++E2) (cb _)
 obtain⟨c4,E4,i4,e4,r4,w4,_⟩:=qir (f_faa a ha.bd ha.wt s hsb hsb) ([]++E1++E2++E3) (cb _)
 obtain⟨c5,E5,i5,e5,r5,w5,_⟩:=qir (f_fap a ha.bd s hsb) ([]++E1++E2++E3++E4) (cb _)
 have q1:=qudc (qce.of (n:=0) (r1.app E2)) (by omega)
 have q2:=qudc (qce.of (n:=0) r2) (by have:=(qbqd o ho.bd).1;omega)
 have q3:=qudc (qce.of (n:=0) r3) (by omega)
 have q4:=qudc (qce.of (n:=0) r4) (by have:=(qafb a ha.bd ha.wt s hsb hsb).1;omega)
 have q5:=qudc (qce.of (n:=0) r5) (by have:=(qpfb a ha.bd s hsb).1;omega)
 obtain⟨H5,hH5⟩:∃ H5,H5=[]++E1++E2++E3++E4++E5:=⟨_,rfl⟩
 have m5:qce H5 i1 c1 (qgg l):=by rw[hH5];exact qce.of (n:=0) ((((r1.app E2).app E3).app E4).app E5)
 obtain⟨c6,E6,i6,e6,r6,w6,_⟩:=qir (f_fab a ha.bd ha.wt s hsb hsb) H5 (cb _)
 have q6:qbc qnz [.one c6] (H5++E6)=some [.one (Cell.bool true)]:=by
  rw[qbv (qbb (qce.of (n:=0) r6).read (qas _))]
  exact c_fce _ (by omega) (by unfold qgx qeq;split;exact(qbs _).1;exact .nil)
 have hR:=qbvd l
 have pk:=c_fai l hl.bd
 have last:∀ (k m n:Nat) (i:Nat),(qxt l=false∨(qgg l).length≤i)→qzd k m (n+1) (encL 4 MPack.enc l) c1 (encL 4 MPack.enc a) (bs s) (i:Int) H5=some ([.one (Cell.bool true)],H5++E6):=by
  intro k m n i hi
  simp only[qzd,m5.len,Option.bind_some]
  by_cases hlt:i < (qgg l).length
  ·have hp:qxt l=false:=hi.resolve_right (by omega)
   rw[hp] at pk
   rw[decide_eq_true (by omega),cond_true]
   simp only[pk,e6,q6,EV0]
  ·rw[decide_eq_false (by omega),cond_false]
   simp only[e6,q6,EV0]
 have loop:∀ (d i n:Nat),i+d=(qgg l).length→d < n→∀ k m,qzd k m n (encL 4 MPack.enc l) c1 (encL 4 MPack.enc a) (bs s) (i:Int) H5=some ([.one (Cell.bool true)],H5++E6):=by
  intro d
  induction d with
  | zero=>
   intro i n hi hn k m
   obtain⟨n,rfl⟩:∃ j,n=j+1:=⟨n - 1,by omega⟩
   exact last k m n i (.inr (by omega))
  | succ d ih=>
   intro i n hi hn k m
   obtain⟨n,rfl⟩:∃ j,n=j+1:=⟨n - 1,by omega⟩
   cases hp:qxt l with
   | false=>exact last k m n i (.inl hp)
   | true=>
    rw[hp] at pk
    obtain⟨x,hx⟩:∃ x,(qgg l)[i]?=some x:=⟨_,List.getElem?_eq_getElem (by omega)⟩
    obtain⟨j,p,j1,j2,j3⟩:=hR.there i x hx
    have hmod:(i+1) % (qgg l).length < (qgg l).length:=Nat.mod_lt _ (by omega)
    obtain⟨y,hy⟩:∃ y,(qgg l)[(i+1) % (qgg l).length]?=some y:=⟨_,List.getElem?_eq_getElem hmod⟩
    obtain⟨a1,row1,off1,g1,g2,g3⟩:=m5.at hx
    obtain⟨a2,row2,off2,g4,g5,g6⟩:=m5.at hy
    obtain⟨ct,t1,t2⟩:=m5.take (n:=i) (by omega)
    have hh:=hasM t2 (by simp;omega) x
    rw[hR.once i x hx] at hh
    have ef:=c_fac l (by have:=hl.1;omega) x
    rw[j1] at ef
    have hu:=c_fcg p.Uses y (by have:=(hl.bd.2 p (List.mem_of_getElem? j2)).2.1.1;omega)
    rw[j3 y hy] at hu
    have hmi:(IntKind.i64.wrap ((i:Int)+1)).tmod ((qgg l).length:Int)=(((i+1) % (qgg l).length:Nat):Int):=by
     rw[qae (by omega),Int.tmod_eq_emod_of_nonneg (by omega)]
     rfl
    simp only[qzd,m5.len,Option.bind_some]
    rw[decide_eq_true (by omega),cond_true]
    simp only[pk,g1,g2,g3,ef,EV0]
    rw[decide_eq_false (by omega),cond_false]
    simp only[t1,hh,hmi,EV0]
    simp only[qav,j2,MPack.enc,qgn,Nat.zero_add,Nat.reduceAdd,EV0]
    rw[if_neg (by omega)]
    simp only[g4,g5,g6,hu,Bool.not_true,EV0]
    rw[qae (by omega)]
    exact ih (i+1) n (by omega) (by omega) k m
 have e:=loop (qgg l).length 0 2000000 (by omega) (by omega) 2000000 2000000
 refine qbw (H:=H5++E6) (quc 1999999 ?_)
 rw[show((0:Nat):Int)=0 from rfl] at e
 have e5':=e5
 rw[← hH5] at e5' q5
 simp only[fcd,eb,dl,e1,dO,e2,s2,da,s1,q1,q2,beq_self_eq_true,Bool.not_true,EV0]
 simp only[e3,s3,q3,e4,s4,q4,e5',s5,q5,Bool.not_true,EV0]
 exact e
end Go.Ev
