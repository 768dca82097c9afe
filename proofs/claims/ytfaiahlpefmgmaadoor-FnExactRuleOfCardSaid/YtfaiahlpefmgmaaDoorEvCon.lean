/- What the laws' own functions come to: sizes, copies, comparisons. Conditions: none. -/
import Derived.Test.YtfaiahlpefmgmaaDoorEvMod
import Derived.Test.YtfaiahlpefmgmaaDoorSh4
set_option linter.unusedSimpArgs false
set_option linter.unusedVariables false
namespace Go.Ev
open Go
theorem c_fbr (xs:List Str)(l:Int)(hx:bdL maxLen (bdS maxLen) xs)(h0:0≤l)(h1:l≤1099511627776):out qpu [.one (encL 1 eStr xs),.one (Cell.int l)]=some [.one (Cell.int (szI (wtL wtS xs) l))]:=by
 have loop:∀ (ys:List Str) (i n:Nat) (l:Int),xs.drop i=ys→ys.length < n→0≤l→l≤1099511627776→∀ k m,qrg k m n (encL 1 eStr xs) l i=some ([.one (Cell.int (szI (ys.map wtS).sum l))],[]):=by
  intro ys
  induction ys with
  | nil=>
   intro i n l hd hn h0 h1 k m
   obtain⟨n,rfl⟩:∃ j,n=j+1:=⟨n - 1,by omega⟩
   have:=drop_nil hd
   simp only[qrg,qae,Option.bind_some]
   rw[decide_eq_false (by omega)]
   simp only[List.map_nil,List.sum_nil]
   rw[qzy h0,cond_false]
  | cons x ys ih=>
   intro i n l hd hn h0 h1 k m
   obtain⟨n,rfl⟩:∃ j,n=j+1:=⟨n - 1,by omega⟩
   obtain⟨hlt,hg,hd'⟩:=qas hd
   have hxl:=hx.1
   have hM:=qak
   have hb:x.length≤maxLen:=hx.2 x (List.mem_of_getElem? hg)
   simp only[qrg,qae,Option.bind_some,qar,hg,Option.map_some,qgk,eStr,qll,qbo]
   rw[decide_eq_true (by omega),cond_true,qah (by omega),wrap_small (by omega) (by omega)]
   simp only[List.map_cons,List.sum_cons,wtS]
   simp only[List.length_cons] at hn
   by_cases g:(x.length:Int)≤l
   ·rw[decide_eq_false (by omega),cond_false,ih _ _ _ hd' (by omega) (by omega) (by omega),qtd g]
   ·rw[decide_eq_true (by omega),cond_true,qmp g]
 have hM:=qak
 have hxl:=hx.1
 refine qau (H:=[]) (qajb (xs.length+1) ?_)
 simp only[fbr,qae,Option.bind_some]
 rw[wrap_small (by omega) (by omega)]
 by_cases g:(xs.length:Int)≤l
 ·rw[decide_eq_false (by omega),cond_false]
  have:=loop xs 0 (xs.length+1+1) (l - xs.length) rfl (by omega) (by omega) (by omega) (xs.length+1+1) (xs.length+1+1)
  simp only[Int.natCast_zero] at this
  rw[this,qtd g]
  rfl
 ·rw[decide_eq_true (by omega),cond_true]
  have:szI (wtL wtS xs) l=-1:=qmp g
  rw[this]
theorem f_fbu (xs:List Str)(hb:bdL 1048576 (bdS 1048576) xs):Fresh qpj true 2 [.one (encL 1 eStr xs)] [.one (trL 1 qcm xs)]:=by
 have hxl:xs.length≤1048576:=hb.1
 have hM:=qak
 refine qqk (sz:=1) (n:=1) (z:=[Cell.str (bs [])]) rfl (by intro c hc;simp only[List.mem_cons,List.not_mem_nil,or_false] at hc;rcases hc with rfl<;>rfl) qcm xs (fun m i H=>qrm (xs.length+1+1) (xs.length+1+1) m (encL 1 eStr xs) (.vs 0 1 0 xs.length 0) i H) ?_ ?_ (xs.length+1+1) (by omega) ?_
 ·intro m i x H hi hm hx hg
  refine⟨[.sc (.string (bs x))],[],[],?_,rfl,Sp.leaf1 _,Mine.nil (by simp),by rw[List.append_nil];exact hg⟩
  rw[List.append_nil]
  simp only[qrm,qae,Option.bind_some,qar,hx,Option.map_some,qgk,eStr,qll]
  rw[decide_eq_true (by omega),cond_true,qou _ _ _ _ _ hi,qah (by omega)]
  rfl
 ·intro m H
  simp only[qrm,qae,Option.bind_some]
  rw[decide_eq_false (by omega),cond_false]
 ·intro r hr
  refine qbkb (xs.length+1) ?_
  simp only[fbu,qae,Option.bind_some]
  rw[if_pos (by unfold bound;refine⟨?_,?_,?_,?_⟩<;>omega)]
  exact hr
theorem qdjc (xs ys:List Str)(hx:bdL 1048576 (bdS 1048576) xs)(hy:bdL 1048576 (bdS 1048576) ys):out qgb [.one (encL 1 eStr xs),.one (encL 1 eStr ys)]=some [.one (Cell.bool (decide (xs=ys)))]:=by
 have hxl:xs.length≤1048576:=hx.1
 have hM:=qak
 have loop:xs.length=ys.length→∀ (us vs:List Str) (i n:Nat),xs.drop i=us→ys.drop i=vs→us.length < n→∀ k m,qsn k m n (encL 1 eStr xs) (encL 1 eStr ys) i=some ([.one (Cell.bool (decide (us=vs)))],[]):=by
  intro hlen us
  induction us with
  | nil=>
   intro vs i n hd he hn k m
   obtain⟨n,rfl⟩:∃ j,n=j+1:=⟨n - 1,by omega⟩
   have:=drop_nil hd
   have hv:vs=[]:=by rw[← he];exact List.drop_eq_nil_of_le (by omega)
   subst hv
   simp only[qsn,qae,Option.bind_some]
   rw[decide_eq_false (by omega)]
   simp
  | cons x us ih=>
   intro vs i n hd he hn k m
   obtain⟨n,rfl⟩:∃ j,n=j+1:=⟨n - 1,by omega⟩
   obtain⟨hlt,hgx,hd'⟩:=qas hd
   cases vs with
   | nil=>have:=drop_nil he;omega
   | cons y vs=>
   obtain⟨hlt',hgy,he'⟩:=qas he
   simp only[List.length_cons] at hn
   simp only[qsn,qar,hgx,hgy,eStr,EV0]
   rw[decide_eq_true (by omega)]
   simp only[EV0]
   rw[qah (by omega),ih vs (i+1) n hd' he' (by omega),condF]
   congr 5
   rw[Bool.eq_iff_iff]
   simp
 refine qau (H:=[]) (qeib (xs.length+1) ?_)
 simp only[fbh,qae,Option.bind_some]
 by_cases h:xs.length=ys.length
 ·rw[show(((xs.length:Nat):Int) != (ys.length:Int))=false by simp[h],cond_false]
  exact loop h xs ys 0 _ rfl rfl (by omega) _ _
 ·rw[show(((xs.length:Nat):Int) != (ys.length:Int))=true by simp only[bne_iff_ne,ne_eq];omega,cond_true]
  have:xs≠ys:=fun e=>h (by rw[e])
  simp[this]
theorem c_fbg (x y:MRule)(hx:x.Bd 1048576)(hy:y.Bd 1048576):out qfm [.agg [Cell.str (bs x.Task),encL 1 eStr x.On,encL 1 eStr x.Ins,encL 1 eStr x.Envs,Cell.bool x.Keep],.agg [Cell.str (bs y.Task),encL 1 eStr y.On,encL 1 eStr y.Ins,encL 1 eStr y.Envs,Cell.bool y.Keep]]=some [.one (Cell.bool (decide (x=y)))]:=by
 obtain⟨b0,b1,b2,b3,b4⟩:=hx
 obtain⟨d0,d1,d2,d3,d4⟩:=hy
 refine qau (H:=[]) (qdmb 0 ?_)
 simp only[fbg,qdjc _ _ b1 d1,qdjc _ _ b2 d2,qdjc _ _ b3 d3,EV0,condF,condNe]
 congr 5
 rw[Bool.eq_iff_iff]
 cases x;cases y
 simp[MRule.mk.injEq]
theorem c_fbo (k:Nat)(hk:k≤qbu):out qfz [.one (Cell.int (k:Int))]=some [.one (Cell.str (bs (qetb k)))]:=by
 refine qau (H:=[]) (qamb k ?_)
 by_cases h:k=0
 ·subst h
  simp[fbo,qetb]
 ·simp only[fbo]
  rw[decide_eq_false (by omega),cond_false,qetb,if_neg h]
  refine qphb (fun n i s=>qrh (k+1) (k+1) n i s) (fun n s=>?_) (fun n i s hi=>?_) (k+1) k k [] (by omega) (by omega) (by simpa using hk)
  ·simp[qrh]
  ·simp only[qrh]
   rw[decide_eq_true (by omega),cond_true]
theorem qxjb {H:List Entry}{w:Bool}{n:Nat}{ids:List Nat}{c:Cell}(xs:List Str)(k:Nat)(hx:bdL maxLen (bdS maxLen) xs)(h:Rep H w true n ids c (trL 1 qcm xs))(hn:ids.Nodup)(hk:k+cntL one1 xs≤qbu):
  ∃ H',qea [.one c,.one (Cell.int (k:Int))] H=some ([.one (Cell.int ((k+cntL one1 xs:Nat):Int))],H')∧Upd ids H H'∧Rep H' w true n ids c (trL 1 qcm (mkL qqr one1 xs k)):=by
 cases n with
 | zero=>exact h.elim
 | succ n=>
 have hM:=qak
 have hlen:=h.lenC
 rw[List.length_map] at hlen
 have hxl:xs.length≤maxLen:=hx.1
 obtain⟨H',e1,u,r⟩:=qtw (sz:=1) (c:=c) qcm qqr one1 xs (fun m k i H=>qro (xs.length+1+1) (xs.length+1+1) m c k i H) (by
  intro m i k x H trs hi hm hr hl hk h
  have h0:Rep H w true (n+1) ids c (.list 1 (trs.set i (qcm x))):=by rw[qrw hr];exact h
  have hi':i < trs.length:=by omega
  have hk0:=hk
  simp only[one1] at hk
  obtain⟨id0,p0,q0,row0,a0,d0,st0,sb0⟩:=h0.idxR hn hi'
  obtain⟨H0,s0,u0,h1⟩:=st0 0 _ (.string (bs (qetb k))) rfl
  have y0:IntKind.i64.wrap (((k:Nat):Int)+1)=((k+1:Nat):Int):=qchc (by omega)
  have ek:k+one1 x=(k+1):=rfl
  refine⟨H0,?_,u0,h1⟩
  rw[ek]
  simp only[qro,hlen,Option.bind_some]
  rw[decide_eq_true (by omega),cond_true]
  simp only[a0,s0,c_fbo k (by omega),y0,qmm,Nat.zero_add,Nat.reduceAdd,wrap_u8,EV0]
  rw[qah (by omega)]) (by
  intro m k H
  simp only[qro,hlen,Option.bind_some]
  rw[decide_eq_false (by omega),cond_false]) (xs.length+1+1) k H (by omega) hk h
 exact⟨H',qdzb (xs.length+1) (by simp only[fbn];exact e1),u,r⟩
theorem k_fbm {H:List Entry}{w:Bool}{n:Nat}{ids:List Nat}{cs:List Cell}(x:MRule)(k:Nat)(hx:x.Bd maxLen)(h0:Sp (Rep H w true n) ids cs x.tr)(hn:ids.Nodup)(hk:k+x.cntA≤qbu):
  ∃ H',qlc [.agg cs,.one (Cell.int (k:Int))] H=some ([.one (Cell.int ((k+x.cntA:Nat):Int))],H')∧Upd ids H H'∧Sp (Rep H' w true n) ids cs (x.mkA k).tr:=by
 obtain⟨c1,c2,c3,rfl⟩:=MRule.open h0
 have hk0:=hk
 simp only[MRule.cntA] at hk
 obtain⟨sub0,r0,nd0,bk0⟩:=Sp.field h0 hn 1 (cc:=c1) rfl rfl
 obtain⟨H0,s0,v0,z0⟩:=qxjb (x.On) k (hx.2.1) r0 nd0 (by omega)
 obtain⟨u0,h1⟩:=bk0 _ _ v0 z0
 obtain⟨sub1,r1,nd1,bk1⟩:=Sp.field h1 hn 2 (cc:=c2) rfl rfl
 obtain⟨H1,s1,v1,z1⟩:=qxjb (x.Ins) (k+cntL one1 x.On) (hx.2.2.1) r1 nd1 (by omega)
 obtain⟨u1,h2⟩:=bk1 _ _ v1 z1
 obtain⟨sub2,r2,nd2,bk2⟩:=Sp.field h2 hn 3 (cc:=c3) rfl rfl
 obtain⟨H2,s2,v2,z2⟩:=qxjb (x.Envs) ((k+cntL one1 x.On)+cntL one1 x.Ins) (hx.2.2.2.1) r2 nd2 (by omega)
 obtain⟨u2,h3⟩:=bk2 _ _ v2 z2
 have ek:k+x.cntA=(((k+cntL one1 x.On)+cntL one1 x.Ins)+cntL one1 x.Envs):=by simp only[MRule.cntA]<;>omega
 refine⟨H2,qbpb 0 ?_,u0.trans (u1.trans (u2)),h3⟩
 rw[ek]
 simp only[fbm,s0,s1,s2,EV0]
theorem e_fbl (xs:List Str)(k:Nat)(hx:bdL maxLen (bdS maxLen) xs)(hk:k+cntL one1 xs≤qbu):out qhr [.one (encL 1 eStr (mkL qqr one1 xs k)),.one (Cell.int (k:Int))]=some [.one (Cell.int ((k+cntL one1 xs:Nat):Int))]:=by
 have hM:=qak
 have hyl:(mkL qqr one1 xs k).length≤maxLen:=by rw[qdcb];exact hx.1
 have loop:∀ (ys:List Str) (hyl:ys.length≤maxLen) (r:List Str) (i k n:Nat),ys.drop i=mkL qqr one1 r k→(∀ y∈r,True)→r.length < n→k+cntL one1 r≤qbu→∀ K m,qry K m n (encL 1 eStr ys) k i=some ([.one (Cell.int ((k+cntL one1 r:Nat):Int))],[]):=by
  intro ys hyl r
  induction r with
  | nil=>
   intro i k n hd hx hn hk K m
   obtain⟨n,rfl⟩:∃ j,n=j+1:=⟨n - 1,by omega⟩
   have:=drop_nil hd
   simp only[qry,qae,Option.bind_some]
   rw[decide_eq_false (by omega),cond_false,qbob,Nat.add_zero]
  | cons x r ih=>
   intro i k n hd hx hn hk K m
   obtain⟨n,rfl⟩:∃ j,n=j+1:=⟨n - 1,by omega⟩
   obtain⟨hlt,hg,hd'⟩:=qas hd
   simp only[List.length_cons] at hn
   rw[qfa,← Nat.add_assoc] at hk ⊢
   have hk0:=hk
   have ek:k+one1 x=(k+1):=rfl
   rw[ek] at hk hd' ⊢
   have y0:IntKind.i64.wrap (((k:Nat):Int)+1)=((k+1:Nat):Int):=qchc (by omega)
   simp only[qry,qae,Option.bind_some,qar,hg,eStr,qqr,wrap_u8,bne_self_eq_false,Bool.not_true,qblb,Nat.zero_add,Nat.reduceAdd,c_fbo k (by omega),y0,EV0]
   rw[decide_eq_true (by omega),cond_true,qah (by omega)]
   exact ih _ _ _ hd' (fun y hy=>hx y (List.mem_cons_of_mem _ hy)) (by omega) (by omega) _ _
 refine qau (H:=[]) (qzn (xs.length+1) ?_)
 simp only[fbl]
 have:=loop _ hyl xs 0 k (xs.length+1+1) rfl (fun _ _=>trivial) (by omega) hk (xs.length+1+1) (xs.length+1+1)
 simp only[Int.natCast_zero] at this
 exact this
theorem e_fbk (x:MRule)(k:Nat)(hx:x.Bd maxLen)(hk:k+x.cntA≤qbu):out qgz [.agg [Cell.str (bs (x.mkA k).Task),encL 1 eStr (x.mkA k).On,encL 1 eStr (x.mkA k).Ins,encL 1 eStr (x.mkA k).Envs,Cell.bool (x.mkA k).Keep],.one (Cell.int (k:Int))]=some [.one (Cell.int ((k+x.cntA:Nat):Int))]:=by
 have ek:k+x.cntA=(((k+cntL one1 x.On)+cntL one1 x.Ins)+cntL one1 x.Envs):=by simp only[MRule.cntA]<;>omega
 rw[ek] at hk ⊢
 have n1:decide ((((k+cntL one1 x.On):Nat):Int) < 0)=false:=decide_eq_false (by omega)
 have n2:decide (((((k+cntL one1 x.On)+cntL one1 x.Ins):Nat):Int) < 0)=false:=decide_eq_false (by omega)
 have n3:decide ((((((k+cntL one1 x.On)+cntL one1 x.Ins)+cntL one1 x.Envs):Nat):Int) < 0)=false:=decide_eq_false (by omega)
 refine qau (H:=[]) (qbxb 0 ?_)
 simp only[fbk,MRule.mkA,e_fbl (x.On) k (hx.2.1) (by omega),n1,e_fbl (x.Ins) (k+cntL one1 x.On) (hx.2.2.1) (by omega),n2,e_fbl (x.Envs) ((k+cntL one1 x.On)+cntL one1 x.Ins) (hx.2.2.2.1) (by omega),n3,EV0]
end Go.Ev
