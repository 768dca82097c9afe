/- What the laws' own functions come to: sizes, copies, comparisons. Conditions: none. -/
import Derived.Test.YteenbnljpddleaaGreatDoorEvMod
import Derived.Test.YteenbnljpddleaaGreatDoorSh7
set_option linter.unusedSimpArgs false
set_option linter.unusedVariables false
namespace Go.Ev
open Go
theorem c_fcp (xs:List Str)(l:Int)(hx:bdL maxLen (bdS maxLen) xs)(h0:0≤l)(h1:l≤1099511627776):out qvo [.one (encL 1 eStr xs),.one (Cell.int l)]=some [.one (Cell.int (szI (wtL wtS xs) l))]:=by
 have loop:∀ (ys:List Str) (i n:Nat) (l:Int),xs.drop i=ys→ys.length < n→0≤l→l≤1099511627776→∀ k m,qbcb k m n (encL 1 eStr xs) l i=some ([.one (Cell.int (szI (ys.map wtS).sum l))],[]):=by
  intro ys
  induction ys with
  | nil=>
   intro i n l hd hn h0 h1 k m
   obtain⟨n,rfl⟩:∃ j,n=j+1:=⟨n - 1,by omega⟩
   have:=drop_nil hd
   simp only[qbcb,qag,Option.bind_some]
   rw[decide_eq_false (by omega)]
   simp only[List.map_nil,List.sum_nil]
   rw[qneb h0,cond_false]
  | cons x ys ih=>
   intro i n l hd hn h0 h1 k m
   obtain⟨n,rfl⟩:∃ j,n=j+1:=⟨n - 1,by omega⟩
   obtain⟨hlt,hg,hd'⟩:=qao hd
   have hxl:=hx.1
   have hM:=qai
   have hb:x.length≤maxLen:=hx.2 x (List.mem_of_getElem? hg)
   simp only[qbcb,qag,Option.bind_some,qap,hg,Option.map_some,qik,eStr,qrn,qbi]
   rw[decide_eq_true (by omega),cond_true,qaf (by omega),wrap_small (by omega) (by omega)]
   simp only[List.map_cons,List.sum_cons,wtS]
   simp only[List.length_cons] at hn
   by_cases g:(x.length:Int)≤l
   ·rw[decide_eq_false (by omega),cond_false,ih _ _ _ hd' (by omega) (by omega) (by omega),qhdb g]
   ·rw[decide_eq_true (by omega),cond_true,qsv g]
 have hM:=qai
 have hxl:=hx.1
 refine qaw (H:=[]) (qqeb (xs.length+1) ?_)
 simp only[fcp,qag,Option.bind_some]
 rw[wrap_small (by omega) (by omega)]
 by_cases g:(xs.length:Int)≤l
 ·rw[decide_eq_false (by omega),cond_false]
  have:=loop xs 0 (xs.length+1+1) (l - xs.length) rfl (by omega) (by omega) (by omega) (xs.length+1+1) (xs.length+1+1)
  simp only[Int.natCast_zero] at this
  rw[this,qhdb g]
  rfl
 ·rw[decide_eq_true (by omega),cond_true]
  have:szI (wtL wtS xs) l=-1:=qsv g
  rw[this]
theorem f_fcs (xs:List Str)(hb:bdL 1048576 (bdS 1048576) xs):Fresh qwr true 2 [.one (encL 1 eStr xs)] [.one (trL 1 qdj xs)]:=by
 have hxl:xs.length≤1048576:=hb.1
 have hM:=qai
 refine qur (sz:=1) (n:=1) (z:=[Cell.str (bs [])]) rfl (by intro c hc;simp only[List.mem_cons,List.not_mem_nil,or_false] at hc;rcases hc with rfl<;>rfl) qdj xs (fun m i H=>qasb (xs.length+1+1) (xs.length+1+1) m (encL 1 eStr xs) (.vs 0 1 0 xs.length 0) i H) ?_ ?_ (xs.length+1+1) (by omega) ?_
 ·intro m i x H hi hm hx hg
  refine⟨[.sc (.string (bs x))],[],[],?_,rfl,Sp.leaf1 _,Mine.nil (by simp),by rw[List.append_nil];exact hg⟩
  rw[List.append_nil]
  simp only[qasb,qag,Option.bind_some,qap,hx,Option.map_some,qik,eStr,qrn]
  rw[decide_eq_true (by omega),cond_true,qjd _ _ _ _ _ hi,qaf (by omega)]
  rfl
 ·intro m H
  simp only[qasb,qag,Option.bind_some]
  rw[decide_eq_false (by omega),cond_false]
 ·intro r hr
  refine qlrb (xs.length+1) ?_
  simp only[fcs,qag,Option.bind_some]
  rw[if_pos (by unfold bound;refine⟨?_,?_,?_,?_⟩<;>omega)]
  exact hr
theorem c_fcb (xs ys:List Str)(hx:bdL 1048576 (bdS 1048576) xs)(hy:bdL 1048576 (bdS 1048576) ys):out qig [.one (encL 1 eStr xs),.one (encL 1 eStr ys)]=some [.one (Cell.bool (decide (xs=ys)))]:=by
 have hxl:xs.length≤1048576:=hx.1
 have hM:=qai
 have loop:xs.length=ys.length→∀ (us vs:List Str) (i n:Nat),xs.drop i=us→ys.drop i=vs→us.length < n→∀ k m,qzr k m n (encL 1 eStr xs) (encL 1 eStr ys) i=some ([.one (Cell.bool (decide (us=vs)))],[]):=by
  intro hlen us
  induction us with
  | nil=>
   intro vs i n hd he hn k m
   obtain⟨n,rfl⟩:∃ j,n=j+1:=⟨n - 1,by omega⟩
   have:=drop_nil hd
   have hv:vs=[]:=by rw[← he];exact List.drop_eq_nil_of_le (by omega)
   subst hv
   simp only[qzr,qag,Option.bind_some]
   rw[decide_eq_false (by omega)]
   simp
  | cons x us ih=>
   intro vs i n hd he hn k m
   obtain⟨n,rfl⟩:∃ j,n=j+1:=⟨n - 1,by omega⟩
   obtain⟨hlt,hgx,hd'⟩:=qao hd
   cases vs with
   | nil=>have:=drop_nil he;omega
   | cons y vs=>
   obtain⟨hlt',hgy,he'⟩:=qao he
   simp only[List.length_cons] at hn
   simp only[qzr,qap,hgx,hgy,eStr,EV0]
   rw[decide_eq_true (by omega)]
   simp only[EV0]
   rw[qaf (by omega),ih vs (i+1) n hd' he' (by omega),qkzc]
   congr 5
   rw[Bool.eq_iff_iff]
   simp
 refine qaw (H:=[]) (qosb (xs.length+1) ?_)
 simp only[fcb,qag,Option.bind_some]
 by_cases h:xs.length=ys.length
 ·rw[show(((xs.length:Nat):Int) != (ys.length:Int))=false by simp[h],cond_false]
  exact loop h xs ys 0 _ rfl rfl (by omega) _ _
 ·rw[show(((xs.length:Nat):Int) != (ys.length:Int))=true by simp only[bne_iff_ne,ne_eq];omega,cond_true]
  have:xs≠ys:=fun e=>h (by rw[e])
  simp[this]
theorem c_fby (x y:MNeed)(hx:x.Bd 1048576)(hy:y.Bd 1048576):out qxy [.agg [Cell.str (bs x.Name),Cell.str (bs x.Range)],.agg [Cell.str (bs y.Name),Cell.str (bs y.Range)]]=some [.one (Cell.bool (decide (x=y)))]:=by
 obtain⟨b0,b1⟩:=hx
 obtain⟨d0,d1⟩:=hy
 refine qaw (H:=[]) (qqvb 0 ?_)
 simp only[fby,EV0,qkzc,qpkc]
 congr 5
 rw[Bool.eq_iff_iff]
 cases x;cases y
 simp[MNeed.mk.injEq]
theorem c_fbz (xs ys:List MNeed)(hx:bdL 1048576 (MNeed.Bd 1048576) xs)(hy:bdL 1048576 (MNeed.Bd 1048576) ys):out qxd [.one (encL 2 MNeed.enc xs),.one (encL 2 MNeed.enc ys)]=some [.one (Cell.bool (decide (xs=ys)))]:=by
 have hxl:xs.length≤1048576:=hx.1
 have hM:=qai
 have loop:xs.length=ys.length→∀ (us vs:List MNeed) (i n:Nat),xs.drop i=us→ys.drop i=vs→us.length < n→∀ k m,qalb k m n (encL 2 MNeed.enc xs) (encL 2 MNeed.enc ys) i=some ([.one (Cell.bool (decide (us=vs)))],[]):=by
  intro hlen us
  induction us with
  | nil=>
   intro vs i n hd he hn k m
   obtain⟨n,rfl⟩:∃ j,n=j+1:=⟨n - 1,by omega⟩
   have:=drop_nil hd
   have hv:vs=[]:=by rw[← he];exact List.drop_eq_nil_of_le (by omega)
   subst hv
   simp only[qalb,qag,Option.bind_some]
   rw[decide_eq_false (by omega)]
   simp
  | cons x us ih=>
   intro vs i n hd he hn k m
   obtain⟨n,rfl⟩:∃ j,n=j+1:=⟨n - 1,by omega⟩
   obtain⟨hlt,hgx,hd'⟩:=qao hd
   cases vs with
   | nil=>have:=drop_nil he;omega
   | cons y vs=>
   obtain⟨hlt',hgy,he'⟩:=qao he
   simp only[List.length_cons] at hn
   have hbx:=hx.2 x (List.mem_of_getElem? hgx)
   have hby:=hy.2 y (List.mem_of_getElem? hgy)
   simp only[qalb,qap,hgx,hgy,MNeed.enc,c_fby _ _ hbx hby,EV0]
   rw[decide_eq_true (by omega)]
   simp only[EV0]
   rw[qaf (by omega),ih vs (i+1) n hd' he' (by omega),qkzc]
   congr 5
   rw[Bool.eq_iff_iff]
   simp
 refine qaw (H:=[]) (qppb (xs.length+1) ?_)
 simp only[fbz,qag,Option.bind_some]
 by_cases h:xs.length=ys.length
 ·rw[show(((xs.length:Nat):Int) != (ys.length:Int))=false by simp[h],cond_false]
  exact loop h xs ys 0 _ rfl rfl (by omega) _ _
 ·rw[show(((xs.length:Nat):Int) != (ys.length:Int))=true by simp only[bne_iff_ne,ne_eq];omega,cond_true]
  have:xs≠ys:=fun e=>h (by rw[e])
  simp[this]
theorem c_fbw (x y:MCmd)(hx:x.Bd 1048576)(hy:y.Bd 1048576):out qwv [.agg [Cell.str (bs x.Task),encL 1 eStr x.Acts],.agg [Cell.str (bs y.Task),encL 1 eStr y.Acts]]=some [.one (Cell.bool (decide (x=y)))]:=by
 obtain⟨b0,b1⟩:=hx
 obtain⟨d0,d1⟩:=hy
 refine qaw (H:=[]) (qnfb 0 ?_)
 simp only[fbw,c_fcb _ _ b1 d1,EV0,qkzc,qpkc]
 congr 5
 rw[Bool.eq_iff_iff]
 cases x;cases y
 simp[MCmd.mk.injEq]
theorem c_fbx (xs ys:List MCmd)(hx:bdL 1048576 (MCmd.Bd 1048576) xs)(hy:bdL 1048576 (MCmd.Bd 1048576) ys):out qyv [.one (encL 2 MCmd.enc xs),.one (encL 2 MCmd.enc ys)]=some [.one (Cell.bool (decide (xs=ys)))]:=by
 have hxl:xs.length≤1048576:=hx.1
 have hM:=qai
 have loop:xs.length=ys.length→∀ (us vs:List MCmd) (i n:Nat),xs.drop i=us→ys.drop i=vs→us.length < n→∀ k m,qapb k m n (encL 2 MCmd.enc xs) (encL 2 MCmd.enc ys) i=some ([.one (Cell.bool (decide (us=vs)))],[]):=by
  intro hlen us
  induction us with
  | nil=>
   intro vs i n hd he hn k m
   obtain⟨n,rfl⟩:∃ j,n=j+1:=⟨n - 1,by omega⟩
   have:=drop_nil hd
   have hv:vs=[]:=by rw[← he];exact List.drop_eq_nil_of_le (by omega)
   subst hv
   simp only[qapb,qag,Option.bind_some]
   rw[decide_eq_false (by omega)]
   simp
  | cons x us ih=>
   intro vs i n hd he hn k m
   obtain⟨n,rfl⟩:∃ j,n=j+1:=⟨n - 1,by omega⟩
   obtain⟨hlt,hgx,hd'⟩:=qao hd
   cases vs with
   | nil=>have:=drop_nil he;omega
   | cons y vs=>
   obtain⟨hlt',hgy,he'⟩:=qao he
   simp only[List.length_cons] at hn
   have hbx:=hx.2 x (List.mem_of_getElem? hgx)
   have hby:=hy.2 y (List.mem_of_getElem? hgy)
   simp only[qapb,qap,hgx,hgy,MCmd.enc,c_fbw _ _ hbx hby,EV0]
   rw[decide_eq_true (by omega)]
   simp only[EV0]
   rw[qaf (by omega),ih vs (i+1) n hd' he' (by omega),qkzc]
   congr 5
   rw[Bool.eq_iff_iff]
   simp
 refine qaw (H:=[]) (qptb (xs.length+1) ?_)
 simp only[fbx,qag,Option.bind_some]
 by_cases h:xs.length=ys.length
 ·rw[show(((xs.length:Nat):Int) != (ys.length:Int))=false by simp[h],cond_false]
  exact loop h xs ys 0 _ rfl rfl (by omega) _ _
 ·rw[show(((xs.length:Nat):Int) != (ys.length:Int))=true by simp only[bne_iff_ne,ne_eq];omega,cond_true]
  have:xs≠ys:=fun e=>h (by rw[e])
  simp[this]
theorem c_fca (x y:MPack)(hx:x.Bd 1048576)(hy:y.Bd 1048576):out qhk [.agg [Cell.str (bs x.Name),encL 1 eStr x.Uses,encL 2 MNeed.enc x.Needs,encL 2 MCmd.enc x.Cmds],.agg [Cell.str (bs y.Name),encL 1 eStr y.Uses,encL 2 MNeed.enc y.Needs,encL 2 MCmd.enc y.Cmds]]=some [.one (Cell.bool (decide (x=y)))]:=by
 obtain⟨b0,b1,b2,b3⟩:=hx
 obtain⟨d0,d1,d2,d3⟩:=hy
 refine qaw (H:=[]) (qlsb 0 ?_)
 simp only[fca,c_fcb _ _ b1 d1,c_fbz _ _ b2 d2,c_fbx _ _ b3 d3,EV0,qkzc,qpkc]
 congr 5
 rw[Bool.eq_iff_iff]
 cases x;cases y
 simp[MPack.mk.injEq]
theorem qcfc (k:Nat)(hk:k≤qby):out qct [.one (Cell.int (k:Int))]=some [.one (Cell.str (bs (qtz k)))]:=by
 refine qaw (H:=[]) (qpmb k ?_)
 by_cases h:k=0
 ·subst h
  simp[fcm,qtz]
 ·simp only[fcm]
  rw[decide_eq_false (by omega),cond_false,qtz,if_neg h]
  refine qtec (fun n i s=>qaib (k+1) (k+1) n i s) (fun n s=>?_) (fun n i s hi=>?_) (k+1) k k [] (by omega) (by omega) (by simpa using hk)
  ·simp[qaib]
  ·simp only[qaib]
   rw[decide_eq_true (by omega),cond_true]
theorem qftd {H:List Entry}{w:Bool}{n:Nat}{ids:List Nat}{c:Cell}(xs:List Str)(k:Nat)(hx:bdL maxLen (bdS maxLen) xs)(h:Rep H w true n ids c (trL 1 qdj xs))(hn:ids.Nodup)(hk:k+cntL one1 xs≤qby):
  ∃ H',qfw [.one c,.one (Cell.int (k:Int))] H=some ([.one (Cell.int ((k+cntL one1 xs:Nat):Int))],H')∧Upd ids H H'∧Rep H' w true n ids c (trL 1 qdj (mkL qlw one1 xs k)):=by
 cases n with
 | zero=>exact h.elim
 | succ n=>
 have hM:=qai
 have hlen:=h.lenC
 rw[List.length_map] at hlen
 have hxl:xs.length≤maxLen:=hx.1
 obtain⟨H',e1,u,r⟩:=qla (sz:=1) (c:=c) qdj qlw one1 xs (fun m k i H=>qaub (xs.length+1+1) (xs.length+1+1) m c k i H) (by
  intro m i k x H trs hi hm hr hl hk h
  have h0:Rep H w true (n+1) ids c (.list 1 (trs.set i (qdj x))):=by rw[qnj hr];exact h
  have hi':i < trs.length:=by omega
  have hk0:=hk
  simp only[one1] at hk
  obtain⟨id0,p0,q0,row0,a0,d0,st0,sb0⟩:=h0.idxR hn hi'
  obtain⟨H0,s0,u0,h1⟩:=st0 0 _ (.string (bs (qtz k))) rfl
  have y0:IntKind.i64.wrap (((k:Nat):Int)+1)=((k+1:Nat):Int):=qlnb (by omega)
  have ek:k+one1 x=(k+1):=rfl
  refine⟨H0,?_,u0,h1⟩
  rw[ek]
  simp only[qaub,hlen,Option.bind_some]
  rw[decide_eq_true (by omega),cond_true]
  simp only[a0,s0,qcfc k (by omega),y0,qfg,Nat.zero_add,Nat.reduceAdd,wrap_u8,EV0]
  rw[qaf (by omega)]) (by
  intro m k H
  simp only[qaub,hlen,Option.bind_some]
  rw[decide_eq_false (by omega),cond_false]) (xs.length+1+1) k H (by omega) hk h
 exact⟨H',qnnb (xs.length+1) (by simp only[fcl];exact e1),u,r⟩
theorem k_fcj {H:List Entry}{w:Bool}{n:Nat}{ids:List Nat}{c:Cell}(xs:List MNeed)(k:Nat)(hx:bdL maxLen (MNeed.Bd maxLen) xs)(h:Rep H w true n ids c (trL 2 MNeed.tr xs))(hn:ids.Nodup)(hk:k+cntL MNeed.cntR xs≤qby):
  ∃ H',qws [.one c,.one (Cell.int (k:Int))] H=some ([.one (Cell.int ((k+cntL MNeed.cntR xs:Nat):Int))],H')∧Upd ids H H'∧Rep H' w true n ids c (trL 2 MNeed.tr (mkL MNeed.mkR MNeed.cntR xs k)):=by
 cases n with
 | zero=>exact h.elim
 | succ n=>
 have hM:=qai
 have hlen:=h.lenC
 rw[List.length_map] at hlen
 have hxl:xs.length≤maxLen:=hx.1
 obtain⟨H',e1,u,r⟩:=qla (sz:=2) (c:=c) MNeed.tr MNeed.mkR MNeed.cntR xs (fun m k i H=>qzz (xs.length+1+1) (xs.length+1+1) m c k i H) (by
  intro m i k x H trs hi hm hr hl hk h
  have h0:Rep H w true (n+1) ids c (.list 2 (trs.set i (MNeed.tr x))):=by rw[qnj hr];exact h
  have hi':i < trs.length:=by omega
  have hb:=hx.2 x hm
  have hk0:=hk
  simp only[MNeed.cntR] at hk
  obtain⟨id0,p0,q0,row0,a0,d0,st0,sb0⟩:=h0.idxR hn hi'
  obtain⟨H0,s0,u0,h1⟩:=st0 0 _ (.string (bs (qtz k))) rfl
  have y0:IntKind.i64.wrap (((k:Nat):Int)+1)=((k+1:Nat):Int):=qlnb (by omega)
  obtain⟨id1,p1,q1,row1,a1,d1,st1,sb1⟩:=h1.idxR hn hi'
  obtain⟨rfl,rfl,rfl⟩:=qjm a0 a1
  obtain⟨H1,s1,u1,h2⟩:=st1 1 _ (.string (bs (qtz (k+1)))) rfl
  have y1:IntKind.i64.wrap ((((k+1):Nat):Int)+1)=(((k+1)+1:Nat):Int):=qlnb (by omega)
  have ek:k+MNeed.cntR x=((k+1)+1):=(by simp only[MNeed.cntR]<;>omega)
  refine⟨H1,?_,u0.trans (u1),h2⟩
  rw[ek]
  simp only[qzz,hlen,Option.bind_some]
  rw[decide_eq_true (by omega),cond_true]
  simp only[a0,s0,qcfc k (by omega),y0,a1,s1,qcfc (k+1) (by omega),y1,qfg,Nat.zero_add,Nat.reduceAdd,wrap_u8,EV0]
  rw[qaf (by omega)]) (by
  intro m k H
  simp only[qzz,hlen,Option.bind_some]
  rw[decide_eq_false (by omega),cond_false]) (xs.length+1+1) k H (by omega) hk h
 exact⟨H',qmqb (xs.length+1) (by simp only[fcj];exact e1),u,r⟩
theorem k_fci {H:List Entry}{w:Bool}{n:Nat}{ids:List Nat}{c:Cell}(xs:List MCmd)(k:Nat)(hx:bdL maxLen (MCmd.Bd maxLen) xs)(h:Rep H w true n ids c (trL 2 MCmd.tr xs))(hn:ids.Nodup)(hk:k+cntL MCmd.cntR xs≤qby):
  ∃ H',qwg [.one c,.one (Cell.int (k:Int))] H=some ([.one (Cell.int ((k+cntL MCmd.cntR xs:Nat):Int))],H')∧Upd ids H H'∧Rep H' w true n ids c (trL 2 MCmd.tr (mkL MCmd.mkR MCmd.cntR xs k)):=by
 cases n with
 | zero=>exact h.elim
 | succ n=>
 have hM:=qai
 have hlen:=h.lenC
 rw[List.length_map] at hlen
 have hxl:xs.length≤maxLen:=hx.1
 obtain⟨H',e1,u,r⟩:=qla (sz:=2) (c:=c) MCmd.tr MCmd.mkR MCmd.cntR xs (fun m k i H=>qbtb (xs.length+1+1) (xs.length+1+1) m c k i H) (by
  intro m i k x H trs hi hm hr hl hk h
  have h0:Rep H w true (n+1) ids c (.list 2 (trs.set i (MCmd.tr x))):=by rw[qnj hr];exact h
  have hi':i < trs.length:=by omega
  have hb:=hx.2 x hm
  have hk0:=hk
  simp only[MCmd.cntR] at hk
  obtain⟨id0,p0,q0,row0,a0,d0,st0,sb0⟩:=h0.idxR hn hi'
  obtain⟨H0,s0,u0,h1⟩:=st0 0 _ (.string (bs (qtz k))) rfl
  have y0:IntKind.i64.wrap (((k:Nat):Int)+1)=((k+1:Nat):Int):=qlnb (by omega)
  obtain⟨id1,p1,q1,row1,a1,d1,st1,sb1⟩:=h1.idxR hn hi'
  obtain⟨rfl,rfl,rfl⟩:=qjm a0 a1
  obtain⟨cc1,sub1,g1,r1,nd1,bk1⟩:=sb1 1 _ rfl
  obtain⟨H1,s1,v1,z1⟩:=qftd (x.Acts) (k+1) (hb.2) r1 nd1 (by omega)
  obtain⟨u1,h2⟩:=bk1 _ _ v1 z1
  have ek:k+MCmd.cntR x=((k+1)+cntL one1 x.Acts):=(by simp only[MCmd.cntR]<;>omega)
  refine⟨H1,?_,u0.trans (u1),h2⟩
  rw[ek]
  simp only[qbtb,hlen,Option.bind_some]
  rw[decide_eq_true (by omega),cond_true]
  simp only[a0,s0,qcfc k (by omega),y0,a1,d1,g1,s1,qfg,Nat.zero_add,Nat.reduceAdd,wrap_u8,EV0]
  rw[qaf (by omega)]) (by
  intro m k H
  simp only[qbtb,hlen,Option.bind_some]
  rw[decide_eq_false (by omega),cond_false]) (xs.length+1+1) k H (by omega) hk h
 exact⟨H',qrgb (xs.length+1) (by simp only[fci];exact e1),u,r⟩
theorem k_fck {H:List Entry}{w:Bool}{n:Nat}{ids:List Nat}{cs:List Cell}(x:MPack)(k:Nat)(hx:x.Bd maxLen)(h0:Sp (Rep H w true n) ids cs x.tr)(hn:ids.Nodup)(hk:k+x.cntA≤qby):
  ∃ H',qqq [.agg cs,.one (Cell.int (k:Int))] H=some ([.one (Cell.int ((k+x.cntA:Nat):Int))],H')∧Upd ids H H'∧Sp (Rep H' w true n) ids cs (x.mkA k).tr:=by
 obtain⟨c1,c2,c3,rfl⟩:=MPack.open h0
 have hk0:=hk
 simp only[MPack.cntA] at hk
 obtain⟨sub0,r0,nd0,bk0⟩:=Sp.field h0 hn 1 (cc:=c1) rfl rfl
 obtain⟨H0,s0,v0,z0⟩:=qftd (x.Uses) k (hx.2.1) r0 nd0 (by omega)
 obtain⟨u0,h1⟩:=bk0 _ _ v0 z0
 obtain⟨sub1,r1,nd1,bk1⟩:=Sp.field h1 hn 2 (cc:=c2) rfl rfl
 obtain⟨H1,s1,v1,z1⟩:=k_fcj (x.Needs) (k+cntL one1 x.Uses) (hx.2.2.1) r1 nd1 (by omega)
 obtain⟨u1,h2⟩:=bk1 _ _ v1 z1
 obtain⟨sub2,r2,nd2,bk2⟩:=Sp.field h2 hn 3 (cc:=c3) rfl rfl
 obtain⟨H2,s2,v2,z2⟩:=k_fci (x.Cmds) ((k+cntL one1 x.Uses)+cntL MNeed.cntR x.Needs) (hx.2.2.2) r2 nd2 (by omega)
 obtain⟨u2,h3⟩:=bk2 _ _ v2 z2
 have ek:k+x.cntA=(((k+cntL one1 x.Uses)+cntL MNeed.cntR x.Needs)+cntL MCmd.cntR x.Cmds):=by simp only[MPack.cntA]<;>omega
 refine⟨H2,qqnb 0 ?_,u0.trans (u1.trans (u2)),h3⟩
 rw[ek]
 simp only[fck,s0,s1,s2,EV0]
theorem e_fch (xs:List Str)(k:Nat)(hx:bdL maxLen (bdS maxLen) xs)(hk:k+cntL one1 xs≤qby):out qnm [.one (encL 1 eStr (mkL qlw one1 xs k)),.one (Cell.int (k:Int))]=some [.one (Cell.int ((k+cntL one1 xs:Nat):Int))]:=by
 have hM:=qai
 have hyl:(mkL qlw one1 xs k).length≤maxLen:=by rw[qml];exact hx.1
 have loop:∀ (ys:List Str) (hyl:ys.length≤maxLen) (r:List Str) (i k n:Nat),ys.drop i=mkL qlw one1 r k→(∀ y∈r,True)→r.length < n→k+cntL one1 r≤qby→∀ K m,qzj K m n (encL 1 eStr ys) k i=some ([.one (Cell.int ((k+cntL one1 r:Nat):Int))],[]):=by
  intro ys hyl r
  induction r with
  | nil=>
   intro i k n hd hx hn hk K m
   obtain⟨n,rfl⟩:∃ j,n=j+1:=⟨n - 1,by omega⟩
   have:=drop_nil hd
   simp only[qzj,qag,Option.bind_some]
   rw[decide_eq_false (by omega),cond_false,qsh,Nat.add_zero]
  | cons x r ih=>
   intro i k n hd hx hn hk K m
   obtain⟨n,rfl⟩:∃ j,n=j+1:=⟨n - 1,by omega⟩
   obtain⟨hlt,hg,hd'⟩:=qao hd
   simp only[List.length_cons] at hn
   rw[qej,← Nat.add_assoc] at hk ⊢
   have hk0:=hk
   have ek:k+one1 x=(k+1):=rfl
   rw[ek] at hk hd' ⊢
   have y0:IntKind.i64.wrap (((k:Nat):Int)+1)=((k+1:Nat):Int):=qlnb (by omega)
   simp only[qzj,qag,Option.bind_some,qap,hg,eStr,qlw,wrap_u8,bne_self_eq_false,Bool.not_true,qcr,Nat.zero_add,Nat.reduceAdd,qcfc k (by omega),y0,EV0]
   rw[decide_eq_true (by omega),cond_true,qaf (by omega)]
   exact ih _ _ _ hd' (fun y hy=>hx y (List.mem_cons_of_mem _ hy)) (by omega) (by omega) _ _
 refine qaw (H:=[]) (qnvb (xs.length+1) ?_)
 simp only[fch]
 have:=loop _ hyl xs 0 k (xs.length+1+1) rfl (fun _ _=>trivial) (by omega) hk (xs.length+1+1) (xs.length+1+1)
 simp only[Int.natCast_zero] at this
 exact this
theorem e_fcf (xs:List MNeed)(k:Nat)(hx:bdL maxLen (MNeed.Bd maxLen) xs)(hk:k+cntL MNeed.cntR xs≤qby):out qwk [.one (encL 2 MNeed.enc (mkL MNeed.mkR MNeed.cntR xs k)),.one (Cell.int (k:Int))]=some [.one (Cell.int ((k+cntL MNeed.cntR xs:Nat):Int))]:=by
 have hM:=qai
 have hyl:(mkL MNeed.mkR MNeed.cntR xs k).length≤maxLen:=by rw[qml];exact hx.1
 have loop:∀ (ys:List MNeed) (hyl:ys.length≤maxLen) (r:List MNeed) (i k n:Nat),ys.drop i=mkL MNeed.mkR MNeed.cntR r k→(∀ y∈r,MNeed.Bd maxLen y)→r.length < n→k+cntL MNeed.cntR r≤qby→∀ K m,qakb K m n (encL 2 MNeed.enc ys) k i=some ([.one (Cell.int ((k+cntL MNeed.cntR r:Nat):Int))],[]):=by
  intro ys hyl r
  induction r with
  | nil=>
   intro i k n hd hx hn hk K m
   obtain⟨n,rfl⟩:∃ j,n=j+1:=⟨n - 1,by omega⟩
   have:=drop_nil hd
   simp only[qakb,qag,Option.bind_some]
   rw[decide_eq_false (by omega),cond_false,qsh,Nat.add_zero]
  | cons x r ih=>
   intro i k n hd hx hn hk K m
   obtain⟨n,rfl⟩:∃ j,n=j+1:=⟨n - 1,by omega⟩
   obtain⟨hlt,hg,hd'⟩:=qao hd
   simp only[List.length_cons] at hn
   rw[qej,← Nat.add_assoc] at hk ⊢
   have hk0:=hk
   have hb:=hx x List.mem_cons_self
   have ek:k+MNeed.cntR x=((k+1)+1):=(by simp only[MNeed.cntR]<;>omega)
   rw[ek] at hk hd' ⊢
   have y0:IntKind.i64.wrap (((k:Nat):Int)+1)=((k+1:Nat):Int):=qlnb (by omega)
   have y1:IntKind.i64.wrap ((((k+1):Nat):Int)+1)=(((k+1)+1:Nat):Int):=qlnb (by omega)
   simp only[qakb,qag,Option.bind_some,qap,hg,MNeed.enc,MNeed.mkR,wrap_u8,bne_self_eq_false,Bool.not_true,qcr,Nat.zero_add,Nat.reduceAdd,qcfc k (by omega),y0,qcfc (k+1) (by omega),y1,EV0]
   rw[decide_eq_true (by omega),cond_true,qaf (by omega)]
   exact ih _ _ _ hd' (fun y hy=>hx y (List.mem_cons_of_mem _ hy)) (by omega) (by omega) _ _
 refine qaw (H:=[]) (qrcb (xs.length+1) ?_)
 simp only[fcf]
 have:=loop _ hyl xs 0 k (xs.length+1+1) rfl hx.2 (by omega) hk (xs.length+1+1) (xs.length+1+1)
 simp only[Int.natCast_zero] at this
 exact this
theorem e_fce (xs:List MCmd)(k:Nat)(hx:bdL maxLen (MCmd.Bd maxLen) xs)(hk:k+cntL MCmd.cntR xs≤qby):out qvk [.one (encL 2 MCmd.enc (mkL MCmd.mkR MCmd.cntR xs k)),.one (Cell.int (k:Int))]=some [.one (Cell.int ((k+cntL MCmd.cntR xs:Nat):Int))]:=by
 have hM:=qai
 have hyl:(mkL MCmd.mkR MCmd.cntR xs k).length≤maxLen:=by rw[qml];exact hx.1
 have loop:∀ (ys:List MCmd) (hyl:ys.length≤maxLen) (r:List MCmd) (i k n:Nat),ys.drop i=mkL MCmd.mkR MCmd.cntR r k→(∀ y∈r,MCmd.Bd maxLen y)→r.length < n→k+cntL MCmd.cntR r≤qby→∀ K m,qblb K m n (encL 2 MCmd.enc ys) k i=some ([.one (Cell.int ((k+cntL MCmd.cntR r:Nat):Int))],[]):=by
  intro ys hyl r
  induction r with
  | nil=>
   intro i k n hd hx hn hk K m
   obtain⟨n,rfl⟩:∃ j,n=j+1:=⟨n - 1,by omega⟩
   have:=drop_nil hd
   simp only[qblb,qag,Option.bind_some]
   rw[decide_eq_false (by omega),cond_false,qsh,Nat.add_zero]
  | cons x r ih=>
   intro i k n hd hx hn hk K m
   obtain⟨n,rfl⟩:∃ j,n=j+1:=⟨n - 1,by omega⟩
   obtain⟨hlt,hg,hd'⟩:=qao hd
   simp only[List.length_cons] at hn
   rw[qej,← Nat.add_assoc] at hk ⊢
   have hk0:=hk
   have hb:=hx x List.mem_cons_self
   have ek:k+MCmd.cntR x=((k+1)+cntL one1 x.Acts):=(by simp only[MCmd.cntR]<;>omega)
   rw[ek] at hk hd' ⊢
   have y0:IntKind.i64.wrap (((k:Nat):Int)+1)=((k+1:Nat):Int):=qlnb (by omega)
   have n1:decide (((((k+1)+cntL one1 x.Acts):Nat):Int) < 0)=false:=decide_eq_false (by omega)
   simp only[qblb,qag,Option.bind_some,qap,hg,MCmd.enc,MCmd.mkR,wrap_u8,bne_self_eq_false,Bool.not_true,qcr,Nat.zero_add,Nat.reduceAdd,qcfc k (by omega),y0,e_fch (x.Acts) (k+1) (hb.2) (by omega),n1,EV0]
   rw[decide_eq_true (by omega),cond_true,qaf (by omega)]
   exact ih _ _ _ hd' (fun y hy=>hx y (List.mem_cons_of_mem _ hy)) (by omega) (by omega) _ _
 refine qaw (H:=[]) (qnkb (xs.length+1) ?_)
 simp only[fce]
 have:=loop _ hyl xs 0 k (xs.length+1+1) rfl hx.2 (by omega) hk (xs.length+1+1) (xs.length+1+1)
 simp only[Int.natCast_zero] at this
 exact this
theorem e_fcg (x:MPack)(k:Nat)(hx:x.Bd maxLen)(hk:k+x.cntA≤qby):out qjr [.agg [Cell.str (bs (x.mkA k).Name),encL 1 eStr (x.mkA k).Uses,encL 2 MNeed.enc (x.mkA k).Needs,encL 2 MCmd.enc (x.mkA k).Cmds],.one (Cell.int (k:Int))]=some [.one (Cell.int ((k+x.cntA:Nat):Int))]:=by
 have ek:k+x.cntA=(((k+cntL one1 x.Uses)+cntL MNeed.cntR x.Needs)+cntL MCmd.cntR x.Cmds):=by simp only[MPack.cntA]<;>omega
 rw[ek] at hk ⊢
 have n1:decide ((((k+cntL one1 x.Uses):Nat):Int) < 0)=false:=decide_eq_false (by omega)
 have n2:decide (((((k+cntL one1 x.Uses)+cntL MNeed.cntR x.Needs):Nat):Int) < 0)=false:=decide_eq_false (by omega)
 have n3:decide ((((((k+cntL one1 x.Uses)+cntL MNeed.cntR x.Needs)+cntL MCmd.cntR x.Cmds):Nat):Int) < 0)=false:=decide_eq_false (by omega)
 refine qaw (H:=[]) (qmwb 0 ?_)
 simp only[fcg,MPack.mkA,e_fch (x.Uses) k (hx.2.1) (by omega),n1,e_fcf (x.Needs) (k+cntL one1 x.Uses) (hx.2.2.1) (by omega),n2,e_fce (x.Cmds) ((k+cntL one1 x.Uses)+cntL MNeed.cntR x.Needs) (hx.2.2.2) (by omega),n3,EV0]
end Go.Ev
