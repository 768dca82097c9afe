/- The law FnExactRuleOf: it answers true. Printed out of its text by a program of this claim. Conditions: none. -/
import Derived.Test.YtfaiahlpefmgmaaDoorKall
set_option linter.unusedSimpArgs false
set_option linter.unusedVariables false
set_option maxHeartbeats 4000000
namespace Go.Ev
open Go
theorem c_fbf (x0:Str)(x1:MVal)(hx0:bdS maxLen x0)(hx1:MVal.Bd maxLen x1):out qejb [.one (Cell.str (bs x0)),.agg [Cell.int x1.K,Cell.int x1.N,Cell.str (bs x1.S),encL 5 MVal.enc x1.L,encL 1 eStr x1.Keys]]=some [.one (Cell.bool true)]:=by
 by_cases g0:(x0.length:Int)≤1048576
 rotate_left
 ·refine qau (H:=[]) (qil 0 ?_)
  simp only[fbf,qae,EV0]
  rw[decide_eq_true (by omega),cond_true]
 by_cases g1:((MVal.wt x1:Nat):Int)≤1048576
 rotate_left
 ·refine qau (H:=[]) (qil 0 ?_)
  simp only[fbf,qae,EV0]
  rw[decide_eq_false (by omega),cond_false]
  try simp only[EV0]
  rw[c_fbs _ _ hx1 (by omega) (by omega)]
  simp only[EV0,qptb]
  rw[if_neg g1]
 have b0:bdS 1048576 x0:=by unfold bdS;omega
 have b1:MVal.Bd 1048576 x1:=MVal.bd_wt hx1 (by omega:MVal.wt (x1)≤1048576)
 have u0:=b0
 have u1:MVal.wt x1≤1048576:=by omega
 have bw:=qdnb x0 b0 u0 x1 b1 u1
 have spec:=c_fcc x0 b0 u0 x1 b1 u1
 have impl:=f_fad x0 b0 u0 x1 b1 u1
 generalize hw:qbb x0 x1=w at bw spec impl
 have bm:MRule.Bd maxLen w.1:=(by have hM:=qak;exact⟨(Nat.le_trans bw.1 (by omega)),(qsp bw.2.1 (by omega) fun y hy=>(Nat.le_trans hy (by omega))),(qsp bw.2.2.1 (by omega) fun y hy=>(Nat.le_trans hy (by omega))),(qsp bw.2.2.2.1 (by omega) fun y hy=>(Nat.le_trans hy (by omega))),bw.2.2.2.2⟩)
 obtain⟨cs1,E1,i1,e1,r1,w1,_⟩:=qenb (qdmc x1 b1 u1) (([]:List Entry)) (qbh [.agg [Cell.int x1.K,Cell.int x1.N,Cell.str (bs x1.S),encL 5 MVal.enc x1.L,encL 1 eStr x1.Keys]] _ _)
 obtain⟨c1_3,c1_4,rfl⟩:=MVal.open r1
 obtain⟨H2,z2,e2⟩:=qbsb (run:=qjt) (n:=2097152) (by omega) (Sp.cons (P:=RepA (([]:List Entry)++E1) true true 2097152) (i:=[]) (a:=AV.one (Cell.str (bs x0))) (b:=AT.one (.leaf (.string (bs x0)))) (qkyb (H:=([]:List Entry)++E1) (w:=true) (q:=true) (n:=2097151) _) (Sp.cons (P:=RepA (([]:List Entry)++E1) true true 2097152) (a:=AV.agg [Cell.int x1.K,Cell.int x1.N,Cell.str (bs x1.S),c1_3,c1_4]) (b:=AT.agg (MVal.tr x1)) (Rep.more2 (m:=2097152) r1 (by omega)) .nil))
 have e2:callL qjt [.one (Cell.str (bs x0)),.agg [Cell.int x1.K,Cell.int x1.N,Cell.str (bs x1.S),c1_3,c1_4]] (([]:List Entry)++E1)=some ([.agg [Cell.str (bs w.1.Task),encL 1 eStr w.1.On,encL 1 eStr w.1.Ins,encL 1 eStr w.1.Envs,Cell.bool w.1.Keep],.one (Cell.bool w.2)],H2):=by
  rw[e2]
  simp only[AT.av,tr_V,qbp,qbv,List.map_cons,List.map_nil,MRule.tr]
  rw[spec]
  rfl
 obtain⟨cs3,E3,i3,e3,r3,w3,_⟩:=qenb (qdmc x1 b1 u1) (H2) (qbh [.agg [Cell.int x1.K,Cell.int x1.N,Cell.str (bs x1.S),encL 5 MVal.enc x1.L,encL 1 eStr x1.Keys]] _ _)
 obtain⟨c3_3,c3_4,rfl⟩:=MVal.open r3
 obtain⟨cs4,E4,i4,e4,r4,w4,_⟩:=qmhb (impl) (H2++E3) (qdd (qbd (.one (Cell.str (bs x0))) false (H2++E3)) (qdd (by have:=qcf (r3) (by omega);simpa only[tr_V,qbp,qbv,List.map_cons,List.map_nil,MRule.tr] using this:qam false (H2++E3) (.agg [Cell.int x1.K,Cell.int x1.N,Cell.str (bs x1.S),c3_3,c3_4])=some (.agg [Cell.int x1.K,Cell.int x1.N,Cell.str (bs x1.S),encL 5 MVal.enc x1.L,encL 1 eStr x1.Keys])) (qbs _)))
 obtain⟨c4_1,c4_2,c4_3,rfl⟩:=MRule.open r4
 have r5:=Rep.app2 E4 r3
 have e6:qaj qfm [.agg [Cell.str (bs w.1.Task),c4_1,c4_2,c4_3,Cell.bool w.1.Keep],.agg [Cell.str (bs w.1.Task),encL 1 eStr w.1.On,encL 1 eStr w.1.Ins,encL 1 eStr w.1.Envs,Cell.bool w.1.Keep]] (H2++E3++E4)=some [.one (Cell.bool true)]:=by
  rw[qeg (qdd (by have:=qcf (r4) (by omega);simpa only[tr_V,qbp,qbv,List.map_cons,List.map_nil,MRule.tr] using this:qam false (H2++E3++E4) (.agg [Cell.str (bs w.1.Task),c4_1,c4_2,c4_3,Cell.bool w.1.Keep])=some (.agg [Cell.str (bs w.1.Task),encL 1 eStr w.1.On,encL 1 eStr w.1.Ins,encL 1 eStr w.1.Envs,Cell.bool w.1.Keep])) (qdd (qbd (.agg [Cell.str (bs w.1.Task),encL 1 eStr w.1.On,encL 1 eStr w.1.Ins,encL 1 eStr w.1.Envs,Cell.bool w.1.Keep]) false (H2++E3++E4)) (qbs _))),c_fbg _ _ bw bw]
  simp
 obtain⟨cs7,E7,i7,e7,r7,w7,_⟩:=qenb (qdmc x1 b1 u1) (H2++E3++E4) (qbh [.agg [Cell.int x1.K,Cell.int x1.N,Cell.str (bs x1.S),encL 5 MVal.enc x1.L,encL 1 eStr x1.Keys]] _ _)
 obtain⟨c7_3,c7_4,rfl⟩:=MVal.open r7
 have r8:=Rep.app2 E7 r5
 have r9:=Rep.app2 E7 r4
 have e10:qaj qop [.agg [Cell.int x1.K,Cell.int x1.N,Cell.str (bs x1.S),c3_3,c3_4],.agg [Cell.int x1.K,Cell.int x1.N,Cell.str (bs x1.S),c7_3,c7_4]] (H2++E3++E4++E7)=some [.one (Cell.bool true)]:=by
  rw[qeg (qdd (by have:=qcf (r8) (by omega);simpa only[tr_V,qbp,qbv,List.map_cons,List.map_nil,MRule.tr] using this:qam false (H2++E3++E4++E7) (.agg [Cell.int x1.K,Cell.int x1.N,Cell.str (bs x1.S),c3_3,c3_4])=some (.agg [Cell.int x1.K,Cell.int x1.N,Cell.str (bs x1.S),encL 5 MVal.enc x1.L,encL 1 eStr x1.Keys])) (qdd (by have:=qcf (r7) (by omega);simpa only[tr_V,qbp,qbv,List.map_cons,List.map_nil,MRule.tr] using this:qam false (H2++E3++E4++E7) (.agg [Cell.int x1.K,Cell.int x1.N,Cell.str (bs x1.S),c7_3,c7_4])=some (.agg [Cell.int x1.K,Cell.int x1.N,Cell.str (bs x1.S),encL 5 MVal.enc x1.L,encL 1 eStr x1.Keys])) (qbs _))),c_fbi _ _ b1 b1]
  simp
 have y11:1+x1.cntA≤qbu:=by
  have:=MVal.cntA_le x1
  unfold qbu
  omega
 obtain⟨H11,e11,u11,q11⟩:=k_fbp x1 (1) hx1 r8 w3.nd y11
 have e11:qlg [.agg [Cell.int x1.K,Cell.int x1.N,Cell.str (bs x1.S),c3_3,c3_4],.one (Cell.int 1)] (H2++E3++E4++E7)=some ([.one (Cell.int ((1+x1.cntA:Nat):Int))],H11):=e11
 have r12:=u11.rep2 r9 (fun j hj h=>by have:=w4.lo j hj;have:=w4.hi j hj;have:=w3.lo j h;have:=w3.hi j h;have:=w3.le;have:=w4.le;have:=w7.le;omega)
 have n11:decide (((1+x1.cntA:Nat):Int) < 0)=false:=decide_eq_false (by omega)
 have e13:qaj qfm [.agg [Cell.str (bs w.1.Task),c4_1,c4_2,c4_3,Cell.bool w.1.Keep],.agg [Cell.str (bs w.1.Task),encL 1 eStr w.1.On,encL 1 eStr w.1.Ins,encL 1 eStr w.1.Envs,Cell.bool w.1.Keep]] (H11)=some [.one (Cell.bool true)]:=by
  rw[qeg (qdd (by have:=qcf (r12) (by omega);simpa only[tr_V,qbp,qbv,List.map_cons,List.map_nil,MRule.tr] using this:qam false (H11) (.agg [Cell.str (bs w.1.Task),c4_1,c4_2,c4_3,Cell.bool w.1.Keep])=some (.agg [Cell.str (bs w.1.Task),encL 1 eStr w.1.On,encL 1 eStr w.1.Ins,encL 1 eStr w.1.Envs,Cell.bool w.1.Keep])) (qdd (qbd (.agg [Cell.str (bs w.1.Task),encL 1 eStr w.1.On,encL 1 eStr w.1.Ins,encL 1 eStr w.1.Envs,Cell.bool w.1.Keep]) false (H11)) (qbs _))),c_fbg _ _ bw bw]
  simp
 have kw:1+w.1.cntA≤qbu:=by
  have:=qddb x0 b0 u0 x1 b1 u1
  rw[hw] at this
  unfold qbu
  omega
 have y14:=kw
 obtain⟨H14,e14,u14,q14⟩:=k_fbm w.1 (1) bm r12 w4.nd y14
 have e14:qlc [.agg [Cell.str (bs w.1.Task),c4_1,c4_2,c4_3,Cell.bool w.1.Keep],.one (Cell.int 1)] (H11)=some ([.one (Cell.int ((1+w.1.cntA:Nat):Int))],H14):=e14
 have n14:decide (((1+w.1.cntA:Nat):Int) < 0)=false:=decide_eq_false (by omega)
 have e15:qaj qgz [.agg [Cell.str (bs w.1.Task),c4_1,c4_2,c4_3,Cell.bool w.1.Keep],.one (Cell.int 1)] (H14)=some [.one (Cell.int ((1+w.1.cntA:Nat):Int))]:=by
  rw[qeg (qdd (by have:=qcf (q14) (by omega);simpa only[tr_V,qbp,qbv,List.map_cons,List.map_nil,MRule.tr] using this:qam false (H14) (.agg [Cell.str (bs w.1.Task),c4_1,c4_2,c4_3,Cell.bool w.1.Keep])=some (.agg [Cell.str (bs (w.1.mkA (1)).Task),encL 1 eStr (w.1.mkA (1)).On,encL 1 eStr (w.1.mkA (1)).Ins,encL 1 eStr (w.1.mkA (1)).Envs,Cell.bool (w.1.mkA (1)).Keep])) (qdd (qbd (.one (Cell.int 1)) false (H14)) (qbs _)))]
  exact e_fbk w.1 (1) bm kw
 obtain⟨cs16,E16,i16,e16,r16,w16,_⟩:=qenb (qdmc x1 b1 u1) (H14) (qbh [.agg [Cell.int x1.K,Cell.int x1.N,Cell.str (bs x1.S),encL 5 MVal.enc x1.L,encL 1 eStr x1.Keys]] _ _)
 obtain⟨c16_3,c16_4,rfl⟩:=MVal.open r16
 have r17:=Rep.app2 E16 q14
 obtain⟨cs18,E18,i18,e18,r18,w18,_⟩:=qmhb (impl) (H14++E16) (qdd (qbd (.one (Cell.str (bs x0))) false (H14++E16)) (qdd (by have:=qcf (r16) (by omega);simpa only[tr_V,qbp,qbv,List.map_cons,List.map_nil,MRule.tr] using this:qam false (H14++E16) (.agg [Cell.int x1.K,Cell.int x1.N,Cell.str (bs x1.S),c16_3,c16_4])=some (.agg [Cell.int x1.K,Cell.int x1.N,Cell.str (bs x1.S),encL 5 MVal.enc x1.L,encL 1 eStr x1.Keys])) (qbs _)))
 obtain⟨c18_1,c18_2,c18_3,rfl⟩:=MRule.open r18
 have r19:=Rep.app2 E18 r17
 have r20:=Rep.app2 E18 r16
 have e21:qaj qfm [.agg [Cell.str (bs w.1.Task),c18_1,c18_2,c18_3,Cell.bool w.1.Keep],.agg [Cell.str (bs w.1.Task),encL 1 eStr w.1.On,encL 1 eStr w.1.Ins,encL 1 eStr w.1.Envs,Cell.bool w.1.Keep]] (H14++E16++E18)=some [.one (Cell.bool true)]:=by
  rw[qeg (qdd (by have:=qcf (r18) (by omega);simpa only[tr_V,qbp,qbv,List.map_cons,List.map_nil,MRule.tr] using this:qam false (H14++E16++E18) (.agg [Cell.str (bs w.1.Task),c18_1,c18_2,c18_3,Cell.bool w.1.Keep])=some (.agg [Cell.str (bs w.1.Task),encL 1 eStr w.1.On,encL 1 eStr w.1.Ins,encL 1 eStr w.1.Envs,Cell.bool w.1.Keep])) (qdd (qbd (.agg [Cell.str (bs w.1.Task),encL 1 eStr w.1.On,encL 1 eStr w.1.Ins,encL 1 eStr w.1.Envs,Cell.bool w.1.Keep]) false (H14++E16++E18)) (qbs _))),c_fbg _ _ bw bw]
  simp
 have e22:qaj qgz [.agg [Cell.str (bs w.1.Task),c4_1,c4_2,c4_3,Cell.bool w.1.Keep],.one (Cell.int 1)] (H14++E16++E18)=some [.one (Cell.int ((1+w.1.cntA:Nat):Int))]:=by
  rw[qeg (qdd (by have:=qcf (r19) (by omega);simpa only[tr_V,qbp,qbv,List.map_cons,List.map_nil,MRule.tr] using this:qam false (H14++E16++E18) (.agg [Cell.str (bs w.1.Task),c4_1,c4_2,c4_3,Cell.bool w.1.Keep])=some (.agg [Cell.str (bs (w.1.mkA (1)).Task),encL 1 eStr (w.1.mkA (1)).On,encL 1 eStr (w.1.mkA (1)).Ins,encL 1 eStr (w.1.mkA (1)).Envs,Cell.bool (w.1.mkA (1)).Keep])) (qdd (qbd (.one (Cell.int 1)) false (H14++E16++E18)) (qbs _)))]
  exact e_fbk w.1 (1) bm kw
 refine qau (H:=H14++E16++E18) (qil 0 ?_)
 simp only[fbf,qae,EV0]
 rw[decide_eq_false (by omega),cond_false]
 try simp only[EV0]
 rw[c_fbs _ _ hx1 (by omega) (by omega)]
 simp only[EV0,qptb]
 rw[if_pos g1]
 refine qcy e1 ?_
 repeat (first | with_reducible refine qaq n11 ?_ | with_reducible refine qaq n14 ?_ | refine qbc rfl ?_ | refine qdc rfl ?_ | refine qcw rfl ?_ | refine qcx rfl ?_ | refine qcu rfl ?_ | with_reducible refine qct ?_ | with_reducible refine qda ?_ | refine qaq rfl ?_)
 refine qcy e2 ?_
 repeat (first | with_reducible refine qaq n11 ?_ | with_reducible refine qaq n14 ?_ | refine qbc rfl ?_ | refine qdc rfl ?_ | refine qcw rfl ?_ | refine qcx rfl ?_ | refine qcu rfl ?_ | with_reducible refine qct ?_ | with_reducible refine qda ?_ | refine qaq rfl ?_)
 refine qcy e3 ?_
 repeat (first | with_reducible refine qaq n11 ?_ | with_reducible refine qaq n14 ?_ | refine qbc rfl ?_ | refine qdc rfl ?_ | refine qcw rfl ?_ | refine qcx rfl ?_ | refine qcu rfl ?_ | with_reducible refine qct ?_ | with_reducible refine qda ?_ | refine qaq rfl ?_)
 refine qcy e4 ?_
 repeat (first | with_reducible refine qaq n11 ?_ | with_reducible refine qaq n14 ?_ | refine qbc rfl ?_ | refine qdc rfl ?_ | refine qcw rfl ?_ | refine qcx rfl ?_ | refine qcu rfl ?_ | with_reducible refine qct ?_ | with_reducible refine qda ?_ | refine qaq rfl ?_)
 refine qcy e6 ?_
 repeat (first | with_reducible refine qaq n11 ?_ | with_reducible refine qaq n14 ?_ | refine qbc rfl ?_ | refine qdc rfl ?_ | refine qcw rfl ?_ | refine qcx rfl ?_ | refine qcu rfl ?_ | with_reducible refine qct ?_ | with_reducible refine qda ?_ | refine qaq rfl ?_)
 refine qcy e7 ?_
 repeat (first | with_reducible refine qaq n11 ?_ | with_reducible refine qaq n14 ?_ | refine qbc rfl ?_ | refine qdc rfl ?_ | refine qcw rfl ?_ | refine qcx rfl ?_ | refine qcu rfl ?_ | with_reducible refine qct ?_ | with_reducible refine qda ?_ | refine qaq rfl ?_)
 refine qcy e10 ?_
 repeat (first | with_reducible refine qaq n11 ?_ | with_reducible refine qaq n14 ?_ | refine qbc rfl ?_ | refine qdc rfl ?_ | refine qcw rfl ?_ | refine qcx rfl ?_ | refine qcu rfl ?_ | with_reducible refine qct ?_ | with_reducible refine qda ?_ | refine qaq rfl ?_)
 refine qcy e11 ?_
 repeat (first | with_reducible refine qaq n11 ?_ | with_reducible refine qaq n14 ?_ | refine qbc rfl ?_ | refine qdc rfl ?_ | refine qcw rfl ?_ | refine qcx rfl ?_ | refine qcu rfl ?_ | with_reducible refine qct ?_ | with_reducible refine qda ?_ | refine qaq rfl ?_)
 refine qcy e13 ?_
 repeat (first | with_reducible refine qaq n11 ?_ | with_reducible refine qaq n14 ?_ | refine qbc rfl ?_ | refine qdc rfl ?_ | refine qcw rfl ?_ | refine qcx rfl ?_ | refine qcu rfl ?_ | with_reducible refine qct ?_ | with_reducible refine qda ?_ | refine qaq rfl ?_)
 refine qcy e14 ?_
 repeat (first | with_reducible refine qaq n11 ?_ | with_reducible refine qaq n14 ?_ | refine qbc rfl ?_ | refine qdc rfl ?_ | refine qcw rfl ?_ | refine qcx rfl ?_ | refine qcu rfl ?_ | with_reducible refine qct ?_ | with_reducible refine qda ?_ | refine qaq rfl ?_)
 refine qcy e15 ?_
 repeat (first | with_reducible refine qaq n11 ?_ | with_reducible refine qaq n14 ?_ | refine qbc rfl ?_ | refine qdc rfl ?_ | refine qcw rfl ?_ | refine qcx rfl ?_ | refine qcu rfl ?_ | with_reducible refine qct ?_ | with_reducible refine qda ?_ | refine qaq rfl ?_)
 refine qcy e16 ?_
 repeat (first | with_reducible refine qaq n11 ?_ | with_reducible refine qaq n14 ?_ | refine qbc rfl ?_ | refine qdc rfl ?_ | refine qcw rfl ?_ | refine qcx rfl ?_ | refine qcu rfl ?_ | with_reducible refine qct ?_ | with_reducible refine qda ?_ | refine qaq rfl ?_)
 refine qcy e18 ?_
 repeat (first | with_reducible refine qaq n11 ?_ | with_reducible refine qaq n14 ?_ | refine qbc rfl ?_ | refine qdc rfl ?_ | refine qcw rfl ?_ | refine qcx rfl ?_ | refine qcu rfl ?_ | with_reducible refine qct ?_ | with_reducible refine qda ?_ | refine qaq rfl ?_)
 refine qcy e21 ?_
 repeat (first | with_reducible refine qaq n11 ?_ | with_reducible refine qaq n14 ?_ | refine qbc rfl ?_ | refine qdc rfl ?_ | refine qcw rfl ?_ | refine qcx rfl ?_ | refine qcu rfl ?_ | with_reducible refine qct ?_ | with_reducible refine qda ?_ | refine qaq rfl ?_)
 refine qcy e22 ?_
 repeat (first | with_reducible refine qaq n11 ?_ | with_reducible refine qaq n14 ?_ | refine qbc rfl ?_ | refine qdc rfl ?_ | refine qcw rfl ?_ | refine qcx rfl ?_ | refine qcu rfl ?_ | with_reducible refine qct ?_ | with_reducible refine qda ?_ | refine qaq rfl ?_)
 rfl
end Go.Ev
