/- The law FnExactPackOf: it answers true. Printed out of its text by a program of this claim. Conditions: none. -/
import Derived.Test.YteenbnljpddleaaGreatDoorKall
set_option linter.unusedSimpArgs false
set_option linter.unusedVariables false
set_option maxHeartbeats 4000000
namespace Go.Ev
open Go
theorem c_fbv (x0:MVal)(hx0:MVal.Bd maxLen x0):out qmcb [.agg [Cell.int x0.K,Cell.int x0.N,Cell.str (bs x0.S),encL 5 MVal.enc x0.L,encL 1 eStr x0.Keys]]=some [.one (Cell.bool true)]:=by
 by_cases g0:((MVal.wt x0:Nat):Int)≤1048576
 rotate_left
 ·refine qaw (H:=[]) (qvx 0 ?_)
  simp only[fbv,qag,EV0]
  rw[c_fcq _ _ hx0 (by omega) (by omega)]
  simp only[EV0,qhec]
  rw[if_neg g0]
 have b0:MVal.Bd 1048576 x0:=MVal.bd_wt hx0 (by omega:MVal.wt (x0)≤1048576)
 have u0:MVal.wt x0≤1048576:=by omega
 have bw:=qqub x0 b0 u0
 have spec:=c_fcy x0 b0 u0
 have impl:=f_fac x0 b0 u0
 generalize hw:qbq x0=w at bw spec impl
 have bm:MPack.Bd maxLen w.1:=(by have hM:=qai;exact⟨(Nat.le_trans bw.1 (by omega)),(qso bw.2.1 (by omega) fun y hy=>(Nat.le_trans hy (by omega))),(qso bw.2.2.1 (by omega) fun y hy=>⟨(Nat.le_trans hy.1 (by omega)),(Nat.le_trans hy.2 (by omega))⟩),(qso bw.2.2.2 (by omega) fun y hy=>⟨(Nat.le_trans hy.1 (by omega)),(qso hy.2 (by omega) fun y hy=>(Nat.le_trans hy (by omega)))⟩)⟩)
 obtain⟨cs1,E1,i1,e1,r1,w1,_⟩:=qlqb (qfrd x0 b0 u0) (([]:List Entry)) (qau [.agg [Cell.int x0.K,Cell.int x0.N,Cell.str (bs x0.S),encL 5 MVal.enc x0.L,encL 1 eStr x0.Keys]] _ _)
 obtain⟨c1_3,c1_4,rfl⟩:=MVal.open r1
 obtain⟨H2,z2,e2⟩:=qreb (run:=qoe) (n:=2097152) (by omega) (Sp.cons (P:=RepA (([]:List Entry)++E1) true true 2097152) (a:=AV.agg [Cell.int x0.K,Cell.int x0.N,Cell.str (bs x0.S),c1_3,c1_4]) (b:=AT.agg (MVal.tr x0)) (Rep.more2 (m:=2097152) r1 (by omega)) .nil)
 have e2:callL qoe [.agg [Cell.int x0.K,Cell.int x0.N,Cell.str (bs x0.S),c1_3,c1_4]] (([]:List Entry)++E1)=some ([.agg [Cell.str (bs w.1.Name),encL 1 eStr w.1.Uses,encL 2 MNeed.enc w.1.Needs,encL 2 MCmd.enc w.1.Cmds],.one (Cell.bool w.2)],H2):=by
  rw[e2]
  simp only[AT.av,tr_V,qbl,qbs,List.map_cons,List.map_nil,MCmd.tr,MNeed.tr,MPack.tr,MRule.tr,MVer.tr]
  rw[spec]
  rfl
 obtain⟨cs3,E3,i3,e3,r3,w3,_⟩:=qlqb (qfrd x0 b0 u0) (H2) (qau [.agg [Cell.int x0.K,Cell.int x0.N,Cell.str (bs x0.S),encL 5 MVal.enc x0.L,encL 1 eStr x0.Keys]] _ _)
 obtain⟨c3_3,c3_4,rfl⟩:=MVal.open r3
 obtain⟨cs4,E4,i4,e4,r4,w4,_⟩:=qyx (impl) (H2++E3) (qcc (by have:=qch (r3) (by omega);simpa only[tr_V,qbl,qbs,List.map_cons,List.map_nil,MCmd.tr,MNeed.tr,MPack.tr,MRule.tr,MVer.tr] using this:qam false (H2++E3) (.agg [Cell.int x0.K,Cell.int x0.N,Cell.str (bs x0.S),c3_3,c3_4])=some (.agg [Cell.int x0.K,Cell.int x0.N,Cell.str (bs x0.S),encL 5 MVal.enc x0.L,encL 1 eStr x0.Keys])) (qbk _))
 obtain⟨c4_1,c4_2,c4_3,rfl⟩:=MPack.open r4
 have r5:=Rep.app2 E4 r3
 have e6:qak qhk [.agg [Cell.str (bs w.1.Name),c4_1,c4_2,c4_3],.agg [Cell.str (bs w.1.Name),encL 1 eStr w.1.Uses,encL 2 MNeed.enc w.1.Needs,encL 2 MCmd.enc w.1.Cmds]] (H2++E3++E4)=some [.one (Cell.bool true)]:=by
  rw[qdu (qcc (by have:=qch (r4) (by omega);simpa only[tr_V,qbl,qbs,List.map_cons,List.map_nil,MCmd.tr,MNeed.tr,MPack.tr,MRule.tr,MVer.tr] using this:qam false (H2++E3++E4) (.agg [Cell.str (bs w.1.Name),c4_1,c4_2,c4_3])=some (.agg [Cell.str (bs w.1.Name),encL 1 eStr w.1.Uses,encL 2 MNeed.enc w.1.Needs,encL 2 MCmd.enc w.1.Cmds])) (qcc (qaz (.agg [Cell.str (bs w.1.Name),encL 1 eStr w.1.Uses,encL 2 MNeed.enc w.1.Needs,encL 2 MCmd.enc w.1.Cmds]) false (H2++E3++E4)) (qbk _))),c_fca _ _ bw bw]
  simp
 obtain⟨cs7,E7,i7,e7,r7,w7,_⟩:=qlqb (qfrd x0 b0 u0) (H2++E3++E4) (qau [.agg [Cell.int x0.K,Cell.int x0.N,Cell.str (bs x0.S),encL 5 MVal.enc x0.L,encL 1 eStr x0.Keys]] _ _)
 obtain⟨c7_3,c7_4,rfl⟩:=MVal.open r7
 have r8:=Rep.app2 E7 r5
 have r9:=Rep.app2 E7 r4
 have e10:qak qyi [.agg [Cell.int x0.K,Cell.int x0.N,Cell.str (bs x0.S),c3_3,c3_4],.agg [Cell.int x0.K,Cell.int x0.N,Cell.str (bs x0.S),c7_3,c7_4]] (H2++E3++E4++E7)=some [.one (Cell.bool true)]:=by
  rw[qdu (qcc (by have:=qch (r8) (by omega);simpa only[tr_V,qbl,qbs,List.map_cons,List.map_nil,MCmd.tr,MNeed.tr,MPack.tr,MRule.tr,MVer.tr] using this:qam false (H2++E3++E4++E7) (.agg [Cell.int x0.K,Cell.int x0.N,Cell.str (bs x0.S),c3_3,c3_4])=some (.agg [Cell.int x0.K,Cell.int x0.N,Cell.str (bs x0.S),encL 5 MVal.enc x0.L,encL 1 eStr x0.Keys])) (qcc (by have:=qch (r7) (by omega);simpa only[tr_V,qbl,qbs,List.map_cons,List.map_nil,MCmd.tr,MNeed.tr,MPack.tr,MRule.tr,MVer.tr] using this:qam false (H2++E3++E4++E7) (.agg [Cell.int x0.K,Cell.int x0.N,Cell.str (bs x0.S),c7_3,c7_4])=some (.agg [Cell.int x0.K,Cell.int x0.N,Cell.str (bs x0.S),encL 5 MVal.enc x0.L,encL 1 eStr x0.Keys])) (qbk _))),c_fcc _ _ b0 b0]
  simp
 have y11:1+x0.cntA≤qby:=by
  have:=MVal.cntA_le x0
  unfold qby
  omega
 obtain⟨H11,e11,u11,q11⟩:=k_fcn x0 (1) hx0 r8 w3.nd y11
 have e11:qqm [.agg [Cell.int x0.K,Cell.int x0.N,Cell.str (bs x0.S),c3_3,c3_4],.one (Cell.int 1)] (H2++E3++E4++E7)=some ([.one (Cell.int ((1+x0.cntA:Nat):Int))],H11):=e11
 have r12:=u11.rep2 r9 (fun j hj h=>by have:=w4.lo j hj;have:=w4.hi j hj;have:=w3.lo j h;have:=w3.hi j h;have:=w3.le;have:=w4.le;have:=w7.le;omega)
 have n11:decide (((1+x0.cntA:Nat):Int) < 0)=false:=decide_eq_false (by omega)
 have e13:qak qhk [.agg [Cell.str (bs w.1.Name),c4_1,c4_2,c4_3],.agg [Cell.str (bs w.1.Name),encL 1 eStr w.1.Uses,encL 2 MNeed.enc w.1.Needs,encL 2 MCmd.enc w.1.Cmds]] (H11)=some [.one (Cell.bool true)]:=by
  rw[qdu (qcc (by have:=qch (r12) (by omega);simpa only[tr_V,qbl,qbs,List.map_cons,List.map_nil,MCmd.tr,MNeed.tr,MPack.tr,MRule.tr,MVer.tr] using this:qam false (H11) (.agg [Cell.str (bs w.1.Name),c4_1,c4_2,c4_3])=some (.agg [Cell.str (bs w.1.Name),encL 1 eStr w.1.Uses,encL 2 MNeed.enc w.1.Needs,encL 2 MCmd.enc w.1.Cmds])) (qcc (qaz (.agg [Cell.str (bs w.1.Name),encL 1 eStr w.1.Uses,encL 2 MNeed.enc w.1.Needs,encL 2 MCmd.enc w.1.Cmds]) false (H11)) (qbk _))),c_fca _ _ bw bw]
  simp
 have kw:1+w.1.cntA≤qby:=by
  have:=qqpb x0 b0 u0
  rw[hw] at this
  unfold qby
  omega
 have y14:=kw
 obtain⟨H14,e14,u14,q14⟩:=k_fck w.1 (1) bm r12 w4.nd y14
 have e14:qqq [.agg [Cell.str (bs w.1.Name),c4_1,c4_2,c4_3],.one (Cell.int 1)] (H11)=some ([.one (Cell.int ((1+w.1.cntA:Nat):Int))],H14):=e14
 have n14:decide (((1+w.1.cntA:Nat):Int) < 0)=false:=decide_eq_false (by omega)
 have e15:qak qjr [.agg [Cell.str (bs w.1.Name),c4_1,c4_2,c4_3],.one (Cell.int 1)] (H14)=some [.one (Cell.int ((1+w.1.cntA:Nat):Int))]:=by
  rw[qdu (qcc (by have:=qch (q14) (by omega);simpa only[tr_V,qbl,qbs,List.map_cons,List.map_nil,MCmd.tr,MNeed.tr,MPack.tr,MRule.tr,MVer.tr] using this:qam false (H14) (.agg [Cell.str (bs w.1.Name),c4_1,c4_2,c4_3])=some (.agg [Cell.str (bs (w.1.mkA (1)).Name),encL 1 eStr (w.1.mkA (1)).Uses,encL 2 MNeed.enc (w.1.mkA (1)).Needs,encL 2 MCmd.enc (w.1.mkA (1)).Cmds])) (qcc (qaz (.one (Cell.int 1)) false (H14)) (qbk _)))]
  exact e_fcg w.1 (1) bm kw
 obtain⟨cs16,E16,i16,e16,r16,w16,_⟩:=qlqb (qfrd x0 b0 u0) (H14) (qau [.agg [Cell.int x0.K,Cell.int x0.N,Cell.str (bs x0.S),encL 5 MVal.enc x0.L,encL 1 eStr x0.Keys]] _ _)
 obtain⟨c16_3,c16_4,rfl⟩:=MVal.open r16
 have r17:=Rep.app2 E16 q14
 obtain⟨cs18,E18,i18,e18,r18,w18,_⟩:=qyx (impl) (H14++E16) (qcc (by have:=qch (r16) (by omega);simpa only[tr_V,qbl,qbs,List.map_cons,List.map_nil,MCmd.tr,MNeed.tr,MPack.tr,MRule.tr,MVer.tr] using this:qam false (H14++E16) (.agg [Cell.int x0.K,Cell.int x0.N,Cell.str (bs x0.S),c16_3,c16_4])=some (.agg [Cell.int x0.K,Cell.int x0.N,Cell.str (bs x0.S),encL 5 MVal.enc x0.L,encL 1 eStr x0.Keys])) (qbk _))
 obtain⟨c18_1,c18_2,c18_3,rfl⟩:=MPack.open r18
 have r19:=Rep.app2 E18 r17
 have r20:=Rep.app2 E18 r16
 have e21:qak qhk [.agg [Cell.str (bs w.1.Name),c18_1,c18_2,c18_3],.agg [Cell.str (bs w.1.Name),encL 1 eStr w.1.Uses,encL 2 MNeed.enc w.1.Needs,encL 2 MCmd.enc w.1.Cmds]] (H14++E16++E18)=some [.one (Cell.bool true)]:=by
  rw[qdu (qcc (by have:=qch (r18) (by omega);simpa only[tr_V,qbl,qbs,List.map_cons,List.map_nil,MCmd.tr,MNeed.tr,MPack.tr,MRule.tr,MVer.tr] using this:qam false (H14++E16++E18) (.agg [Cell.str (bs w.1.Name),c18_1,c18_2,c18_3])=some (.agg [Cell.str (bs w.1.Name),encL 1 eStr w.1.Uses,encL 2 MNeed.enc w.1.Needs,encL 2 MCmd.enc w.1.Cmds])) (qcc (qaz (.agg [Cell.str (bs w.1.Name),encL 1 eStr w.1.Uses,encL 2 MNeed.enc w.1.Needs,encL 2 MCmd.enc w.1.Cmds]) false (H14++E16++E18)) (qbk _))),c_fca _ _ bw bw]
  simp
 have e22:qak qjr [.agg [Cell.str (bs w.1.Name),c4_1,c4_2,c4_3],.one (Cell.int 1)] (H14++E16++E18)=some [.one (Cell.int ((1+w.1.cntA:Nat):Int))]:=by
  rw[qdu (qcc (by have:=qch (r19) (by omega);simpa only[tr_V,qbl,qbs,List.map_cons,List.map_nil,MCmd.tr,MNeed.tr,MPack.tr,MRule.tr,MVer.tr] using this:qam false (H14++E16++E18) (.agg [Cell.str (bs w.1.Name),c4_1,c4_2,c4_3])=some (.agg [Cell.str (bs (w.1.mkA (1)).Name),encL 1 eStr (w.1.mkA (1)).Uses,encL 2 MNeed.enc (w.1.mkA (1)).Needs,encL 2 MCmd.enc (w.1.mkA (1)).Cmds])) (qcc (qaz (.one (Cell.int 1)) false (H14++E16++E18)) (qbk _)))]
  exact e_fcg w.1 (1) bm kw
 refine qaw (H:=H14++E16++E18) (qvx 0 ?_)
 simp only[fbv,qag,EV0]
 rw[c_fcq _ _ hx0 (by omega) (by omega)]
 simp only[EV0,qhec]
 rw[if_pos g0]
 refine qee e1 ?_
 repeat (first | with_reducible refine qbc n11 ?_ | with_reducible refine qbc n14 ?_ | refine qbt rfl ?_ | refine qdx rfl ?_ | refine qed rfl ?_ | refine qeb rfl ?_ | refine qea rfl ?_ | with_reducible refine qec ?_ | with_reducible refine qdy ?_ | refine qbc rfl ?_)
 refine qee e2 ?_
 repeat (first | with_reducible refine qbc n11 ?_ | with_reducible refine qbc n14 ?_ | refine qbt rfl ?_ | refine qdx rfl ?_ | refine qed rfl ?_ | refine qeb rfl ?_ | refine qea rfl ?_ | with_reducible refine qec ?_ | with_reducible refine qdy ?_ | refine qbc rfl ?_)
 refine qee e3 ?_
 repeat (first | with_reducible refine qbc n11 ?_ | with_reducible refine qbc n14 ?_ | refine qbt rfl ?_ | refine qdx rfl ?_ | refine qed rfl ?_ | refine qeb rfl ?_ | refine qea rfl ?_ | with_reducible refine qec ?_ | with_reducible refine qdy ?_ | refine qbc rfl ?_)
 refine qee e4 ?_
 repeat (first | with_reducible refine qbc n11 ?_ | with_reducible refine qbc n14 ?_ | refine qbt rfl ?_ | refine qdx rfl ?_ | refine qed rfl ?_ | refine qeb rfl ?_ | refine qea rfl ?_ | with_reducible refine qec ?_ | with_reducible refine qdy ?_ | refine qbc rfl ?_)
 refine qee e6 ?_
 repeat (first | with_reducible refine qbc n11 ?_ | with_reducible refine qbc n14 ?_ | refine qbt rfl ?_ | refine qdx rfl ?_ | refine qed rfl ?_ | refine qeb rfl ?_ | refine qea rfl ?_ | with_reducible refine qec ?_ | with_reducible refine qdy ?_ | refine qbc rfl ?_)
 refine qee e7 ?_
 repeat (first | with_reducible refine qbc n11 ?_ | with_reducible refine qbc n14 ?_ | refine qbt rfl ?_ | refine qdx rfl ?_ | refine qed rfl ?_ | refine qeb rfl ?_ | refine qea rfl ?_ | with_reducible refine qec ?_ | with_reducible refine qdy ?_ | refine qbc rfl ?_)
 refine qee e10 ?_
 repeat (first | with_reducible refine qbc n11 ?_ | with_reducible refine qbc n14 ?_ | refine qbt rfl ?_ | refine qdx rfl ?_ | refine qed rfl ?_ | refine qeb rfl ?_ | refine qea rfl ?_ | with_reducible refine qec ?_ | with_reducible refine qdy ?_ | refine qbc rfl ?_)
 refine qee e11 ?_
 repeat (first | with_reducible refine qbc n11 ?_ | with_reducible refine qbc n14 ?_ | refine qbt rfl ?_ | refine qdx rfl ?_ | refine qed rfl ?_ | refine qeb rfl ?_ | refine qea rfl ?_ | with_reducible refine qec ?_ | with_reducible refine qdy ?_ | refine qbc rfl ?_)
 refine qee e13 ?_
 repeat (first | with_reducible refine qbc n11 ?_ | with_reducible refine qbc n14 ?_ | refine qbt rfl ?_ | refine qdx rfl ?_ | refine qed rfl ?_ | refine qeb rfl ?_ | refine qea rfl ?_ | with_reducible refine qec ?_ | with_reducible refine qdy ?_ | refine qbc rfl ?_)
 refine qee e14 ?_
 repeat (first | with_reducible refine qbc n11 ?_ | with_reducible refine qbc n14 ?_ | refine qbt rfl ?_ | refine qdx rfl ?_ | refine qed rfl ?_ | refine qeb rfl ?_ | refine qea rfl ?_ | with_reducible refine qec ?_ | with_reducible refine qdy ?_ | refine qbc rfl ?_)
 refine qee e15 ?_
 repeat (first | with_reducible refine qbc n11 ?_ | with_reducible refine qbc n14 ?_ | refine qbt rfl ?_ | refine qdx rfl ?_ | refine qed rfl ?_ | refine qeb rfl ?_ | refine qea rfl ?_ | with_reducible refine qec ?_ | with_reducible refine qdy ?_ | refine qbc rfl ?_)
 refine qee e16 ?_
 repeat (first | with_reducible refine qbc n11 ?_ | with_reducible refine qbc n14 ?_ | refine qbt rfl ?_ | refine qdx rfl ?_ | refine qed rfl ?_ | refine qeb rfl ?_ | refine qea rfl ?_ | with_reducible refine qec ?_ | with_reducible refine qdy ?_ | refine qbc rfl ?_)
 refine qee e18 ?_
 repeat (first | with_reducible refine qbc n11 ?_ | with_reducible refine qbc n14 ?_ | refine qbt rfl ?_ | refine qdx rfl ?_ | refine qed rfl ?_ | refine qeb rfl ?_ | refine qea rfl ?_ | with_reducible refine qec ?_ | with_reducible refine qdy ?_ | refine qbc rfl ?_)
 refine qee e21 ?_
 repeat (first | with_reducible refine qbc n11 ?_ | with_reducible refine qbc n14 ?_ | refine qbt rfl ?_ | refine qdx rfl ?_ | refine qed rfl ?_ | refine qeb rfl ?_ | refine qea rfl ?_ | with_reducible refine qec ?_ | with_reducible refine qdy ?_ | refine qbc rfl ?_)
 refine qee e22 ?_
 repeat (first | with_reducible refine qbc n11 ?_ | with_reducible refine qbc n14 ?_ | refine qbt rfl ?_ | refine qdx rfl ?_ | refine qed rfl ?_ | refine qeb rfl ?_ | refine qea rfl ?_ | with_reducible refine qec ?_ | with_reducible refine qdy ?_ | refine qbc rfl ?_)
 rfl
end Go.Ev
