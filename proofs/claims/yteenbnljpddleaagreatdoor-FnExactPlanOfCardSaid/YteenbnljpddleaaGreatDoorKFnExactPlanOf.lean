/- The law FnExactPlanOf: it answers true. Printed out of its text by a program of this claim. Conditions: none. -/
import Derived.Test.YteenbnljpddleaaGreatDoorKall
set_option linter.unusedSimpArgs false
set_option linter.unusedVariables false
set_option maxHeartbeats 4000000
namespace Go.Ev
open Go
theorem c_fcg (x0:List MPack)(x1:List MRule)(x2:List Str)(hx0:bdL maxLen (MPack.Bd maxLen) x0)(hx1:bdL maxLen (MRule.Bd maxLen) x1)(hx2:bdL maxLen (bdS maxLen) x2):out quab [.one (encL 4 MPack.enc x0),.one (encL 5 MRule.enc x1),.one (encL 1 eStr x2)]=some [.one (Cell.bool true)]:=by
 by_cases g0:((wtL MPack.wt x0:Nat):Int)≤1048576
 rotate_left
 ·refine qaw (H:=[]) (qke 0 ?_)
  simp only[fcg,qaf,EV0]
  rw[qdne _ _ hx0 (by omega) (by omega)]
  simp only[EV0,qgg]
  rw[if_neg g0]
 by_cases g1:((wtL MRule.wt x1:Nat):Int)≤1048576 - ((wtL MPack.wt x0:Nat):Int)
 rotate_left
 ·refine qaw (H:=[]) (qke 0 ?_)
  simp only[fcg,qaf,EV0]
  rw[qdne _ _ hx0 (by omega) (by omega)]
  simp only[EV0,qgg]
  rw[if_pos g0,qdg g0]
  try simp only[EV0]
  rw[c_fdk _ _ hx1 (by omega) (by omega)]
  simp only[EV0,qgg]
  rw[if_neg g1]
 by_cases g2:((wtL wtS x2:Nat):Int)≤1048576 - ((wtL MPack.wt x0:Nat):Int) - ((wtL MRule.wt x1:Nat):Int)
 rotate_left
 ·refine qaw (H:=[]) (qke 0 ?_)
  simp only[fcg,qaf,EV0]
  rw[qdne _ _ hx0 (by omega) (by omega)]
  simp only[EV0,qgg]
  rw[if_pos g0,qdg g0]
  try simp only[EV0]
  rw[c_fdk _ _ hx1 (by omega) (by omega)]
  simp only[EV0,qgg]
  rw[if_pos g1,qdg g1]
  try simp only[EV0]
  rw[qwrc _ _ hx2 (by omega) (by omega)]
  simp only[EV0,qgg]
  rw[if_neg g2]
 have b0:bdL 1048576 (MPack.Bd 1048576) x0:=qjw (w:=MPack.wt) hx0 (by omega:wtL MPack.wt (x0)≤1048576) (fun y h hw=>MPack.bd_wt h (hw:MPack.wt (y)≤1048576))
 have b1:bdL 1048576 (MRule.Bd 1048576) x1:=qjw (w:=MRule.wt) hx1 (by omega:wtL MRule.wt (x1)≤1048576) (fun y h hw=>MRule.bd_wt h (hw:MRule.wt (y)≤1048576))
 have b2:bdL 1048576 (bdS 1048576) x2:=qjw (w:=wtS) hx2 (by omega:wtL wtS (x2)≤1048576) (fun y h hw=>(show bdS 1048576 (y) from(hw:wtS (y)≤1048576)))
 have bw:=qztc x0 b0 x1 b1 x2 b2
 have spec:=c_fen x0 b0 x1 b1 x2 b2
 have impl:=f_fan x0 b0 x1 b1 x2 b2
 generalize hw:qbl x0 x1 x2=w at bw spec impl
 have bm:MPlan.Bd maxLen w.1:=(by have hM:=qag;exact⟨(qgyb bw.1 (by omega) fun y hy=>(Nat.le_trans hy (by omega))),(qgyb bw.2 (by omega) fun y hy=>(qgyb hy (by omega) fun y hy=>(Nat.le_trans hy (by omega))))⟩)
 obtain⟨c1,E1,i1,e1,r1,w1,_⟩:=qcz (qdxe x0 b0) (([]:List Entry)) (qam [.one (encL 4 MPack.enc x0)] _ _)
 obtain⟨c2,E2,i2,e2,r2,w2,_⟩:=qcz (qbxe x1 b1) (([]:List Entry)++E1) (qam [.one (encL 5 MRule.enc x1)] _ _)
 have r3:=Rep.app E2 r1
 obtain⟨c4,E4,i4,e4,r4,w4,_⟩:=qcz (qkwc x2 b2) (([]:List Entry)++E1++E2) (qam [.one (encL 1 eStr x2)] _ _)
 have r5:=Rep.app E4 r3
 have r6:=Rep.app E4 r2
 obtain⟨H7,z7,e7⟩:=qqd (run:=qrh) (n:=4) (by omega) (Sp.cons (P:=RepA (([]:List Entry)++E1++E2++E4) true true 4) (a:=AV.one c1) (b:=AT.one (trL 4 MPack.tr x0)) (Rep.more (m:=4) r5 (by omega)) (Sp.cons (P:=RepA (([]:List Entry)++E1++E2++E4) true true 4) (a:=AV.one c2) (b:=AT.one (trL 5 MRule.tr x1)) (Rep.more (m:=4) r6 (by omega)) (Sp.cons (P:=RepA (([]:List Entry)++E1++E2++E4) true true 4) (a:=AV.one c4) (b:=AT.one (trL 1 qcx x2)) (Rep.more (m:=4) r4 (by omega)) .nil)))
 have e7:callL qrh [.one c1,.one c2,.one c4] (([]:List Entry)++E1++E2++E4)=some ([.agg [encL 1 eStr w.1.Tasks,encL 1 qdi w.1.Deps],.one (Cell.bool w.2)],H7):=by
  rw[e7]
  simp only[AT.av,qbg,qbm,List.map_cons,List.map_nil,MCmd.tr,MNeed.tr,MPack.tr,MPlan.tr,MRule.tr,MVer.tr]
  rw[spec]
  rfl
 obtain⟨c8,E8,i8,e8,r8,w8,_⟩:=qcz (qdxe x0 b0) (H7) (qam [.one (encL 4 MPack.enc x0)] _ _)
 obtain⟨c9,E9,i9,e9,r9,w9,_⟩:=qcz (qbxe x1 b1) (H7++E8) (qam [.one (encL 5 MRule.enc x1)] _ _)
 have r10:=Rep.app E9 r8
 obtain⟨c11,E11,i11,e11,r11,w11,_⟩:=qcz (qkwc x2 b2) (H7++E8++E9) (qam [.one (encL 1 eStr x2)] _ _)
 have r12:=Rep.app E11 r10
 have r13:=Rep.app E11 r9
 obtain⟨cs14,E14,i14,e14,r14,w14,_⟩:=qtm (impl) (H7++E8++E9++E11) (qbt (by have:=qcq (r12) (by omega);simpa only[qbg,qbm,List.map_cons,List.map_nil,MCmd.tr,MNeed.tr,MPack.tr,MPlan.tr,MRule.tr,MVer.tr] using this:qao false (H7++E8++E9++E11) (.one c8)=some (.one (encL 4 MPack.enc x0))) (qbt (by have:=qcq (r13) (by omega);simpa only[qbg,qbm,List.map_cons,List.map_nil,MCmd.tr,MNeed.tr,MPack.tr,MPlan.tr,MRule.tr,MVer.tr] using this:qao false (H7++E8++E9++E11) (.one c9)=some (.one (encL 5 MRule.enc x1))) (qbt (by have:=qcq (r11) (by omega);simpa only[qbg,qbm,List.map_cons,List.map_nil,MCmd.tr,MNeed.tr,MPack.tr,MPlan.tr,MRule.tr,MVer.tr] using this:qao false (H7++E8++E9++E11) (.one c11)=some (.one (encL 1 eStr x2))) (qbh _))))
 obtain⟨c14_0,c14_1,rfl⟩:=MPlan.open r14
 have r15:=Rep.app E14 r12
 have r16:=Rep.app E14 r13
 have r17:=Rep.app E14 r11
 have e18:qar qja [.agg [c14_0,c14_1],.agg [encL 1 eStr w.1.Tasks,encL 1 qdi w.1.Deps]] (H7++E8++E9++E11++E14)=some [.one (Cell.bool true)]:=by
  rw[qdn (qbt (by have:=qeq (r14) (by omega);simpa only[qbg,qbm,List.map_cons,List.map_nil,MCmd.tr,MNeed.tr,MPack.tr,MPlan.tr,MRule.tr,MVer.tr] using this:qao false (H7++E8++E9++E11++E14) (.agg [c14_0,c14_1])=some (.agg [encL 1 eStr w.1.Tasks,encL 1 qdi w.1.Deps])) (qbt (qba (.agg [encL 1 eStr w.1.Tasks,encL 1 qdi w.1.Deps]) false (H7++E8++E9++E11++E14)) (qbh _))),c_fcn _ _ bw bw]
  simp
 obtain⟨c19,E19,i19,e19,r19,w19,_⟩:=qcz (qdxe x0 b0) (H7++E8++E9++E11++E14) (qam [.one (encL 4 MPack.enc x0)] _ _)
 have r20:=Rep.app E19 r15
 have r21:=Rep.app E19 r16
 have r22:=Rep.app E19 r17
 have r23:=Rep.app2 E19 r14
 have e24:qar qtk [.one c8,.one c19] (H7++E8++E9++E11++E14++E19)=some [.one (Cell.bool true)]:=by
  rw[qdn (qbt (by have:=qcq (r20) (by omega);simpa only[qbg,qbm,List.map_cons,List.map_nil,MCmd.tr,MNeed.tr,MPack.tr,MPlan.tr,MRule.tr,MVer.tr] using this:qao false (H7++E8++E9++E11++E14++E19) (.one c8)=some (.one (encL 4 MPack.enc x0))) (qbt (by have:=qcq (r19) (by omega);simpa only[qbg,qbm,List.map_cons,List.map_nil,MCmd.tr,MNeed.tr,MPack.tr,MPlan.tr,MRule.tr,MVer.tr] using this:qao false (H7++E8++E9++E11++E14++E19) (.one c19)=some (.one (encL 4 MPack.enc x0))) (qbh _))),c_fcm _ _ b0 b0]
  simp
 obtain⟨c25,E25,i25,e25,r25,w25,_⟩:=qcz (qbxe x1 b1) (H7++E8++E9++E11++E14++E19) (qam [.one (encL 5 MRule.enc x1)] _ _)
 have r26:=Rep.app E25 r20
 have r27:=Rep.app E25 r21
 have r28:=Rep.app E25 r22
 have r29:=Rep.app2 E25 r23
 have e30:qar qtu [.one c9,.one c25] (H7++E8++E9++E11++E14++E19++E25)=some [.one (Cell.bool true)]:=by
  rw[qdn (qbt (by have:=qcq (r27) (by omega);simpa only[qbg,qbm,List.map_cons,List.map_nil,MCmd.tr,MNeed.tr,MPack.tr,MPlan.tr,MRule.tr,MVer.tr] using this:qao false (H7++E8++E9++E11++E14++E19++E25) (.one c9)=some (.one (encL 5 MRule.enc x1))) (qbt (by have:=qcq (r25) (by omega);simpa only[qbg,qbm,List.map_cons,List.map_nil,MCmd.tr,MNeed.tr,MPack.tr,MPlan.tr,MRule.tr,MVer.tr] using this:qao false (H7++E8++E9++E11++E14++E19++E25) (.one c25)=some (.one (encL 5 MRule.enc x1))) (qbh _))),c_fcp _ _ b1 b1]
  simp
 obtain⟨c31,E31,i31,e31,r31,w31,_⟩:=qcz (qkwc x2 b2) (H7++E8++E9++E11++E14++E19++E25) (qam [.one (encL 1 eStr x2)] _ _)
 have r32:=Rep.app E31 r26
 have r33:=Rep.app E31 r27
 have r34:=Rep.app E31 r28
 have r35:=Rep.app2 E31 r29
 have e36:qar qdu [.one c11,.one c31] (H7++E8++E9++E11++E14++E19++E25++E31)=some [.one (Cell.bool true)]:=by
  rw[qdn (qbt (by have:=qcq (r34) (by omega);simpa only[qbg,qbm,List.map_cons,List.map_nil,MCmd.tr,MNeed.tr,MPack.tr,MPlan.tr,MRule.tr,MVer.tr] using this:qao false (H7++E8++E9++E11++E14++E19++E25++E31) (.one c11)=some (.one (encL 1 eStr x2))) (qbt (by have:=qcq (r31) (by omega);simpa only[qbg,qbm,List.map_cons,List.map_nil,MCmd.tr,MNeed.tr,MPack.tr,MPlan.tr,MRule.tr,MVer.tr] using this:qao false (H7++E8++E9++E11++E14++E19++E25++E31) (.one c31)=some (.one (encL 1 eStr x2))) (qbh _))),qtqc _ _ b2 b2]
  simp
 have y37:1+cntL MPack.cntR x0≤qcc:=by
  have:=(qed (w:=MPack.wt) MPack.cntR_le (x0))
  unfold qcc
  omega
 obtain⟨H37,e37,u37,q37⟩:=k_fcx x0 (1) hx0 r32 w8.nd y37
 have e37:quu [.one c8,.one (Cell.int 1)] (H7++E8++E9++E11++E14++E19++E25++E31)=some ([.one (Cell.int ((1+cntL MPack.cntR x0:Nat):Int))],H37):=e37
 have r38:=u37.rep r33 (fun j hj h=>by have:=w9.lo j hj;have:=w9.hi j hj;have:=w8.lo j h;have:=w8.hi j h;have:=w8.le;have:=w9.le;have:=w11.le;have:=w14.le;have:=w19.le;have:=w25.le;have:=w31.le;omega)
 have r39:=u37.rep r34 (fun j hj h=>by have:=w11.lo j hj;have:=w11.hi j hj;have:=w8.lo j h;have:=w8.hi j h;have:=w8.le;have:=w9.le;have:=w11.le;have:=w14.le;have:=w19.le;have:=w25.le;have:=w31.le;omega)
 have r40:=u37.rep2 r35 (fun j hj h=>by have:=w14.lo j hj;have:=w14.hi j hj;have:=w8.lo j h;have:=w8.hi j h;have:=w8.le;have:=w9.le;have:=w11.le;have:=w14.le;have:=w19.le;have:=w25.le;have:=w31.le;omega)
 have n37:decide (((1+cntL MPack.cntR x0:Nat):Int) < 0)=false:=decide_eq_false (by omega)
 have y41:1+cntL MPack.cntR x0+cntL MRule.cntR x1≤qcc:=by
  have:=(qed (w:=MPack.wt) MPack.cntR_le (x0))
  have:=(qed (w:=MRule.wt) MRule.cntR_le (x1))
  unfold qcc
  omega
 obtain⟨H41,e41,u41,q41⟩:=k_fcz x1 (1+cntL MPack.cntR x0) hx1 r38 w9.nd y41
 have e41:qus [.one c9,.one (Cell.int ((1+cntL MPack.cntR x0:Nat):Int))] (H37)=some ([.one (Cell.int ((1+cntL MPack.cntR x0+cntL MRule.cntR x1:Nat):Int))],H41):=e41
 have r42:=u41.rep r39 (fun j hj h=>by have:=w11.lo j hj;have:=w11.hi j hj;have:=w9.lo j h;have:=w9.hi j h;have:=w8.le;have:=w9.le;have:=w11.le;have:=w14.le;have:=w19.le;have:=w25.le;have:=w31.le;omega)
 have r43:=u41.rep2 r40 (fun j hj h=>by have:=w14.lo j hj;have:=w14.hi j hj;have:=w9.lo j h;have:=w9.hi j h;have:=w8.le;have:=w9.le;have:=w11.le;have:=w14.le;have:=w19.le;have:=w25.le;have:=w31.le;omega)
 have n41:decide (((1+cntL MPack.cntR x0+cntL MRule.cntR x1:Nat):Int) < 0)=false:=decide_eq_false (by omega)
 have y44:1+cntL MPack.cntR x0+cntL MRule.cntR x1+cntL one1 x2≤qcc:=by
  have:=(qed (w:=MPack.wt) MPack.cntR_le (x0))
  have:=(qed (w:=MRule.wt) MRule.cntR_le (x1))
  have:=(qed (w:=wtS) qkt (x2))
  unfold qcc
  omega
 obtain⟨H44,e44,u44,q44⟩:=qsvc x2 (1+cntL MPack.cntR x0+cntL MRule.cntR x1) hx2 r42 w11.nd y44
 have e44:qdt [.one c11,.one (Cell.int ((1+cntL MPack.cntR x0+cntL MRule.cntR x1:Nat):Int))] (H41)=some ([.one (Cell.int ((1+cntL MPack.cntR x0+cntL MRule.cntR x1+cntL one1 x2:Nat):Int))],H44):=e44
 have r45:=u44.rep2 r43 (fun j hj h=>by have:=w14.lo j hj;have:=w14.hi j hj;have:=w11.lo j h;have:=w11.hi j h;have:=w8.le;have:=w9.le;have:=w11.le;have:=w14.le;have:=w19.le;have:=w25.le;have:=w31.le;omega)
 have n44:decide (((1+cntL MPack.cntR x0+cntL MRule.cntR x1+cntL one1 x2:Nat):Int) < 0)=false:=decide_eq_false (by omega)
 have e46:qar qja [.agg [c14_0,c14_1],.agg [encL 1 eStr w.1.Tasks,encL 1 qdi w.1.Deps]] (H44)=some [.one (Cell.bool true)]:=by
  rw[qdn (qbt (by have:=qeq (r45) (by omega);simpa only[qbg,qbm,List.map_cons,List.map_nil,MCmd.tr,MNeed.tr,MPack.tr,MPlan.tr,MRule.tr,MVer.tr] using this:qao false (H44) (.agg [c14_0,c14_1])=some (.agg [encL 1 eStr w.1.Tasks,encL 1 qdi w.1.Deps])) (qbt (qba (.agg [encL 1 eStr w.1.Tasks,encL 1 qdi w.1.Deps]) false (H44)) (qbh _))),c_fcn _ _ bw bw]
  simp
 have kw:1+w.1.cntA≤qcc:=by
  have:=qxhb x0 b0 x1 b1 x2 b2
  rw[hw] at this
  unfold qcc
  omega
 have y47:=kw
 obtain⟨H47,e47,u47,q47⟩:=k_fcy w.1 (1) bm r45 w14.nd y47
 have e47:qug [.agg [c14_0,c14_1],.one (Cell.int 1)] (H44)=some ([.one (Cell.int ((1+w.1.cntA:Nat):Int))],H47):=e47
 have n47:decide (((1+w.1.cntA:Nat):Int) < 0)=false:=decide_eq_false (by omega)
 have e48:qar qmo [.agg [c14_0,c14_1],.one (Cell.int 1)] (H47)=some [.one (Cell.int ((1+w.1.cntA:Nat):Int))]:=by
  rw[qdn (qbt (by have:=qeq (q47) (by omega);simpa only[qbg,qbm,List.map_cons,List.map_nil,MCmd.tr,MNeed.tr,MPack.tr,MPlan.tr,MRule.tr,MVer.tr] using this:qao false (H47) (.agg [c14_0,c14_1])=some (.agg [encL 1 eStr (w.1.mkA (1)).Tasks,encL 1 qdi (w.1.mkA (1)).Deps])) (qbt (qba (.one (Cell.int 1)) false (H47)) (qbh _)))]
  exact e_fcs w.1 (1) bm kw
 obtain⟨c49,E49,i49,e49,r49,w49,_⟩:=qcz (qdxe x0 b0) (H47) (qam [.one (encL 4 MPack.enc x0)] _ _)
 have r50:=Rep.app2 E49 q47
 obtain⟨c51,E51,i51,e51,r51,w51,_⟩:=qcz (qbxe x1 b1) (H47++E49) (qam [.one (encL 5 MRule.enc x1)] _ _)
 have r52:=Rep.app2 E51 r50
 have r53:=Rep.app E51 r49
 obtain⟨c54,E54,i54,e54,r54,w54,_⟩:=qcz (qkwc x2 b2) (H47++E49++E51) (qam [.one (encL 1 eStr x2)] _ _)
 have r55:=Rep.app2 E54 r52
 have r56:=Rep.app E54 r53
 have r57:=Rep.app E54 r51
 obtain⟨cs58,E58,i58,e58,r58,w58,_⟩:=qtm (impl) (H47++E49++E51++E54) (qbt (by have:=qcq (r56) (by omega);simpa only[qbg,qbm,List.map_cons,List.map_nil,MCmd.tr,MNeed.tr,MPack.tr,MPlan.tr,MRule.tr,MVer.tr] using this:qao false (H47++E49++E51++E54) (.one c49)=some (.one (encL 4 MPack.enc x0))) (qbt (by have:=qcq (r57) (by omega);simpa only[qbg,qbm,List.map_cons,List.map_nil,MCmd.tr,MNeed.tr,MPack.tr,MPlan.tr,MRule.tr,MVer.tr] using this:qao false (H47++E49++E51++E54) (.one c51)=some (.one (encL 5 MRule.enc x1))) (qbt (by have:=qcq (r54) (by omega);simpa only[qbg,qbm,List.map_cons,List.map_nil,MCmd.tr,MNeed.tr,MPack.tr,MPlan.tr,MRule.tr,MVer.tr] using this:qao false (H47++E49++E51++E54) (.one c54)=some (.one (encL 1 eStr x2))) (qbh _))))
 obtain⟨c58_0,c58_1,rfl⟩:=MPlan.open r58
 have r59:=Rep.app2 E58 r55
 have r60:=Rep.app E58 r56
 have r61:=Rep.app E58 r57
 have r62:=Rep.app E58 r54
 have e63:qar qja [.agg [c58_0,c58_1],.agg [encL 1 eStr w.1.Tasks,encL 1 qdi w.1.Deps]] (H47++E49++E51++E54++E58)=some [.one (Cell.bool true)]:=by
  rw[qdn (qbt (by have:=qeq (r58) (by omega);simpa only[qbg,qbm,List.map_cons,List.map_nil,MCmd.tr,MNeed.tr,MPack.tr,MPlan.tr,MRule.tr,MVer.tr] using this:qao false (H47++E49++E51++E54++E58) (.agg [c58_0,c58_1])=some (.agg [encL 1 eStr w.1.Tasks,encL 1 qdi w.1.Deps])) (qbt (qba (.agg [encL 1 eStr w.1.Tasks,encL 1 qdi w.1.Deps]) false (H47++E49++E51++E54++E58)) (qbh _))),c_fcn _ _ bw bw]
  simp
 have e64:qar qmo [.agg [c14_0,c14_1],.one (Cell.int 1)] (H47++E49++E51++E54++E58)=some [.one (Cell.int ((1+w.1.cntA:Nat):Int))]:=by
  rw[qdn (qbt (by have:=qeq (r59) (by omega);simpa only[qbg,qbm,List.map_cons,List.map_nil,MCmd.tr,MNeed.tr,MPack.tr,MPlan.tr,MRule.tr,MVer.tr] using this:qao false (H47++E49++E51++E54++E58) (.agg [c14_0,c14_1])=some (.agg [encL 1 eStr (w.1.mkA (1)).Tasks,encL 1 qdi (w.1.mkA (1)).Deps])) (qbt (qba (.one (Cell.int 1)) false (H47++E49++E51++E54++E58)) (qbh _)))]
  exact e_fcs w.1 (1) bm kw
 refine qaw (H:=H47++E49++E51++E54++E58) (qke 0 ?_)
 simp only[fcg,qaf,EV0]
 rw[qdne _ _ hx0 (by omega) (by omega)]
 simp only[EV0,qgg]
 rw[if_pos g0,qdg g0]
 try simp only[EV0]
 rw[c_fdk _ _ hx1 (by omega) (by omega)]
 simp only[EV0,qgg]
 rw[if_pos g1,qdg g1]
 try simp only[EV0]
 rw[qwrc _ _ hx2 (by omega) (by omega)]
 simp only[EV0,qgg]
 rw[if_pos g2]
 refine qcj e1 ?_
 repeat (first | with_reducible refine qak n37 ?_ | with_reducible refine qak n41 ?_ | with_reducible refine qak n44 ?_ | with_reducible refine qak n47 ?_ | refine qbc rfl ?_ | refine qcf rfl ?_ | refine qci rfl ?_ | refine qcm rfl ?_ | refine qcg rfl ?_ | with_reducible refine qch ?_ | with_reducible refine qcl ?_ | refine qak rfl ?_)
 refine qcj e2 ?_
 repeat (first | with_reducible refine qak n37 ?_ | with_reducible refine qak n41 ?_ | with_reducible refine qak n44 ?_ | with_reducible refine qak n47 ?_ | refine qbc rfl ?_ | refine qcf rfl ?_ | refine qci rfl ?_ | refine qcm rfl ?_ | refine qcg rfl ?_ | with_reducible refine qch ?_ | with_reducible refine qcl ?_ | refine qak rfl ?_)
 refine qcj e4 ?_
 repeat (first | with_reducible refine qak n37 ?_ | with_reducible refine qak n41 ?_ | with_reducible refine qak n44 ?_ | with_reducible refine qak n47 ?_ | refine qbc rfl ?_ | refine qcf rfl ?_ | refine qci rfl ?_ | refine qcm rfl ?_ | refine qcg rfl ?_ | with_reducible refine qch ?_ | with_reducible refine qcl ?_ | refine qak rfl ?_)
 refine qcj e7 ?_
 repeat (first | with_reducible refine qak n37 ?_ | with_reducible refine qak n41 ?_ | with_reducible refine qak n44 ?_ | with_reducible refine qak n47 ?_ | refine qbc rfl ?_ | refine qcf rfl ?_ | refine qci rfl ?_ | refine qcm rfl ?_ | refine qcg rfl ?_ | with_reducible refine qch ?_ | with_reducible refine qcl ?_ | refine qak rfl ?_)
 refine qcj e8 ?_
 repeat (first | with_reducible refine qak n37 ?_ | with_reducible refine qak n41 ?_ | with_reducible refine qak n44 ?_ | with_reducible refine qak n47 ?_ | refine qbc rfl ?_ | refine qcf rfl ?_ | refine qci rfl ?_ | refine qcm rfl ?_ | refine qcg rfl ?_ | with_reducible refine qch ?_ | with_reducible refine qcl ?_ | refine qak rfl ?_)
 refine qcj e9 ?_
 repeat (first | with_reducible refine qak n37 ?_ | with_reducible refine qak n41 ?_ | with_reducible refine qak n44 ?_ | with_reducible refine qak n47 ?_ | refine qbc rfl ?_ | refine qcf rfl ?_ | refine qci rfl ?_ | refine qcm rfl ?_ | refine qcg rfl ?_ | with_reducible refine qch ?_ | with_reducible refine qcl ?_ | refine qak rfl ?_)
 refine qcj e11 ?_
 repeat (first | with_reducible refine qak n37 ?_ | with_reducible refine qak n41 ?_ | with_reducible refine qak n44 ?_ | with_reducible refine qak n47 ?_ | refine qbc rfl ?_ | refine qcf rfl ?_ | refine qci rfl ?_ | refine qcm rfl ?_ | refine qcg rfl ?_ | with_reducible refine qch ?_ | with_reducible refine qcl ?_ | refine qak rfl ?_)
 refine qcj e14 ?_
 repeat (first | with_reducible refine qak n37 ?_ | with_reducible refine qak n41 ?_ | with_reducible refine qak n44 ?_ | with_reducible refine qak n47 ?_ | refine qbc rfl ?_ | refine qcf rfl ?_ | refine qci rfl ?_ | refine qcm rfl ?_ | refine qcg rfl ?_ | with_reducible refine qch ?_ | with_reducible refine qcl ?_ | refine qak rfl ?_)
 refine qcj e18 ?_
 repeat (first | with_reducible refine qak n37 ?_ | with_reducible refine qak n41 ?_ | with_reducible refine qak n44 ?_ | with_reducible refine qak n47 ?_ | refine qbc rfl ?_ | refine qcf rfl ?_ | refine qci rfl ?_ | refine qcm rfl ?_ | refine qcg rfl ?_ | with_reducible refine qch ?_ | with_reducible refine qcl ?_ | refine qak rfl ?_)
 refine qcj e19 ?_
 repeat (first | with_reducible refine qak n37 ?_ | with_reducible refine qak n41 ?_ | with_reducible refine qak n44 ?_ | with_reducible refine qak n47 ?_ | refine qbc rfl ?_ | refine qcf rfl ?_ | refine qci rfl ?_ | refine qcm rfl ?_ | refine qcg rfl ?_ | with_reducible refine qch ?_ | with_reducible refine qcl ?_ | refine qak rfl ?_)
 refine qcj e24 ?_
 repeat (first | with_reducible refine qak n37 ?_ | with_reducible refine qak n41 ?_ | with_reducible refine qak n44 ?_ | with_reducible refine qak n47 ?_ | refine qbc rfl ?_ | refine qcf rfl ?_ | refine qci rfl ?_ | refine qcm rfl ?_ | refine qcg rfl ?_ | with_reducible refine qch ?_ | with_reducible refine qcl ?_ | refine qak rfl ?_)
 refine qcj e25 ?_
 repeat (first | with_reducible refine qak n37 ?_ | with_reducible refine qak n41 ?_ | with_reducible refine qak n44 ?_ | with_reducible refine qak n47 ?_ | refine qbc rfl ?_ | refine qcf rfl ?_ | refine qci rfl ?_ | refine qcm rfl ?_ | refine qcg rfl ?_ | with_reducible refine qch ?_ | with_reducible refine qcl ?_ | refine qak rfl ?_)
 refine qcj e30 ?_
 repeat (first | with_reducible refine qak n37 ?_ | with_reducible refine qak n41 ?_ | with_reducible refine qak n44 ?_ | with_reducible refine qak n47 ?_ | refine qbc rfl ?_ | refine qcf rfl ?_ | refine qci rfl ?_ | refine qcm rfl ?_ | refine qcg rfl ?_ | with_reducible refine qch ?_ | with_reducible refine qcl ?_ | refine qak rfl ?_)
 refine qcj e31 ?_
 repeat (first | with_reducible refine qak n37 ?_ | with_reducible refine qak n41 ?_ | with_reducible refine qak n44 ?_ | with_reducible refine qak n47 ?_ | refine qbc rfl ?_ | refine qcf rfl ?_ | refine qci rfl ?_ | refine qcm rfl ?_ | refine qcg rfl ?_ | with_reducible refine qch ?_ | with_reducible refine qcl ?_ | refine qak rfl ?_)
 refine qcj e36 ?_
 repeat (first | with_reducible refine qak n37 ?_ | with_reducible refine qak n41 ?_ | with_reducible refine qak n44 ?_ | with_reducible refine qak n47 ?_ | refine qbc rfl ?_ | refine qcf rfl ?_ | refine qci rfl ?_ | refine qcm rfl ?_ | refine qcg rfl ?_ | with_reducible refine qch ?_ | with_reducible refine qcl ?_ | refine qak rfl ?_)
 refine qcj e37 ?_
 repeat (first | with_reducible refine qak n37 ?_ | with_reducible refine qak n41 ?_ | with_reducible refine qak n44 ?_ | with_reducible refine qak n47 ?_ | refine qbc rfl ?_ | refine qcf rfl ?_ | refine qci rfl ?_ | refine qcm rfl ?_ | refine qcg rfl ?_ | with_reducible refine qch ?_ | with_reducible refine qcl ?_ | refine qak rfl ?_)
 refine qcj e41 ?_
 repeat (first | with_reducible refine qak n37 ?_ | with_reducible refine qak n41 ?_ | with_reducible refine qak n44 ?_ | with_reducible refine qak n47 ?_ | refine qbc rfl ?_ | refine qcf rfl ?_ | refine qci rfl ?_ | refine qcm rfl ?_ | refine qcg rfl ?_ | with_reducible refine qch ?_ | with_reducible refine qcl ?_ | refine qak rfl ?_)
 refine qcj e44 ?_
 repeat (first | with_reducible refine qak n37 ?_ | with_reducible refine qak n41 ?_ | with_reducible refine qak n44 ?_ | with_reducible refine qak n47 ?_ | refine qbc rfl ?_ | refine qcf rfl ?_ | refine qci rfl ?_ | refine qcm rfl ?_ | refine qcg rfl ?_ | with_reducible refine qch ?_ | with_reducible refine qcl ?_ | refine qak rfl ?_)
 refine qcj e46 ?_
 repeat (first | with_reducible refine qak n37 ?_ | with_reducible refine qak n41 ?_ | with_reducible refine qak n44 ?_ | with_reducible refine qak n47 ?_ | refine qbc rfl ?_ | refine qcf rfl ?_ | refine qci rfl ?_ | refine qcm rfl ?_ | refine qcg rfl ?_ | with_reducible refine qch ?_ | with_reducible refine qcl ?_ | refine qak rfl ?_)
 refine qcj e47 ?_
 repeat (first | with_reducible refine qak n37 ?_ | with_reducible refine qak n41 ?_ | with_reducible refine qak n44 ?_ | with_reducible refine qak n47 ?_ | refine qbc rfl ?_ | refine qcf rfl ?_ | refine qci rfl ?_ | refine qcm rfl ?_ | refine qcg rfl ?_ | with_reducible refine qch ?_ | with_reducible refine qcl ?_ | refine qak rfl ?_)
 refine qcj e48 ?_
 repeat (first | with_reducible refine qak n37 ?_ | with_reducible refine qak n41 ?_ | with_reducible refine qak n44 ?_ | with_reducible refine qak n47 ?_ | refine qbc rfl ?_ | refine qcf rfl ?_ | refine qci rfl ?_ | refine qcm rfl ?_ | refine qcg rfl ?_ | with_reducible refine qch ?_ | with_reducible refine qcl ?_ | refine qak rfl ?_)
 refine qcj e49 ?_
 repeat (first | with_reducible refine qak n37 ?_ | with_reducible refine qak n41 ?_ | with_reducible refine qak n44 ?_ | with_reducible refine qak n47 ?_ | refine qbc rfl ?_ | refine qcf rfl ?_ | refine qci rfl ?_ | refine qcm rfl ?_ | refine qcg rfl ?_ | with_reducible refine qch ?_ | with_reducible refine qcl ?_ | refine qak rfl ?_)
 refine qcj e51 ?_
 repeat (first | with_reducible refine qak n37 ?_ | with_reducible refine qak n41 ?_ | with_reducible refine qak n44 ?_ | with_reducible refine qak n47 ?_ | refine qbc rfl ?_ | refine qcf rfl ?_ | refine qci rfl ?_ | refine qcm rfl ?_ | refine qcg rfl ?_ | with_reducible refine qch ?_ | with_reducible refine qcl ?_ | refine qak rfl ?_)
 refine qcj e54 ?_
 repeat (first | with_reducible refine qak n37 ?_ | with_reducible refine qak n41 ?_ | with_reducible refine qak n44 ?_ | with_reducible refine qak n47 ?_ | refine qbc rfl ?_ | refine qcf rfl ?_ | refine qci rfl ?_ | refine qcm rfl ?_ | refine qcg rfl ?_ | with_reducible refine qch ?_ | with_reducible refine qcl ?_ | refine qak rfl ?_)
 refine qcj e58 ?_
 repeat (first | with_reducible refine qak n37 ?_ | with_reducible refine qak n41 ?_ | with_reducible refine qak n44 ?_ | with_reducible refine qak n47 ?_ | refine qbc rfl ?_ | refine qcf rfl ?_ | refine qci rfl ?_ | refine qcm rfl ?_ | refine qcg rfl ?_ | with_reducible refine qch ?_ | with_reducible refine qcl ?_ | refine qak rfl ?_)
 refine qcj e63 ?_
 repeat (first | with_reducible refine qak n37 ?_ | with_reducible refine qak n41 ?_ | with_reducible refine qak n44 ?_ | with_reducible refine qak n47 ?_ | refine qbc rfl ?_ | refine qcf rfl ?_ | refine qci rfl ?_ | refine qcm rfl ?_ | refine qcg rfl ?_ | with_reducible refine qch ?_ | with_reducible refine qcl ?_ | refine qak rfl ?_)
 refine qcj e64 ?_
 repeat (first | with_reducible refine qak n37 ?_ | with_reducible refine qak n41 ?_ | with_reducible refine qak n44 ?_ | with_reducible refine qak n47 ?_ | refine qbc rfl ?_ | refine qcf rfl ?_ | refine qci rfl ?_ | refine qcm rfl ?_ | refine qcg rfl ?_ | with_reducible refine qch ?_ | with_reducible refine qcl ?_ | refine qak rfl ?_)
 rfl
end Go.Ev
