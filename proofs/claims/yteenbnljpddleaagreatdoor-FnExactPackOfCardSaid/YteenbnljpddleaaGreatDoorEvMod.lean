/- The values that the laws speak of, as Lean has them, and how they lie in cells. Conditions: none. -/
import Derived.Test.YteenbnljpddleaaGreatDoorEvLib
import Derived.Test.YteenbnljpddleaaGreatDoorEvPr
import Derived.Test.YteenbnljpddleaaGreatDoorEvMem
set_option linter.unusedSimpArgs false
set_option linter.unusedVariables false
namespace Go.Ev
open Go
noncomputable def Γ0:Ctx:=ctx qbh qbg []
structure MCmd where
 Task:Str
 Acts:List Str
deriving DecidableEq
def MCmd.enc (x:MCmd):List Cell:=[Cell.str (bs x.Task),encL 1 eStr x.Acts]
instance:CanonE MCmd.enc:=⟨fun _=>CanonLs.canon (cs:=[_,_])⟩
def MCmd.wt (x:MCmd):Nat:=(wtS x.Task)+(wtL wtS x.Acts)
def MCmd.Bd (N:Nat)(x:MCmd):Prop:=(bdS N x.Task)∧(bdL N (bdS N) x.Acts)
theorem MCmd.bd_wt {N M:Nat}{x:MCmd}(h:x.Bd M)(hw:x.wt≤N):x.Bd N:=⟨(show bdS N (x.Task) from(by simp only[MCmd.wt] at hw;omega:wtS (x.Task)≤N)),qpz (w:=wtS) h.2 (by simp only[MCmd.wt] at hw;omega:wtL wtS (x.Acts)≤N) (fun y h hw=>(show bdS N (y) from(hw:wtS (y)≤N)))⟩
theorem MCmd.of_wt:∀ (n:Nat) (cs:List Cell),WT Γ0 n 138 cs→∃ x:MCmd,cs=x.enc∧x.Bd maxLen:=by
 intro n cs h
 obtain⟨n,rfl⟩:=qhh h
 have h:=qii h (by kernel_rfl:Γ0.ty 138=some ty138) rfl
 simp only[List.map_cons,List.map_nil,WTs] at h
 obtain⟨a0,b0,e0,h0,a1,b1,e1,h1,e2⟩:=h
 obtain⟨x0,f0,g0⟩:=qko h0 (by kernel_rfl:Γ0.ty 9=some ty9) rfl
 obtain⟨x1,f1,g1⟩:=qft (e0:=eStr) (b:=(bdS maxLen)) h1 (by kernel_rfl:Γ0.ty 24=some ty24) rfl (by kernel_rfl:Γ0.ty 9=some ty9) (fun n r h=>qko h (by kernel_rfl:Γ0.ty 9=some ty9) rfl)
 refine⟨⟨x0,x1⟩,?_,⟨g0,g1⟩⟩
 subst f0 f1
 rw[e0,e1,e2]
 rfl
def MCmd.tr (x:MCmd):List Tr:=[.leaf (.string (bs x.Task)),trL 1 qdj x.Acts]
instance:TrE MCmd.tr MCmd.enc:=⟨fun x=>by simp only[MCmd.tr,MCmd.enc,List.map_cons,List.map_nil,qbl,qbs]⟩
def MCmd.mkR (x:MCmd)(k:Nat):MCmd:=⟨qtz k,mkL qlw one1 x.Acts (k+1)⟩
def MCmd.cntR (x:MCmd):Nat:=((0+1)+cntL one1 x.Acts)
def MCmd.mkA (x:MCmd)(k:Nat):MCmd:=⟨x.Task,mkL qlw one1 x.Acts k⟩
def MCmd.cntA (x:MCmd):Nat:=(0+cntL one1 x.Acts)
theorem MCmd.cntR_le (x:MCmd):x.cntR≤8+8*x.wt:=by
 have g1:=(qdc (w:=wtS) qei (x.Acts))
 simp only[MCmd.cntR,MCmd.wt]<;>omega
theorem MCmd.cntA_le (x:MCmd):x.cntA≤8*x.wt:=by
 have g1:=(qdc (w:=wtS) qei (x.Acts))
 simp only[MCmd.cntA,MCmd.wt]<;>omega
theorem MCmd.open {H:List Entry}{w q:Bool}{n:Nat}{ids:List Nat}{cs:List Cell}{x:MCmd}(h0:Sp (Rep H w q n) ids cs x.tr):∃ c1,cs=[Cell.str (bs x.Task),c1]:=by
 simp only[MCmd.tr] at h0
 obtain⟨cs,rfl,h1⟩:=Sp.leaf_inv h0
 obtain⟨c1,cs,rfl,_,h2⟩:=Sp.list_inv h1
 obtain⟨_,rfl⟩:=h2.nil_inv
 exact⟨c1,rfl⟩
structure MNeed where
 Name:Str
 Range:Str
deriving DecidableEq
def MNeed.enc (x:MNeed):List Cell:=[Cell.str (bs x.Name),Cell.str (bs x.Range)]
instance:CanonE MNeed.enc:=⟨fun _=>CanonLs.canon (cs:=[_,_])⟩
def MNeed.wt (x:MNeed):Nat:=(wtS x.Name)+(wtS x.Range)
def MNeed.Bd (N:Nat)(x:MNeed):Prop:=(bdS N x.Name)∧(bdS N x.Range)
theorem MNeed.bd_wt {N M:Nat}{x:MNeed}(h:x.Bd M)(hw:x.wt≤N):x.Bd N:=⟨(show bdS N (x.Name) from(by simp only[MNeed.wt] at hw;omega:wtS (x.Name)≤N)),(show bdS N (x.Range) from(by simp only[MNeed.wt] at hw;omega:wtS (x.Range)≤N))⟩
theorem MNeed.of_wt:∀ (n:Nat) (cs:List Cell),WT Γ0 n 136 cs→∃ x:MNeed,cs=x.enc∧x.Bd maxLen:=by
 intro n cs h
 obtain⟨n,rfl⟩:=qhh h
 have h:=qii h (by kernel_rfl:Γ0.ty 136=some ty136) rfl
 simp only[List.map_cons,List.map_nil,WTs] at h
 obtain⟨a0,b0,e0,h0,a1,b1,e1,h1,e2⟩:=h
 obtain⟨x0,f0,g0⟩:=qko h0 (by kernel_rfl:Γ0.ty 9=some ty9) rfl
 obtain⟨x1,f1,g1⟩:=qko h1 (by kernel_rfl:Γ0.ty 9=some ty9) rfl
 refine⟨⟨x0,x1⟩,?_,⟨g0,g1⟩⟩
 subst f0 f1
 rw[e0,e1,e2]
 rfl
def MNeed.tr (x:MNeed):List Tr:=[.leaf (.string (bs x.Name)),.leaf (.string (bs x.Range))]
instance:TrE MNeed.tr MNeed.enc:=⟨fun x=>by simp only[MNeed.tr,MNeed.enc,List.map_cons,List.map_nil,qbl,qbs]⟩
def MNeed.mkR (x:MNeed)(k:Nat):MNeed:=⟨qtz k,qtz (k+1)⟩
def MNeed.cntR (x:MNeed):Nat:=((0+1)+1)
def MNeed.mkA (x:MNeed)(k:Nat):MNeed:=⟨x.Name,x.Range⟩
def MNeed.cntA (x:MNeed):Nat:=0
theorem MNeed.cntR_le (x:MNeed):x.cntR≤8+8*x.wt:=by
 simp only[MNeed.cntR,MNeed.wt]<;>omega
theorem MNeed.cntA_le (x:MNeed):x.cntA≤8*x.wt:=by
 simp only[MNeed.cntA,MNeed.wt]<;>omega
theorem MNeed.open {H:List Entry}{w q:Bool}{n:Nat}{ids:List Nat}{cs:List Cell}{x:MNeed}(h0:Sp (Rep H w q n) ids cs x.tr):cs=[Cell.str (bs x.Name),Cell.str (bs x.Range)]:=by
 simp only[MNeed.tr] at h0
 obtain⟨cs,rfl,h1⟩:=Sp.leaf_inv h0
 obtain⟨cs,rfl,h2⟩:=Sp.leaf_inv h1
 obtain⟨_,rfl⟩:=h2.nil_inv
 rfl
structure MPack where
 Name:Str
 Uses:List Str
 Needs:List MNeed
 Cmds:List MCmd
deriving DecidableEq
def MPack.enc (x:MPack):List Cell:=[Cell.str (bs x.Name),encL 1 eStr x.Uses,encL 2 MNeed.enc x.Needs,encL 2 MCmd.enc x.Cmds]
instance:CanonE MPack.enc:=⟨fun _=>CanonLs.canon (cs:=[_,_,_,_])⟩
def MPack.wt (x:MPack):Nat:=(wtS x.Name)+(wtL wtS x.Uses)+(wtL MNeed.wt x.Needs)+(wtL MCmd.wt x.Cmds)
def MPack.Bd (N:Nat)(x:MPack):Prop:=(bdS N x.Name)∧(bdL N (bdS N) x.Uses)∧(bdL N (MNeed.Bd N) x.Needs)∧(bdL N (MCmd.Bd N) x.Cmds)
theorem MPack.bd_wt {N M:Nat}{x:MPack}(h:x.Bd M)(hw:x.wt≤N):x.Bd N:=⟨(show bdS N (x.Name) from(by simp only[MPack.wt] at hw;omega:wtS (x.Name)≤N)),qpz (w:=wtS) h.2.1 (by simp only[MPack.wt] at hw;omega:wtL wtS (x.Uses)≤N) (fun y h hw=>(show bdS N (y) from(hw:wtS (y)≤N))),qpz (w:=MNeed.wt) h.2.2.1 (by simp only[MPack.wt] at hw;omega:wtL MNeed.wt (x.Needs)≤N) (fun y h hw=>MNeed.bd_wt h (hw:MNeed.wt (y)≤N)),qpz (w:=MCmd.wt) h.2.2.2 (by simp only[MPack.wt] at hw;omega:wtL MCmd.wt (x.Cmds)≤N) (fun y h hw=>MCmd.bd_wt h (hw:MCmd.wt (y)≤N))⟩
theorem MPack.of_wt:∀ (n:Nat) (cs:List Cell),WT Γ0 n 69 cs→∃ x:MPack,cs=x.enc∧x.Bd maxLen:=by
 intro n cs h
 obtain⟨n,rfl⟩:=qhh h
 have h:=qii h (by kernel_rfl:Γ0.ty 69=some ty69) rfl
 simp only[List.map_cons,List.map_nil,WTs] at h
 obtain⟨a0,b0,e0,h0,a1,b1,e1,h1,a2,b2,e2,h2,a3,b3,e3,h3,e4⟩:=h
 obtain⟨x0,f0,g0⟩:=qko h0 (by kernel_rfl:Γ0.ty 9=some ty9) rfl
 obtain⟨x1,f1,g1⟩:=qft (e0:=eStr) (b:=(bdS maxLen)) h1 (by kernel_rfl:Γ0.ty 24=some ty24) rfl (by kernel_rfl:Γ0.ty 9=some ty9) (fun n r h=>qko h (by kernel_rfl:Γ0.ty 9=some ty9) rfl)
 obtain⟨x2,f2,g2⟩:=qft (e0:=MNeed.enc) (b:=(MNeed.Bd maxLen)) h2 (by kernel_rfl:Γ0.ty 66=some ty66) rfl (by kernel_rfl:Γ0.ty 136=some ty136) (fun n r h=>MNeed.of_wt _ _ h)
 obtain⟨x3,f3,g3⟩:=qft (e0:=MCmd.enc) (b:=(MCmd.Bd maxLen)) h3 (by kernel_rfl:Γ0.ty 67=some ty67) rfl (by kernel_rfl:Γ0.ty 138=some ty138) (fun n r h=>MCmd.of_wt _ _ h)
 refine⟨⟨x0,x1,x2,x3⟩,?_,⟨g0,g1,g2,g3⟩⟩
 subst f0 f1 f2 f3
 rw[e0,e1,e2,e3,e4]
 rfl
def MPack.tr (x:MPack):List Tr:=[.leaf (.string (bs x.Name)),trL 1 qdj x.Uses,trL 2 MNeed.tr x.Needs,trL 2 MCmd.tr x.Cmds]
instance:TrE MPack.tr MPack.enc:=⟨fun x=>by simp only[MPack.tr,MPack.enc,List.map_cons,List.map_nil,qbl,qbs]⟩
def MPack.mkR (x:MPack)(k:Nat):MPack:=⟨qtz k,mkL qlw one1 x.Uses (k+1),mkL MNeed.mkR MNeed.cntR x.Needs ((k+1)+cntL one1 x.Uses),mkL MCmd.mkR MCmd.cntR x.Cmds (((k+1)+cntL one1 x.Uses)+cntL MNeed.cntR x.Needs)⟩
def MPack.cntR (x:MPack):Nat:=((((0+1)+cntL one1 x.Uses)+cntL MNeed.cntR x.Needs)+cntL MCmd.cntR x.Cmds)
def MPack.mkA (x:MPack)(k:Nat):MPack:=⟨x.Name,mkL qlw one1 x.Uses k,mkL MNeed.mkR MNeed.cntR x.Needs (k+cntL one1 x.Uses),mkL MCmd.mkR MCmd.cntR x.Cmds ((k+cntL one1 x.Uses)+cntL MNeed.cntR x.Needs)⟩
def MPack.cntA (x:MPack):Nat:=(((0+cntL one1 x.Uses)+cntL MNeed.cntR x.Needs)+cntL MCmd.cntR x.Cmds)
theorem MPack.cntR_le (x:MPack):x.cntR≤8+8*x.wt:=by
 have g1:=(qdc (w:=wtS) qei (x.Uses))
 have g2:=(qdc (w:=MNeed.wt) MNeed.cntR_le (x.Needs))
 have g3:=(qdc (w:=MCmd.wt) MCmd.cntR_le (x.Cmds))
 simp only[MPack.cntR,MPack.wt]<;>omega
theorem MPack.cntA_le (x:MPack):x.cntA≤8*x.wt:=by
 have g1:=(qdc (w:=wtS) qei (x.Uses))
 have g2:=(qdc (w:=MNeed.wt) MNeed.cntR_le (x.Needs))
 have g3:=(qdc (w:=MCmd.wt) MCmd.cntR_le (x.Cmds))
 simp only[MPack.cntA,MPack.wt]<;>omega
theorem MPack.open {H:List Entry}{w q:Bool}{n:Nat}{ids:List Nat}{cs:List Cell}{x:MPack}(h0:Sp (Rep H w q n) ids cs x.tr):∃ c1 c2 c3,cs=[Cell.str (bs x.Name),c1,c2,c3]:=by
 simp only[MPack.tr] at h0
 obtain⟨cs,rfl,h1⟩:=Sp.leaf_inv h0
 obtain⟨c1,cs,rfl,_,h2⟩:=Sp.list_inv h1
 obtain⟨c2,cs,rfl,_,h3⟩:=Sp.list_inv h2
 obtain⟨c3,cs,rfl,_,h4⟩:=Sp.list_inv h3
 obtain⟨_,rfl⟩:=h4.nil_inv
 exact⟨c1,c2,c3,rfl⟩
structure MRule where
 Task:Str
 On:List Str
 Ins:List Str
 Envs:List Str
 Keep:Bool
deriving DecidableEq
def MRule.enc (x:MRule):List Cell:=[Cell.str (bs x.Task),encL 1 eStr x.On,encL 1 eStr x.Ins,encL 1 eStr x.Envs,Cell.bool x.Keep]
instance:CanonE MRule.enc:=⟨fun _=>CanonLs.canon (cs:=[_,_,_,_,_])⟩
def MRule.wt (x:MRule):Nat:=(wtS x.Task)+(wtL wtS x.On)+(wtL wtS x.Ins)+(wtL wtS x.Envs)
def MRule.Bd (N:Nat)(x:MRule):Prop:=(bdS N x.Task)∧(bdL N (bdS N) x.On)∧(bdL N (bdS N) x.Ins)∧(bdL N (bdS N) x.Envs)∧(True)
theorem MRule.bd_wt {N M:Nat}{x:MRule}(h:x.Bd M)(hw:x.wt≤N):x.Bd N:=⟨(show bdS N (x.Task) from(by simp only[MRule.wt] at hw;omega:wtS (x.Task)≤N)),qpz (w:=wtS) h.2.1 (by simp only[MRule.wt] at hw;omega:wtL wtS (x.On)≤N) (fun y h hw=>(show bdS N (y) from(hw:wtS (y)≤N))),qpz (w:=wtS) h.2.2.1 (by simp only[MRule.wt] at hw;omega:wtL wtS (x.Ins)≤N) (fun y h hw=>(show bdS N (y) from(hw:wtS (y)≤N))),qpz (w:=wtS) h.2.2.2.1 (by simp only[MRule.wt] at hw;omega:wtL wtS (x.Envs)≤N) (fun y h hw=>(show bdS N (y) from(hw:wtS (y)≤N))),h.2.2.2.2⟩
theorem MRule.of_wt:∀ (n:Nat) (cs:List Cell),WT Γ0 n 72 cs→∃ x:MRule,cs=x.enc∧x.Bd maxLen:=by
 intro n cs h
 obtain⟨n,rfl⟩:=qhh h
 have h:=qii h (by kernel_rfl:Γ0.ty 72=some ty72) rfl
 simp only[List.map_cons,List.map_nil,WTs] at h
 obtain⟨a0,b0,e0,h0,a1,b1,e1,h1,a2,b2,e2,h2,a3,b3,e3,h3,a4,b4,e4,h4,e5⟩:=h
 obtain⟨x0,f0,g0⟩:=qko h0 (by kernel_rfl:Γ0.ty 9=some ty9) rfl
 obtain⟨x1,f1,g1⟩:=qft (e0:=eStr) (b:=(bdS maxLen)) h1 (by kernel_rfl:Γ0.ty 24=some ty24) rfl (by kernel_rfl:Γ0.ty 9=some ty9) (fun n r h=>qko h (by kernel_rfl:Γ0.ty 9=some ty9) rfl)
 obtain⟨x2,f2,g2⟩:=qft (e0:=eStr) (b:=(bdS maxLen)) h2 (by kernel_rfl:Γ0.ty 24=some ty24) rfl (by kernel_rfl:Γ0.ty 9=some ty9) (fun n r h=>qko h (by kernel_rfl:Γ0.ty 9=some ty9) rfl)
 obtain⟨x3,f3,g3⟩:=qft (e0:=eStr) (b:=(bdS maxLen)) h3 (by kernel_rfl:Γ0.ty 24=some ty24) rfl (by kernel_rfl:Γ0.ty 9=some ty9) (fun n r h=>qko h (by kernel_rfl:Γ0.ty 9=some ty9) rfl)
 obtain⟨x4,f4,g4⟩:=qtnc h4 (by kernel_rfl:Γ0.ty 4=some ty4) rfl
 refine⟨⟨x0,x1,x2,x3,x4⟩,?_,⟨g0,g1,g2,g3,g4⟩⟩
 subst f0 f1 f2 f3 f4
 rw[e0,e1,e2,e3,e4,e5]
 rfl
def MRule.tr (x:MRule):List Tr:=[.leaf (.string (bs x.Task)),trL 1 qdj x.On,trL 1 qdj x.Ins,trL 1 qdj x.Envs,.leaf (.bool x.Keep)]
instance:TrE MRule.tr MRule.enc:=⟨fun x=>by simp only[MRule.tr,MRule.enc,List.map_cons,List.map_nil,qbl,qbs]⟩
def MRule.mkR (x:MRule)(k:Nat):MRule:=⟨qtz k,mkL qlw one1 x.On (k+1),mkL qlw one1 x.Ins ((k+1)+cntL one1 x.On),mkL qlw one1 x.Envs (((k+1)+cntL one1 x.On)+cntL one1 x.Ins),(((((((k+1)+cntL one1 x.On)+cntL one1 x.Ins)+cntL one1 x.Envs):Nat):Int).tmod 3==0)⟩
def MRule.cntR (x:MRule):Nat:=(((((0+1)+cntL one1 x.On)+cntL one1 x.Ins)+cntL one1 x.Envs)+1)
def MRule.mkA (x:MRule)(k:Nat):MRule:=⟨x.Task,mkL qlw one1 x.On k,mkL qlw one1 x.Ins (k+cntL one1 x.On),mkL qlw one1 x.Envs ((k+cntL one1 x.On)+cntL one1 x.Ins),x.Keep⟩
def MRule.cntA (x:MRule):Nat:=(((0+cntL one1 x.On)+cntL one1 x.Ins)+cntL one1 x.Envs)
theorem MRule.cntR_le (x:MRule):x.cntR≤8+8*x.wt:=by
 have g1:=(qdc (w:=wtS) qei (x.On))
 have g2:=(qdc (w:=wtS) qei (x.Ins))
 have g3:=(qdc (w:=wtS) qei (x.Envs))
 simp only[MRule.cntR,MRule.wt]<;>omega
theorem MRule.cntA_le (x:MRule):x.cntA≤8*x.wt:=by
 have g1:=(qdc (w:=wtS) qei (x.On))
 have g2:=(qdc (w:=wtS) qei (x.Ins))
 have g3:=(qdc (w:=wtS) qei (x.Envs))
 simp only[MRule.cntA,MRule.wt]<;>omega
theorem MRule.open {H:List Entry}{w q:Bool}{n:Nat}{ids:List Nat}{cs:List Cell}{x:MRule}(h0:Sp (Rep H w q n) ids cs x.tr):∃ c1 c2 c3,cs=[Cell.str (bs x.Task),c1,c2,c3,Cell.bool x.Keep]:=by
 simp only[MRule.tr] at h0
 obtain⟨cs,rfl,h1⟩:=Sp.leaf_inv h0
 obtain⟨c1,cs,rfl,_,h2⟩:=Sp.list_inv h1
 obtain⟨c2,cs,rfl,_,h3⟩:=Sp.list_inv h2
 obtain⟨c3,cs,rfl,_,h4⟩:=Sp.list_inv h3
 obtain⟨cs,rfl,h5⟩:=Sp.leaf_inv h4
 obtain⟨_,rfl⟩:=h5.nil_inv
 exact⟨c1,c2,c3,rfl⟩
structure MVer where
 A:Int
 B:Int
 C:Int
 Pre:List Str
deriving DecidableEq
def MVer.enc (x:MVer):List Cell:=[Cell.int x.A,Cell.int x.B,Cell.int x.C,encL 1 eStr x.Pre]
instance:CanonE MVer.enc:=⟨fun _=>CanonLs.canon (cs:=[_,_,_,_])⟩
def MVer.wt (x:MVer):Nat:=(wtL wtS x.Pre)
def MVer.Bd (N:Nat)(x:MVer):Prop:=(bdI x.A)∧(bdI x.B)∧(bdI x.C)∧(bdL N (bdS N) x.Pre)
theorem MVer.bd_wt {N M:Nat}{x:MVer}(h:x.Bd M)(hw:x.wt≤N):x.Bd N:=⟨h.1,h.2.1,h.2.2.1,qpz (w:=wtS) h.2.2.2 (by simp only[MVer.wt] at hw;omega:wtL wtS (x.Pre)≤N) (fun y h hw=>(show bdS N (y) from(hw:wtS (y)≤N)))⟩
def MVer.tr (x:MVer):List Tr:=[.leaf (.int .i64 x.A),.leaf (.int .i64 x.B),.leaf (.int .i64 x.C),trL 1 qdj x.Pre]
instance:TrE MVer.tr MVer.enc:=⟨fun x=>by simp only[MVer.tr,MVer.enc,List.map_cons,List.map_nil,qbl,qbs]⟩
def MVer.mkR (x:MVer)(k:Nat):MVer:=⟨((k:Nat):Int),(((k+1):Nat):Int),((((k+1)+1):Nat):Int),mkL qlw one1 x.Pre (((k+1)+1)+1)⟩
def MVer.cntR (x:MVer):Nat:=((((0+1)+1)+1)+cntL one1 x.Pre)
def MVer.mkA (x:MVer)(k:Nat):MVer:=⟨x.A,x.B,x.C,mkL qlw one1 x.Pre k⟩
def MVer.cntA (x:MVer):Nat:=(0+cntL one1 x.Pre)
theorem MVer.cntR_le (x:MVer):x.cntR≤8+8*x.wt:=by
 have g3:=(qdc (w:=wtS) qei (x.Pre))
 simp only[MVer.cntR,MVer.wt]<;>omega
theorem MVer.cntA_le (x:MVer):x.cntA≤8*x.wt:=by
 have g3:=(qdc (w:=wtS) qei (x.Pre))
 simp only[MVer.cntA,MVer.wt]<;>omega
theorem MVer.open {H:List Entry}{w q:Bool}{n:Nat}{ids:List Nat}{cs:List Cell}{x:MVer}(h0:Sp (Rep H w q n) ids cs x.tr):∃ c3,cs=[Cell.int x.A,Cell.int x.B,Cell.int x.C,c3]:=by
 simp only[MVer.tr] at h0
 obtain⟨cs,rfl,h1⟩:=Sp.leaf_inv h0
 obtain⟨cs,rfl,h2⟩:=Sp.leaf_inv h1
 obtain⟨cs,rfl,h3⟩:=Sp.leaf_inv h2
 obtain⟨c3,cs,rfl,_,h4⟩:=Sp.list_inv h3
 obtain⟨_,rfl⟩:=h4.nil_inv
 exact⟨c3,rfl⟩
end Go.Ev
