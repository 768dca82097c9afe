/- Conditions: none. -/
import Derived.Test.YtholafaogipaiaaGreatDoorEvLib
import Derived.Test.YtholafaogipaiaaGreatDoorEvPr
import Derived.Test.YtholafaogipaiaaGreatDoorEvMem
set_option linter.unusedSimpArgs false
set_option linter.unusedVariables false
namespace Go.Ev
open Go
noncomputable def Γ0:Ctx:=ctx qbd qbc []
structure MCmd where
 Task:Str
 Acts:List Str
deriving DecidableEq
def MCmd.enc (x:MCmd):List Cell:=[Cell.str (bs x.Task),encL 1 eStr x.Acts]
instance:CanonE MCmd.enc:=⟨fun _=>CanonLs.canon (cs:=[_,_])⟩
def MCmd.wt (x:MCmd):Nat:=(wtS x.Task)+(wtL wtS x.Acts)
def MCmd.Bd (N:Nat)(x:MCmd):Prop:=(bdS N x.Task)∧(bdL N (bdS N) x.Acts)
theorem MCmd.bd_wt {N M:Nat}{x:MCmd}(h:x.Bd M)(hw:x.wt≤N):x.Bd N:=⟨(show bdS N (x.Task) from(by simp only[MCmd.wt] at hw;omega:wtS (x.Task)≤N)),qox (w:=wtS) h.2 (by simp only[MCmd.wt] at hw;omega:wtL wtS (x.Acts)≤N) (fun y h hw=>(show bdS N (y) from(hw:wtS (y)≤N)))⟩
theorem MCmd.of_wt:∀ (n:Nat) (cs:List Cell),WT Γ0 n 205 cs→∃ x:MCmd,cs=x.enc∧x.Bd maxLen:=by
 intro n cs h
 obtain⟨n,rfl⟩:=qgm h
 have h:=qfc h (by kernel_rfl:Γ0.ty 205=some ty205) rfl
 simp only[List.map_cons,List.map_nil,WTs] at h
 obtain⟨a0,b0,e0,h0,a1,b1,e1,h1,e2⟩:=h
 obtain⟨x0,f0,g0⟩:=WT_str h0 (by kernel_rfl:Γ0.ty 9=some ty9) rfl
 obtain⟨x1,f1,g1⟩:=WT_slice (e0:=eStr) (b:=(bdS maxLen)) h1 (by kernel_rfl:Γ0.ty 46=some ty46) rfl (by kernel_rfl:Γ0.ty 9=some ty9) (fun n r h=>WT_str h (by kernel_rfl:Γ0.ty 9=some ty9) rfl)
 refine⟨⟨x0,x1⟩,?_,⟨g0,g1⟩⟩
 subst f0 f1
 rw[e0,e1,e2]
 rfl
def MCmd.tr (x:MCmd):List Tr:=[.leaf (.string (bs x.Task)),trL 1 qfm x.Acts]
instance:TrE MCmd.tr MCmd.enc:=⟨fun x=>by simp only[MCmd.tr,MCmd.enc,List.map_cons,List.map_nil,qch,qbz]⟩
theorem MCmd.open {H:List Entry}{w q:Bool}{n:Nat}{ids:List Nat}{cs:List Cell}{x:MCmd}(h0:Sp (Rep H w q n) ids cs x.tr):∃ c1,cs=[Cell.str (bs x.Task),c1]:=by
 simp only[MCmd.tr] at h0
 obtain⟨cs,rfl,h1⟩:=Sp.leaf_inv h0
 obtain⟨c1,cs,rfl,_,h2⟩:=Sp.list_inv h1
 obtain⟨_,rfl⟩:=h2.nil_inv
 exact⟨c1,rfl⟩
structure MVer where
 A:Int
 B:Int
 C:Int
 Pre:List Str
deriving DecidableEq
def MVer.enc (x:MVer):List Cell:=[Cell.int x.A,Cell.int x.B,Cell.int x.C,encL 1 eStr x.Pre]
instance:CanonE MVer.enc:=⟨fun _=>CanonLs.canon (cs:=[_,_,_,_])⟩
def MVer.wt (x:MVer):Nat:=(wtL wtS x.Pre)
def MVer.Bd (N:Nat)(x:MVer):Prop:=(bdI x.A)∧(bdI x.B)∧(bdI x.C)∧(bdL N (bdS N) x.Pre)
theorem MVer.bd_wt {N M:Nat}{x:MVer}(h:x.Bd M)(hw:x.wt≤N):x.Bd N:=⟨h.1,h.2.1,h.2.2.1,qox (w:=wtS) h.2.2.2 (by simp only[MVer.wt] at hw;omega:wtL wtS (x.Pre)≤N) (fun y h hw=>(show bdS N (y) from(hw:wtS (y)≤N)))⟩
theorem MVer.of_wt:∀ (n:Nat) (cs:List Cell),WT Γ0 n 82 cs→∃ x:MVer,cs=x.enc∧x.Bd maxLen:=by
 intro n cs h
 obtain⟨n,rfl⟩:=qgm h
 have h:=qfc h (by kernel_rfl:Γ0.ty 82=some ty82) rfl
 simp only[List.map_cons,List.map_nil,WTs] at h
 obtain⟨a0,b0,e0,h0,a1,b1,e1,h1,a2,b2,e2,h2,a3,b3,e3,h3,e4⟩:=h
 obtain⟨x0,f0,g0⟩:=WT_int h0 (by kernel_rfl:Γ0.ty 3=some ty3) rfl
 obtain⟨x1,f1,g1⟩:=WT_int h1 (by kernel_rfl:Γ0.ty 3=some ty3) rfl
 obtain⟨x2,f2,g2⟩:=WT_int h2 (by kernel_rfl:Γ0.ty 3=some ty3) rfl
 obtain⟨x3,f3,g3⟩:=WT_slice (e0:=eStr) (b:=(bdS maxLen)) h3 (by kernel_rfl:Γ0.ty 46=some ty46) rfl (by kernel_rfl:Γ0.ty 9=some ty9) (fun n r h=>WT_str h (by kernel_rfl:Γ0.ty 9=some ty9) rfl)
 refine⟨⟨x0,x1,x2,x3⟩,?_,⟨g0,g1,g2,g3⟩⟩
 subst f0 f1 f2 f3
 rw[e0,e1,e2,e3,e4]
 rfl
def MVer.tr (x:MVer):List Tr:=[.leaf (.int .i64 x.A),.leaf (.int .i64 x.B),.leaf (.int .i64 x.C),trL 1 qfm x.Pre]
instance:TrE MVer.tr MVer.enc:=⟨fun x=>by simp only[MVer.tr,MVer.enc,List.map_cons,List.map_nil,qch,qbz]⟩
theorem MVer.open {H:List Entry}{w q:Bool}{n:Nat}{ids:List Nat}{cs:List Cell}{x:MVer}(h0:Sp (Rep H w q n) ids cs x.tr):∃ c3,cs=[Cell.int x.A,Cell.int x.B,Cell.int x.C,c3]:=by
 simp only[MVer.tr] at h0
 obtain⟨cs,rfl,h1⟩:=Sp.leaf_inv h0
 obtain⟨cs,rfl,h2⟩:=Sp.leaf_inv h1
 obtain⟨cs,rfl,h3⟩:=Sp.leaf_inv h2
 obtain⟨c3,cs,rfl,_,h4⟩:=Sp.list_inv h3
 obtain⟨_,rfl⟩:=h4.nil_inv
 exact⟨c3,rfl⟩
structure MNeed where
 Name:Str
 Range:Str
deriving DecidableEq
def MNeed.enc (x:MNeed):List Cell:=[Cell.str (bs x.Name),Cell.str (bs x.Range)]
instance:CanonE MNeed.enc:=⟨fun _=>CanonLs.canon (cs:=[_,_])⟩
def MNeed.wt (x:MNeed):Nat:=(wtS x.Name)+(wtS x.Range)
def MNeed.Bd (N:Nat)(x:MNeed):Prop:=(bdS N x.Name)∧(bdS N x.Range)
theorem MNeed.bd_wt {N M:Nat}{x:MNeed}(h:x.Bd M)(hw:x.wt≤N):x.Bd N:=⟨(show bdS N (x.Name) from(by simp only[MNeed.wt] at hw;omega:wtS (x.Name)≤N)),(show bdS N (x.Range) from(by simp only[MNeed.wt] at hw;omega:wtS (x.Range)≤N))⟩
theorem MNeed.of_wt:∀ (n:Nat) (cs:List Cell),WT Γ0 n 87 cs→∃ x:MNeed,cs=x.enc∧x.Bd maxLen:=by
 intro n cs h
 obtain⟨n,rfl⟩:=qgm h
 have h:=qfc h (by kernel_rfl:Γ0.ty 87=some ty87) rfl
 simp only[List.map_cons,List.map_nil,WTs] at h
 obtain⟨a0,b0,e0,h0,a1,b1,e1,h1,e2⟩:=h
 obtain⟨x0,f0,g0⟩:=WT_str h0 (by kernel_rfl:Γ0.ty 9=some ty9) rfl
 obtain⟨x1,f1,g1⟩:=WT_str h1 (by kernel_rfl:Γ0.ty 9=some ty9) rfl
 refine⟨⟨x0,x1⟩,?_,⟨g0,g1⟩⟩
 subst f0 f1
 rw[e0,e1,e2]
 rfl
def MNeed.tr (x:MNeed):List Tr:=[.leaf (.string (bs x.Name)),.leaf (.string (bs x.Range))]
instance:TrE MNeed.tr MNeed.enc:=⟨fun x=>by simp only[MNeed.tr,MNeed.enc,List.map_cons,List.map_nil,qch,qbz]⟩
theorem MNeed.open {H:List Entry}{w q:Bool}{n:Nat}{ids:List Nat}{cs:List Cell}{x:MNeed}(h0:Sp (Rep H w q n) ids cs x.tr):cs=[Cell.str (bs x.Name),Cell.str (bs x.Range)]:=by
 simp only[MNeed.tr] at h0
 obtain⟨cs,rfl,h1⟩:=Sp.leaf_inv h0
 obtain⟨cs,rfl,h2⟩:=Sp.leaf_inv h1
 obtain⟨_,rfl⟩:=h2.nil_inv
 rfl
structure MEntry where
 Name:Str
 V:MVer
 Needs:List MNeed
deriving DecidableEq
def MEntry.enc (x:MEntry):List Cell:=[Cell.str (bs x.Name),Cell.int x.V.A,Cell.int x.V.B,Cell.int x.V.C,encL 1 eStr x.V.Pre,encL 2 MNeed.enc x.Needs]
instance:CanonE MEntry.enc:=⟨fun _=>CanonLs.canon (cs:=[_,_,_,_,_,_])⟩
def MEntry.wt (x:MEntry):Nat:=(wtS x.Name)+(MVer.wt x.V)+(wtL MNeed.wt x.Needs)
def MEntry.Bd (N:Nat)(x:MEntry):Prop:=(bdS N x.Name)∧(MVer.Bd N x.V)∧(bdL N (MNeed.Bd N) x.Needs)
theorem MEntry.bd_wt {N M:Nat}{x:MEntry}(h:x.Bd M)(hw:x.wt≤N):x.Bd N:=⟨(show bdS N (x.Name) from(by simp only[MEntry.wt] at hw;omega:wtS (x.Name)≤N)),MVer.bd_wt h.2.1 (by simp only[MEntry.wt] at hw;omega:MVer.wt (x.V)≤N),qox (w:=MNeed.wt) h.2.2 (by simp only[MEntry.wt] at hw;omega:wtL MNeed.wt (x.Needs)≤N) (fun y h hw=>MNeed.bd_wt h (hw:MNeed.wt (y)≤N))⟩
theorem MEntry.of_wt:∀ (n:Nat) (cs:List Cell),WT Γ0 n 84 cs→∃ x:MEntry,cs=x.enc∧x.Bd maxLen:=by
 intro n cs h
 obtain⟨n,rfl⟩:=qgm h
 have h:=qfc h (by kernel_rfl:Γ0.ty 84=some ty84) rfl
 simp only[List.map_cons,List.map_nil,WTs] at h
 obtain⟨a0,b0,e0,h0,a1,b1,e1,h1,a2,b2,e2,h2,e3⟩:=h
 obtain⟨x0,f0,g0⟩:=WT_str h0 (by kernel_rfl:Γ0.ty 9=some ty9) rfl
 obtain⟨x1,f1,g1⟩:=MVer.of_wt _ _ h1
 obtain⟨x2,f2,g2⟩:=WT_slice (e0:=MNeed.enc) (b:=(MNeed.Bd maxLen)) h2 (by kernel_rfl:Γ0.ty 23=some ty23) rfl (by kernel_rfl:Γ0.ty 87=some ty87) (fun n r h=>MNeed.of_wt _ _ h)
 refine⟨⟨x0,x1,x2⟩,?_,⟨g0,g1,g2⟩⟩
 subst f0 f1 f2
 rw[e0,e1,e2,e3]
 rfl
def MEntry.tr (x:MEntry):List Tr:=[.leaf (.string (bs x.Name)),.leaf (.int .i64 x.V.A),.leaf (.int .i64 x.V.B),.leaf (.int .i64 x.V.C),trL 1 qfm x.V.Pre,trL 2 MNeed.tr x.Needs]
instance:TrE MEntry.tr MEntry.enc:=⟨fun x=>by simp only[MEntry.tr,MEntry.enc,List.map_cons,List.map_nil,qch,qbz]⟩
theorem MEntry.open {H:List Entry}{w q:Bool}{n:Nat}{ids:List Nat}{cs:List Cell}{x:MEntry}(h0:Sp (Rep H w q n) ids cs x.tr):∃ c4 c5,cs=[Cell.str (bs x.Name),Cell.int x.V.A,Cell.int x.V.B,Cell.int x.V.C,c4,c5]:=by
 simp only[MEntry.tr] at h0
 obtain⟨cs,rfl,h1⟩:=Sp.leaf_inv h0
 obtain⟨cs,rfl,h2⟩:=Sp.leaf_inv h1
 obtain⟨cs,rfl,h3⟩:=Sp.leaf_inv h2
 obtain⟨cs,rfl,h4⟩:=Sp.leaf_inv h3
 obtain⟨c4,cs,rfl,_,h5⟩:=Sp.list_inv h4
 obtain⟨c5,cs,rfl,_,h6⟩:=Sp.list_inv h5
 obtain⟨_,rfl⟩:=h6.nil_inv
 exact⟨c4,c5,rfl⟩
structure MPack where
 Name:Str
 Uses:List Str
 Needs:List MNeed
 Cmds:List MCmd
deriving DecidableEq
def MPack.enc (x:MPack):List Cell:=[Cell.str (bs x.Name),encL 1 eStr x.Uses,encL 2 MNeed.enc x.Needs,encL 2 MCmd.enc x.Cmds]
instance:CanonE MPack.enc:=⟨fun _=>CanonLs.canon (cs:=[_,_,_,_])⟩
def MPack.wt (x:MPack):Nat:=(wtS x.Name)+(wtL wtS x.Uses)+(wtL MNeed.wt x.Needs)+(wtL MCmd.wt x.Cmds)
def MPack.Bd (N:Nat)(x:MPack):Prop:=(bdS N x.Name)∧(bdL N (bdS N) x.Uses)∧(bdL N (MNeed.Bd N) x.Needs)∧(bdL N (MCmd.Bd N) x.Cmds)
theorem MPack.bd_wt {N M:Nat}{x:MPack}(h:x.Bd M)(hw:x.wt≤N):x.Bd N:=⟨(show bdS N (x.Name) from(by simp only[MPack.wt] at hw;omega:wtS (x.Name)≤N)),qox (w:=wtS) h.2.1 (by simp only[MPack.wt] at hw;omega:wtL wtS (x.Uses)≤N) (fun y h hw=>(show bdS N (y) from(hw:wtS (y)≤N))),qox (w:=MNeed.wt) h.2.2.1 (by simp only[MPack.wt] at hw;omega:wtL MNeed.wt (x.Needs)≤N) (fun y h hw=>MNeed.bd_wt h (hw:MNeed.wt (y)≤N)),qox (w:=MCmd.wt) h.2.2.2 (by simp only[MPack.wt] at hw;omega:wtL MCmd.wt (x.Cmds)≤N) (fun y h hw=>MCmd.bd_wt h (hw:MCmd.wt (y)≤N))⟩
theorem MPack.of_wt:∀ (n:Nat) (cs:List Cell),WT Γ0 n 111 cs→∃ x:MPack,cs=x.enc∧x.Bd maxLen:=by
 intro n cs h
 obtain⟨n,rfl⟩:=qgm h
 have h:=qfc h (by kernel_rfl:Γ0.ty 111=some ty111) rfl
 simp only[List.map_cons,List.map_nil,WTs] at h
 obtain⟨a0,b0,e0,h0,a1,b1,e1,h1,a2,b2,e2,h2,a3,b3,e3,h3,e4⟩:=h
 obtain⟨x0,f0,g0⟩:=WT_str h0 (by kernel_rfl:Γ0.ty 9=some ty9) rfl
 obtain⟨x1,f1,g1⟩:=WT_slice (e0:=eStr) (b:=(bdS maxLen)) h1 (by kernel_rfl:Γ0.ty 46=some ty46) rfl (by kernel_rfl:Γ0.ty 9=some ty9) (fun n r h=>WT_str h (by kernel_rfl:Γ0.ty 9=some ty9) rfl)
 obtain⟨x2,f2,g2⟩:=WT_slice (e0:=MNeed.enc) (b:=(MNeed.Bd maxLen)) h2 (by kernel_rfl:Γ0.ty 23=some ty23) rfl (by kernel_rfl:Γ0.ty 87=some ty87) (fun n r h=>MNeed.of_wt _ _ h)
 obtain⟨x3,f3,g3⟩:=WT_slice (e0:=MCmd.enc) (b:=(MCmd.Bd maxLen)) h3 (by kernel_rfl:Γ0.ty 109=some ty109) rfl (by kernel_rfl:Γ0.ty 205=some ty205) (fun n r h=>MCmd.of_wt _ _ h)
 refine⟨⟨x0,x1,x2,x3⟩,?_,⟨g0,g1,g2,g3⟩⟩
 subst f0 f1 f2 f3
 rw[e0,e1,e2,e3,e4]
 rfl
def MPack.tr (x:MPack):List Tr:=[.leaf (.string (bs x.Name)),trL 1 qfm x.Uses,trL 2 MNeed.tr x.Needs,trL 2 MCmd.tr x.Cmds]
instance:TrE MPack.tr MPack.enc:=⟨fun x=>by simp only[MPack.tr,MPack.enc,List.map_cons,List.map_nil,qch,qbz]⟩
theorem MPack.open {H:List Entry}{w q:Bool}{n:Nat}{ids:List Nat}{cs:List Cell}{x:MPack}(h0:Sp (Rep H w q n) ids cs x.tr):∃ c1 c2 c3,cs=[Cell.str (bs x.Name),c1,c2,c3]:=by
 simp only[MPack.tr] at h0
 obtain⟨cs,rfl,h1⟩:=Sp.leaf_inv h0
 obtain⟨c1,cs,rfl,_,h2⟩:=Sp.list_inv h1
 obtain⟨c2,cs,rfl,_,h3⟩:=Sp.list_inv h2
 obtain⟨c3,cs,rfl,_,h4⟩:=Sp.list_inv h3
 obtain⟨_,rfl⟩:=h4.nil_inv
 exact⟨c1,c2,c3,rfl⟩
structure MPick where
 Name:Str
 V:MVer
deriving DecidableEq
def MPick.enc (x:MPick):List Cell:=[Cell.str (bs x.Name),Cell.int x.V.A,Cell.int x.V.B,Cell.int x.V.C,encL 1 eStr x.V.Pre]
instance:CanonE MPick.enc:=⟨fun _=>CanonLs.canon (cs:=[_,_,_,_,_])⟩
def MPick.wt (x:MPick):Nat:=(wtS x.Name)+(MVer.wt x.V)
def MPick.Bd (N:Nat)(x:MPick):Prop:=(bdS N x.Name)∧(MVer.Bd N x.V)
theorem MPick.bd_wt {N M:Nat}{x:MPick}(h:x.Bd M)(hw:x.wt≤N):x.Bd N:=⟨(show bdS N (x.Name) from(by simp only[MPick.wt] at hw;omega:wtS (x.Name)≤N)),MVer.bd_wt h.2 (by simp only[MPick.wt] at hw;omega:MVer.wt (x.V)≤N)⟩
theorem MPick.of_wt:∀ (n:Nat) (cs:List Cell),WT Γ0 n 90 cs→∃ x:MPick,cs=x.enc∧x.Bd maxLen:=by
 intro n cs h
 obtain⟨n,rfl⟩:=qgm h
 have h:=qfc h (by kernel_rfl:Γ0.ty 90=some ty90) rfl
 simp only[List.map_cons,List.map_nil,WTs] at h
 obtain⟨a0,b0,e0,h0,a1,b1,e1,h1,e2⟩:=h
 obtain⟨x0,f0,g0⟩:=WT_str h0 (by kernel_rfl:Γ0.ty 9=some ty9) rfl
 obtain⟨x1,f1,g1⟩:=MVer.of_wt _ _ h1
 refine⟨⟨x0,x1⟩,?_,⟨g0,g1⟩⟩
 subst f0 f1
 rw[e0,e1,e2]
 rfl
def MPick.tr (x:MPick):List Tr:=[.leaf (.string (bs x.Name)),.leaf (.int .i64 x.V.A),.leaf (.int .i64 x.V.B),.leaf (.int .i64 x.V.C),trL 1 qfm x.V.Pre]
instance:TrE MPick.tr MPick.enc:=⟨fun x=>by simp only[MPick.tr,MPick.enc,List.map_cons,List.map_nil,qch,qbz]⟩
theorem MPick.open {H:List Entry}{w q:Bool}{n:Nat}{ids:List Nat}{cs:List Cell}{x:MPick}(h0:Sp (Rep H w q n) ids cs x.tr):∃ c4,cs=[Cell.str (bs x.Name),Cell.int x.V.A,Cell.int x.V.B,Cell.int x.V.C,c4]:=by
 simp only[MPick.tr] at h0
 obtain⟨cs,rfl,h1⟩:=Sp.leaf_inv h0
 obtain⟨cs,rfl,h2⟩:=Sp.leaf_inv h1
 obtain⟨cs,rfl,h3⟩:=Sp.leaf_inv h2
 obtain⟨cs,rfl,h4⟩:=Sp.leaf_inv h3
 obtain⟨c4,cs,rfl,_,h5⟩:=Sp.list_inv h4
 obtain⟨_,rfl⟩:=h5.nil_inv
 exact⟨c4,rfl⟩
structure MRule where
 Task:Str
 On:List Str
 Ins:List Str
 Envs:List Str
 Keep:Bool
deriving DecidableEq
def MRule.enc (x:MRule):List Cell:=[Cell.str (bs x.Task),encL 1 eStr x.On,encL 1 eStr x.Ins,encL 1 eStr x.Envs,Cell.bool x.Keep]
instance:CanonE MRule.enc:=⟨fun _=>CanonLs.canon (cs:=[_,_,_,_,_])⟩
def MRule.wt (x:MRule):Nat:=(wtS x.Task)+(wtL wtS x.On)+(wtL wtS x.Ins)+(wtL wtS x.Envs)
def MRule.Bd (N:Nat)(x:MRule):Prop:=(bdS N x.Task)∧(bdL N (bdS N) x.On)∧(bdL N (bdS N) x.Ins)∧(bdL N (bdS N) x.Envs)∧(True)
theorem MRule.bd_wt {N M:Nat}{x:MRule}(h:x.Bd M)(hw:x.wt≤N):x.Bd N:=⟨(show bdS N (x.Task) from(by simp only[MRule.wt] at hw;omega:wtS (x.Task)≤N)),qox (w:=wtS) h.2.1 (by simp only[MRule.wt] at hw;omega:wtL wtS (x.On)≤N) (fun y h hw=>(show bdS N (y) from(hw:wtS (y)≤N))),qox (w:=wtS) h.2.2.1 (by simp only[MRule.wt] at hw;omega:wtL wtS (x.Ins)≤N) (fun y h hw=>(show bdS N (y) from(hw:wtS (y)≤N))),qox (w:=wtS) h.2.2.2.1 (by simp only[MRule.wt] at hw;omega:wtL wtS (x.Envs)≤N) (fun y h hw=>(show bdS N (y) from(hw:wtS (y)≤N))),h.2.2.2.2⟩
theorem MRule.of_wt:∀ (n:Nat) (cs:List Cell),WT Γ0 n 142 cs→∃ x:MRule,cs=x.enc∧x.Bd maxLen:=by
 intro n cs h
 obtain⟨n,rfl⟩:=qgm h
 have h:=qfc h (by kernel_rfl:Γ0.ty 142=some ty142) rfl
 simp only[List.map_cons,List.map_nil,WTs] at h
 obtain⟨a0,b0,e0,h0,a1,b1,e1,h1,a2,b2,e2,h2,a3,b3,e3,h3,a4,b4,e4,h4,e5⟩:=h
 obtain⟨x0,f0,g0⟩:=WT_str h0 (by kernel_rfl:Γ0.ty 9=some ty9) rfl
 obtain⟨x1,f1,g1⟩:=WT_slice (e0:=eStr) (b:=(bdS maxLen)) h1 (by kernel_rfl:Γ0.ty 46=some ty46) rfl (by kernel_rfl:Γ0.ty 9=some ty9) (fun n r h=>WT_str h (by kernel_rfl:Γ0.ty 9=some ty9) rfl)
 obtain⟨x2,f2,g2⟩:=WT_slice (e0:=eStr) (b:=(bdS maxLen)) h2 (by kernel_rfl:Γ0.ty 46=some ty46) rfl (by kernel_rfl:Γ0.ty 9=some ty9) (fun n r h=>WT_str h (by kernel_rfl:Γ0.ty 9=some ty9) rfl)
 obtain⟨x3,f3,g3⟩:=WT_slice (e0:=eStr) (b:=(bdS maxLen)) h3 (by kernel_rfl:Γ0.ty 46=some ty46) rfl (by kernel_rfl:Γ0.ty 9=some ty9) (fun n r h=>WT_str h (by kernel_rfl:Γ0.ty 9=some ty9) rfl)
 obtain⟨x4,f4,g4⟩:=WT_bool h4 (by kernel_rfl:Γ0.ty 4=some ty4) rfl
 refine⟨⟨x0,x1,x2,x3,x4⟩,?_,⟨g0,g1,g2,g3,g4⟩⟩
 subst f0 f1 f2 f3 f4
 rw[e0,e1,e2,e3,e4,e5]
 rfl
def MRule.tr (x:MRule):List Tr:=[.leaf (.string (bs x.Task)),trL 1 qfm x.On,trL 1 qfm x.Ins,trL 1 qfm x.Envs,.leaf (.bool x.Keep)]
instance:TrE MRule.tr MRule.enc:=⟨fun x=>by simp only[MRule.tr,MRule.enc,List.map_cons,List.map_nil,qch,qbz]⟩
theorem MRule.open {H:List Entry}{w q:Bool}{n:Nat}{ids:List Nat}{cs:List Cell}{x:MRule}(h0:Sp (Rep H w q n) ids cs x.tr):∃ c1 c2 c3,cs=[Cell.str (bs x.Task),c1,c2,c3,Cell.bool x.Keep]:=by
 simp only[MRule.tr] at h0
 obtain⟨cs,rfl,h1⟩:=Sp.leaf_inv h0
 obtain⟨c1,cs,rfl,_,h2⟩:=Sp.list_inv h1
 obtain⟨c2,cs,rfl,_,h3⟩:=Sp.list_inv h2
 obtain⟨c3,cs,rfl,_,h4⟩:=Sp.list_inv h3
 obtain⟨cs,rfl,h5⟩:=Sp.leaf_inv h4
 obtain⟨_,rfl⟩:=h5.nil_inv
 exact⟨c1,c2,c3,rfl⟩
end Go.Ev
