/- The values that the laws speak of, as Lean has them, and how they lie in cells. Conditions: none. -/
import Derived.Test.YtfaiahlpefmgmaaDoorEvLib
import Derived.Test.YtfaiahlpefmgmaaDoorEvPr
import Derived.Test.YtfaiahlpefmgmaaDoorEvMem
set_option linter.unusedSimpArgs false
set_option linter.unusedVariables false
namespace Go.Ev
open Go
noncomputable def Γ0:Ctx:=ctx qbk qbj []
structure MRule where
 Task:Str
 On:List Str
 Ins:List Str
 Envs:List Str
 Keep:Bool
deriving DecidableEq
def MRule.enc (x:MRule):List Cell:=[Cell.str (bs x.Task),encL 1 eStr x.On,encL 1 eStr x.Ins,encL 1 eStr x.Envs,Cell.bool x.Keep]
instance:CanonE MRule.enc:=⟨fun _=>CanonLs.canon (cs:=[_,_,_,_,_])⟩
def MRule.wt (x:MRule):Nat:=(wtS x.Task)+(wtL wtS x.On)+(wtL wtS x.Ins)+(wtL wtS x.Envs)
def MRule.Bd (N:Nat)(x:MRule):Prop:=(bdS N x.Task)∧(bdL N (bdS N) x.On)∧(bdL N (bdS N) x.Ins)∧(bdL N (bdS N) x.Envs)∧(True)
theorem MRule.bd_wt {N M:Nat}{x:MRule}(h:x.Bd M)(hw:x.wt≤N):x.Bd N:=⟨(show bdS N (x.Task) from(by simp only[MRule.wt] at hw;omega:wtS (x.Task)≤N)),qbnb (w:=wtS) h.2.1 (by simp only[MRule.wt] at hw;omega:wtL wtS (x.On)≤N) (fun y h hw=>(show bdS N (y) from(hw:wtS (y)≤N))),qbnb (w:=wtS) h.2.2.1 (by simp only[MRule.wt] at hw;omega:wtL wtS (x.Ins)≤N) (fun y h hw=>(show bdS N (y) from(hw:wtS (y)≤N))),qbnb (w:=wtS) h.2.2.2.1 (by simp only[MRule.wt] at hw;omega:wtL wtS (x.Envs)≤N) (fun y h hw=>(show bdS N (y) from(hw:wtS (y)≤N))),h.2.2.2.2⟩
def MRule.tr (x:MRule):List Tr:=[.leaf (.string (bs x.Task)),trL 1 qcm x.On,trL 1 qcm x.Ins,trL 1 qcm x.Envs,.leaf (.bool x.Keep)]
instance:TrE MRule.tr MRule.enc:=⟨fun x=>by simp only[MRule.tr,MRule.enc,List.map_cons,List.map_nil,qbp,qbv]⟩
def MRule.mkR (x:MRule)(k:Nat):MRule:=⟨qetb k,mkL qqr one1 x.On (k+1),mkL qqr one1 x.Ins ((k+1)+cntL one1 x.On),mkL qqr one1 x.Envs (((k+1)+cntL one1 x.On)+cntL one1 x.Ins),(((((((k+1)+cntL one1 x.On)+cntL one1 x.Ins)+cntL one1 x.Envs):Nat):Int).tmod 3==0)⟩
def MRule.cntR (x:MRule):Nat:=(((((0+1)+cntL one1 x.On)+cntL one1 x.Ins)+cntL one1 x.Envs)+1)
def MRule.mkA (x:MRule)(k:Nat):MRule:=⟨x.Task,mkL qqr one1 x.On k,mkL qqr one1 x.Ins (k+cntL one1 x.On),mkL qqr one1 x.Envs ((k+cntL one1 x.On)+cntL one1 x.Ins),x.Keep⟩
def MRule.cntA (x:MRule):Nat:=(((0+cntL one1 x.On)+cntL one1 x.Ins)+cntL one1 x.Envs)
theorem MRule.cntA_le (x:MRule):x.cntA≤8*x.wt:=by
 have g1:=(qql (w:=wtS) qnq (x.On))
 have g2:=(qql (w:=wtS) qnq (x.Ins))
 have g3:=(qql (w:=wtS) qnq (x.Envs))
 simp only[MRule.cntA,MRule.wt]<;>omega
theorem MRule.open {H:List Entry}{w q:Bool}{n:Nat}{ids:List Nat}{cs:List Cell}{x:MRule}(h0:Sp (Rep H w q n) ids cs x.tr):∃ c1 c2 c3,cs=[Cell.str (bs x.Task),c1,c2,c3,Cell.bool x.Keep]:=by
 simp only[MRule.tr] at h0
 obtain⟨cs,rfl,h1⟩:=Sp.leaf_inv h0
 obtain⟨c1,cs,rfl,_,h2⟩:=Sp.list_inv h1
 obtain⟨c2,cs,rfl,_,h3⟩:=Sp.list_inv h2
 obtain⟨c3,cs,rfl,_,h4⟩:=Sp.list_inv h3
 obtain⟨cs,rfl,h5⟩:=Sp.leaf_inv h4
 obtain⟨_,rfl⟩:=h5.nil_inv
 exact⟨c1,c2,c3,rfl⟩
end Go.Ev
