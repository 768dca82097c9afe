/- The values that the laws speak of, as Lean has them, and how they lie in cells. Conditions: none. -/
import Derived.Test.YteofbfalngmmeaaGreatDoorEvLib
import Derived.Test.YteofbfalngmmeaaGreatDoorEvPr
import Derived.Test.YteofbfalngmmeaaGreatDoorEvMem
set_option linter.unusedSimpArgs false
set_option linter.unusedVariables false
namespace Go.Ev
open Go
noncomputable def Γ0:Ctx:=ctx qbi qbh []
structure MCmd where
 Task:Str
 Acts:List Str
deriving DecidableEq
def MCmd.enc (x:MCmd):List Cell:=[Cell.str (bs x.Task),encL 1 eStr x.Acts]
instance:CanonE MCmd.enc:=⟨fun _=>CanonLs.canon (cs:=[_,_])⟩
def MCmd.wt (x:MCmd):Nat:=(wtS x.Task)+(wtL wtS x.Acts)
def MCmd.Bd (N:Nat)(x:MCmd):Prop:=(bdS N x.Task)∧(bdL N (bdS N) x.Acts)
def MCmd.tr (x:MCmd):List Tr:=[.leaf (.string (bs x.Task)),trL 1 qbx x.Acts]
instance:TrE MCmd.tr MCmd.enc:=⟨fun x=>by simp only[MCmd.tr,MCmd.enc,List.map_cons,List.map_nil,qem,qck]⟩
theorem MCmd.open {H:List Entry}{w q:Bool}{n:Nat}{ids:List Nat}{cs:List Cell}{x:MCmd}(h0:Sp (Rep H w q n) ids cs x.tr):∃ c1,cs=[Cell.str (bs x.Task),c1]:=by
 simp only[MCmd.tr] at h0
 obtain⟨cs,rfl,h1⟩:=Sp.leaf_inv h0
 obtain⟨c1,cs,rfl,_,h2⟩:=Sp.list_inv h1
 obtain⟨_,rfl⟩:=h2.nil_inv
 exact⟨c1,rfl⟩
structure MNeed where
 Name:Str
 Range:Str
deriving DecidableEq
def MNeed.enc (x:MNeed):List Cell:=[Cell.str (bs x.Name),Cell.str (bs x.Range)]
instance:CanonE MNeed.enc:=⟨fun _=>CanonLs.canon (cs:=[_,_])⟩
def MNeed.wt (x:MNeed):Nat:=(wtS x.Name)+(wtS x.Range)
def MNeed.Bd (N:Nat)(x:MNeed):Prop:=(bdS N x.Name)∧(bdS N x.Range)
def MNeed.tr (x:MNeed):List Tr:=[.leaf (.string (bs x.Name)),.leaf (.string (bs x.Range))]
instance:TrE MNeed.tr MNeed.enc:=⟨fun x=>by simp only[MNeed.tr,MNeed.enc,List.map_cons,List.map_nil,qem,qck]⟩
theorem MNeed.open {H:List Entry}{w q:Bool}{n:Nat}{ids:List Nat}{cs:List Cell}{x:MNeed}(h0:Sp (Rep H w q n) ids cs x.tr):cs=[Cell.str (bs x.Name),Cell.str (bs x.Range)]:=by
 simp only[MNeed.tr] at h0
 obtain⟨cs,rfl,h1⟩:=Sp.leaf_inv h0
 obtain⟨cs,rfl,h2⟩:=Sp.leaf_inv h1
 obtain⟨_,rfl⟩:=h2.nil_inv
 rfl
structure MPack where
 Name:Str
 Uses:List Str
 Needs:List MNeed
 Cmds:List MCmd
deriving DecidableEq
def MPack.enc (x:MPack):List Cell:=[Cell.str (bs x.Name),encL 1 eStr x.Uses,encL 2 MNeed.enc x.Needs,encL 2 MCmd.enc x.Cmds]
instance:CanonE MPack.enc:=⟨fun _=>CanonLs.canon (cs:=[_,_,_,_])⟩
def MPack.wt (x:MPack):Nat:=(wtS x.Name)+(wtL wtS x.Uses)+(wtL MNeed.wt x.Needs)+(wtL MCmd.wt x.Cmds)
def MPack.Bd (N:Nat)(x:MPack):Prop:=(bdS N x.Name)∧(bdL N (bdS N) x.Uses)∧(bdL N (MNeed.Bd N) x.Needs)∧(bdL N (MCmd.Bd N) x.Cmds)
def MPack.tr (x:MPack):List Tr:=[.leaf (.string (bs x.Name)),trL 1 qbx x.Uses,trL 2 MNeed.tr x.Needs,trL 2 MCmd.tr x.Cmds]
instance:TrE MPack.tr MPack.enc:=⟨fun x=>by simp only[MPack.tr,MPack.enc,List.map_cons,List.map_nil,qem,qck]⟩
theorem MPack.open {H:List Entry}{w q:Bool}{n:Nat}{ids:List Nat}{cs:List Cell}{x:MPack}(h0:Sp (Rep H w q n) ids cs x.tr):∃ c1 c2 c3,cs=[Cell.str (bs x.Name),c1,c2,c3]:=by
 simp only[MPack.tr] at h0
 obtain⟨cs,rfl,h1⟩:=Sp.leaf_inv h0
 obtain⟨c1,cs,rfl,_,h2⟩:=Sp.list_inv h1
 obtain⟨c2,cs,rfl,_,h3⟩:=Sp.list_inv h2
 obtain⟨c3,cs,rfl,_,h4⟩:=Sp.list_inv h3
 obtain⟨_,rfl⟩:=h4.nil_inv
 exact⟨c1,c2,c3,rfl⟩
structure MVer where
 A:Int
 B:Int
 C:Int
 Pre:List Str
deriving DecidableEq
def MVer.enc (x:MVer):List Cell:=[Cell.int x.A,Cell.int x.B,Cell.int x.C,encL 1 eStr x.Pre]
instance:CanonE MVer.enc:=⟨fun _=>CanonLs.canon (cs:=[_,_,_,_])⟩
def MVer.wt (x:MVer):Nat:=(wtL wtS x.Pre)
def MVer.Bd (N:Nat)(x:MVer):Prop:=(bdI x.A)∧(bdI x.B)∧(bdI x.C)∧(bdL N (bdS N) x.Pre)
def MVer.tr (x:MVer):List Tr:=[.leaf (.int .i64 x.A),.leaf (.int .i64 x.B),.leaf (.int .i64 x.C),trL 1 qbx x.Pre]
instance:TrE MVer.tr MVer.enc:=⟨fun x=>by simp only[MVer.tr,MVer.enc,List.map_cons,List.map_nil,qem,qck]⟩
theorem MVer.open {H:List Entry}{w q:Bool}{n:Nat}{ids:List Nat}{cs:List Cell}{x:MVer}(h0:Sp (Rep H w q n) ids cs x.tr):∃ c3,cs=[Cell.int x.A,Cell.int x.B,Cell.int x.C,c3]:=by
 simp only[MVer.tr] at h0
 obtain⟨cs,rfl,h1⟩:=Sp.leaf_inv h0
 obtain⟨cs,rfl,h2⟩:=Sp.leaf_inv h1
 obtain⟨cs,rfl,h3⟩:=Sp.leaf_inv h2
 obtain⟨c3,cs,rfl,_,h4⟩:=Sp.list_inv h3
 obtain⟨_,rfl⟩:=h4.nil_inv
 exact⟨c3,rfl⟩
end Go.Ev
