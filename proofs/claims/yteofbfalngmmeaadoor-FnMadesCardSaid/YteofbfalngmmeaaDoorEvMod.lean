/- The values that the laws speak of, as Lean has them, and how they lie in cells. Conditions: none. -/
import Derived.Test.YteofbfalngmmeaaDoorEvLib
import Derived.Test.YteofbfalngmmeaaDoorEvPr
import Derived.Test.YteofbfalngmmeaaDoorEvMem
set_option linter.unusedSimpArgs false
set_option linter.unusedVariables false
namespace Go.Ev
open Go
noncomputable def Γ0:Ctx:=ctx qbe qbd []
structure MFile where
 Path:Str
 Text:Str
deriving DecidableEq
def MFile.enc (x:MFile):List Cell:=[Cell.str (bs x.Path),Cell.str (bs x.Text)]
instance:CanonE MFile.enc:=⟨fun _=>CanonLs.canon (cs:=[_,_])⟩
def MFile.Bd (N:Nat)(x:MFile):Prop:=(bdS N x.Path)∧(bdS N x.Text)
def MFile.tr (x:MFile):List Tr:=[.leaf (.string (bs x.Path)),.leaf (.string (bs x.Text))]
instance:TrE MFile.tr MFile.enc:=⟨fun x=>by simp only[MFile.tr,MFile.enc,List.map_cons,List.map_nil,qbc,qbm]⟩
theorem MFile.open {H:List Entry}{w q:Bool}{n:Nat}{ids:List Nat}{cs:List Cell}{x:MFile}(h0:Sp (Rep H w q n) ids cs x.tr):cs=[Cell.str (bs x.Path),Cell.str (bs x.Text)]:=by
 simp only[MFile.tr] at h0
 obtain⟨cs,rfl,h1⟩:=Sp.leaf_inv h0
 obtain⟨cs,rfl,h2⟩:=Sp.leaf_inv h1
 obtain⟨_,rfl⟩:=h2.nil_inv
 rfl
structure MMade where
 Task:Str
 Outs:List MFile
 Log:Str
deriving DecidableEq
def MMade.enc (x:MMade):List Cell:=[Cell.str (bs x.Task),encL 2 MFile.enc x.Outs,Cell.str (bs x.Log)]
instance:CanonE MMade.enc:=⟨fun _=>CanonLs.canon (cs:=[_,_,_])⟩
def MMade.Bd (N:Nat)(x:MMade):Prop:=(bdS N x.Task)∧(bdL N (MFile.Bd N) x.Outs)∧(bdS N x.Log)
def MMade.tr (x:MMade):List Tr:=[.leaf (.string (bs x.Task)),trL 2 MFile.tr x.Outs,.leaf (.string (bs x.Log))]
instance:TrE MMade.tr MMade.enc:=⟨fun x=>by simp only[MMade.tr,MMade.enc,List.map_cons,List.map_nil,qbc,qbm]⟩
theorem MMade.open {H:List Entry}{w q:Bool}{n:Nat}{ids:List Nat}{cs:List Cell}{x:MMade}(h0:Sp (Rep H w q n) ids cs x.tr):∃ c1,cs=[Cell.str (bs x.Task),c1,Cell.str (bs x.Log)]:=by
 simp only[MMade.tr] at h0
 obtain⟨cs,rfl,h1⟩:=Sp.leaf_inv h0
 obtain⟨c1,cs,rfl,_,h2⟩:=Sp.list_inv h1
 obtain⟨cs,rfl,h3⟩:=Sp.leaf_inv h2
 obtain⟨_,rfl⟩:=h3.nil_inv
 exact⟨c1,rfl⟩
end Go.Ev
