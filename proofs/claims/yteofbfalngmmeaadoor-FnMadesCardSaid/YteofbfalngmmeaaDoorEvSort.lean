/- Functions of the library that turn a row of texts in place (slices.Sort, slices.Compact), as they turn the owned heap. Conditions: none. -/
import Derived.Test.YteofbfalngmmeaaDoorEvMem
import Derived.Sort.Grow
import Derived.Sort.EncStr
import Derived.Lib.SlicesCompact
import Derived.Lib.Bytealg
set_option linter.unusedVariables false
namespace Go.Ev
open Go Go.Sort Go.Proofs
variable {P:Program}
structure RowTurn (w w':World)(blk:Nat)(f:Array Value→Array Value):Prop where
 size:w.heap.size≤w'.heap.size
 other:∀ k,k < w.heap.size→k≠blk→w'.heap[k]?=w.heap[k]?
 here:∀ c t fz,w.heap[blk]?=some (.cells c t fz)→w'.heap[blk]?=some (.cells (f c) t fz)
 os:w'.os=w.os
 tape:w'.tape=w.tape
 output:w'.output=w.output
def qgd:Run
 | [.one (.sc (.string s)),.one (.sc (.string p))],H=>match p with
  | ⟨⟨[c]⟩⟩=>some ([.one (.sc (.int .i64 (Lib.countByte s.data.toList c:Nat)))],H)
  | _=>none
 | _,_=>none
theorem qtxb {Ok:Nat→World→Prop}{f:FuncId}
  (hs:∀ (s:ByteArray) (c:UInt8) (w:World),Calls P f #[.string s,.string ⟨#[c]⟩] w fun e w'=>e=.returned (.int .i64 (Lib.countByte s.data.toList c))∧w'=w):FnOk P Ok f qgd:=by
 intro args H r h g B w vs hOk hh hB ha
 unfold qgd at h
 split at h
 ·split at h
  ·simp only[Option.some.injEq] at h
   subst h
   cases ha with
   | cons a1 t1=>cases t1 with
    | cons a2 t2=>cases t2 with
     | nil=>
      cases a1 with
      | one _ _ h1=>cases a2 with
       | one _ _ h2=>
        cases h1;cases h2
        refine(hs _ _ w).mono fun e w' ⟨he,hw⟩=>⟨_,he,g,?_,?_,.av _ _ (.one _ _ (.sc _ rfl))⟩
        ·rw[hw];exact .refl _ _
        ·rw[hw];exact hh
  ·simp at h
 ·simp at h
end Go.Ev
