/- Conditions: none. -/
import Derived.Test.YtholafaogipaiaaGreatDoorEvMem
import Derived.Sort.Grow
import Derived.Sort.EncStr
import Derived.Lib.SlicesCompact
import Derived.Lib.Bytealg
set_option linter.unusedVariables false
namespace Go.Ev
open Go Go.Sort Go.Proofs
variable {P:Program}
structure RowTurn (w w':World)(blk:Nat)(f:Array Value→Array Value):Prop where
 size:w.heap.size≤w'.heap.size
 other:∀ k,k < w.heap.size→k≠blk→w'.heap[k]?=w.heap[k]?
 here:∀ c t fz,w.heap[blk]?=some (.cells c t fz)→w'.heap[blk]?=some (.cells (f c) t fz)
 os:w'.os=w.os
 tape:w'.tape=w.tape
 output:w'.output=w.output
def strRow:List Cell→Option Str | [.sc (.string s)]=>some s.data.toList | _=>none
def qmj (rows:List (List Cell)):Option (List Str):=mapO strRow rows
theorem qbob (xs:List Str):qmj (xs.map eStr)=some xs:=by
 induction xs with
 | nil=>rfl
 | cons x xs ih=>
  have ih:mapO strRow (xs.map eStr)=some xs:=ih
  simp only[qmj,List.map_cons,mapO,ih]
  simp[strRow,eStr]
theorem qiib:∀ {rows:List (List Cell)} {xs:List Str},qmj rows=some xs→rows=xs.map eStr:=by
 intro rows
 induction rows with
 | nil=>intro xs h;simp only[qmj,mapO,Option.some.injEq] at h;subst h;rfl
 | cons r rows ih=>
  intro xs h
  simp only[qmj,mapO] at h
  split at h
  ·rename_i a ha
   split at h
   ·rename_i b hb
    simp only[Option.some.injEq] at h
    subst h
    rw[List.map_cons,ih hb]
    congr 1
    unfold strRow at ha
    split at ha
    ·rename_i s
     simp only[Option.some.injEq] at ha
     subst ha
     simp[eStr,← bs_of]
    ·simp at ha
   ·simp at h
  ·simp at h
end Go.Ev
