/- Functions of the library that turn a row of texts in place (slices.Sort, slices.Compact), as they turn the owned heap. Conditions: none. -/
import Derived.Test.YteofbfalngmmeaaGreatDoorEvMem
import Derived.Sort.Grow
import Derived.Sort.EncStr
import Derived.Lib.SlicesCompact
import Derived.Lib.Bytealg
set_option linter.unusedVariables false
namespace Go.Ev
open Go Go.Sort Go.Proofs
variable {P:Program}
structure RowTurn (w w':World)(blk:Nat)(f:Array Value→Array Value):Prop where
 size:w.heap.size≤w'.heap.size
 other:∀ k,k < w.heap.size→k≠blk→w'.heap[k]?=w.heap[k]?
 here:∀ c t fz,w.heap[blk]?=some (.cells c t fz)→w'.heap[blk]?=some (.cells (f c) t fz)
 os:w'.os=w.os
 tape:w'.tape=w.tape
 output:w'.output=w.output
def qtlb:List Cell→Option Str | [.sc (.string s)]=>some s.data.toList | _=>none
def qls (rows:List (List Cell)):Option (List Str):=mapO qtlb rows
theorem qwg (xs:List Str):qls (xs.map eStr)=some xs:=by
 induction xs with
 | nil=>rfl
 | cons x xs ih=>
  have ih:mapO qtlb (xs.map eStr)=some xs:=ih
  simp only[qls,List.map_cons,mapO,ih]
  simp[qtlb,eStr]
theorem qeyb:∀ {rows:List (List Cell)} {xs:List Str},qls rows=some xs→rows=xs.map eStr:=by
 intro rows
 induction rows with
 | nil=>intro xs h;simp only[qls,mapO,Option.some.injEq] at h;subst h;rfl
 | cons r rows ih=>
  intro xs h
  simp only[qls,mapO] at h
  split at h
  ·rename_i a ha
   split at h
   ·rename_i b hb
    simp only[Option.some.injEq] at h
    subst h
    rw[List.map_cons,ih hb]
    congr 1
    unfold qtlb at ha
    split at ha
    ·rename_i s
     simp only[Option.some.injEq] at ha
     subst ha
     simp[eStr,← bs_of]
    ·simp at ha
   ·simp at h
  ·simp at h
end Go.Ev
