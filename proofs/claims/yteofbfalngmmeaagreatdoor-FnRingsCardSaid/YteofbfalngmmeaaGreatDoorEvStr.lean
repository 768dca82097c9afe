/- strings.Index and strings.Count at any text, off the shelf, and the cell that they read. Conditions: none. -/
import Derived.Test.YteofbfalngmmeaaGreatDoorEvSort
import Derived.Test.YteofbfalngmmeaaGreatDoorEvNum
import Derived.Lib.IndexMore
import Derived.Lib.CountLaws
import Derived.Lib.TrimByte
import Derived.Laws.World
set_option linter.unusedVariables false
namespace Go.Ev
open Go Go.Sort
variable {P:Program}
def OkMax (G:Nat):Nat→World→Prop:=fun B w=>G < B∧∃ m,w.cell? ⟨G,0,none⟩=some (.int .i64 m)
theorem qagb {G:Nat}:Stable (OkMax G):=by
 intro B w w' ⟨h1,m,h2⟩ hh _ _ _ _
 exact⟨h1,m,(cell_of_heap (hh G h1) 0).trans h2⟩
theorem okMax_start {G:Nat}{w:World}(h:∃ m,w.cell? ⟨G,0,none⟩=some (.int .i64 m)):OkMax G w.heap.size w:=by
 obtain⟨m,h⟩:=h
 refine⟨?_,m,h⟩
 rcases Nat.lt_or_ge G w.heap.size with h' | h'
 ·exact h'
 ·simp[World.cell?,Array.getElem?_eq_none h'] at h
theorem qmab {A B:Nat→World→Prop}(ha:Stable A)(hb:Stable B):Stable fun n w=>A n w∧B n w:=fun n w w' h h1 h2 h3 h4 h5=>⟨ha n w w' h.1 h1 h2 h3 h4 h5,hb n w w' h.2 h1 h2 h3 h4 h5⟩
def qgm:Run | [.one (.sc (.string s)),.one (.sc (.string p))],H=>if s.size < 4294967281 then some ([.one (.sc (.int .i64 (Lib.index s.data.toList p.data.toList)))],H) else none | _,_=>none
theorem qygb {G:Nat}{Ok:Nat→World→Prop}{f:FuncId}(hG:∀ B w,Ok B w→∃ m,w.cell? ⟨G,0,none⟩=some (.int .i64 m))
  (hs:∀ (s sub:ByteArray) (m:Int) (w:World),s.size < 4294967281→w.cell? ⟨G,0,none⟩=some (.int .i64 m)→Calls P f #[.string s,.string sub] w fun e w'=>e=.returned (.int .i64 (Lib.index s.data.toList sub.data.toList))∧w'=w):FnOk P Ok f qgm:=by
 intro args H r h g B w vs hOk hh hB ha
 unfold qgm at h
 split at h
 ·split at h
  ·rename_i hsz
   simp only[Option.some.injEq] at h
   subst h
   obtain⟨m,hm⟩:=hG B w hOk
   cases ha with
   | cons a1 t1=>cases t1 with
    | cons a2 t2=>cases t2 with
     | nil=>
      cases a1 with
      | one _ _ h1=>cases a2 with
       | one _ _ h2=>
        cases h1;cases h2
        refine(hs _ _ m w hsz hm).mono fun e w' ⟨he,hw⟩=>⟨_,he,g,?_,?_,.av _ _ (.one _ _ (.sc _ rfl))⟩
        ·rw[hw];exact .refl _ _
        ·rw[hw];exact hh
  ·simp at h
 ·simp at h
def qeo:Run
 | [.one (.sc (.string s)),.one (.sc (.string p))],H=>match p with
  | ⟨⟨[c]⟩⟩=>some ([.one (.sc (.int .i64 (Lib.countByte s.data.toList c:Nat)))],H)
  | p=>if s.size < 4294967281∧2≤p.size then some ([.one (.sc (.int .i64 (Lib.count s.data.toList p.data.toList:Nat)))],H) else none
 | _,_=>none
theorem qdbc {G:Nat}{Ok:Nat→World→Prop}{f:FuncId}(hG:∀ B w,Ok B w→∃ m,w.cell? ⟨G,0,none⟩=some (.int .i64 m))
  (h1:∀ (s:ByteArray) (c:UInt8) (w:World),Calls P f #[.string s,.string ⟨#[c]⟩] w fun e w'=>e=.returned (.int .i64 (Lib.countByte s.data.toList c))∧w'=w)
  (hs:∀ (s sub:ByteArray) (m:Int) (w:World),s.size < 4294967281→w.cell? ⟨G,0,none⟩=some (.int .i64 m)→2≤sub.size→Calls P f #[.string s,.string sub] w fun e w'=>e=.returned (.int .i64 (Lib.countB s sub))∧w'=w):FnOk P Ok f qeo:=by
 intro args H r h g B w vs hOk hh hB ha
 unfold qeo at h
 split at h
 ·split at h
  ·simp only[Option.some.injEq] at h
   subst h
   cases ha with
   | cons a1 t1=>cases t1 with
    | cons a2 t2=>cases t2 with
     | nil=>
      cases a1 with
      | one _ _ h3=>cases a2 with
       | one _ _ h4=>
        cases h3;cases h4
        refine(h1 _ _ w).mono fun e w' ⟨he,hw⟩=>⟨_,he,g,?_,?_,.av _ _ (.one _ _ (.sc _ rfl))⟩
        ·rw[hw];exact .refl _ _
        ·rw[hw];exact hh
  ·split at h
   ·rename_i hsz
    simp only[Option.some.injEq] at h
    subst h
    obtain⟨m,hm⟩:=hG B w hOk
    cases ha with
    | cons a1 t1=>cases t1 with
     | cons a2 t2=>cases t2 with
      | nil=>
       cases a1 with
       | one _ _ h3=>cases a2 with
        | one _ _ h4=>
         cases h3;cases h4
         refine(hs _ _ m w hsz.1 hm hsz.2).mono fun e w' ⟨he,hw⟩=>⟨_,he,g,?_,?_,.av _ _ (.one _ _ (.sc _ rfl))⟩
         ·rw[hw];exact .refl _ _
         ·rw[hw];exact hh
   ·simp at h
 ·simp at h
def qjm:Run
 | [.one (.sc (.string s)),.one (.sc (.string p))],H=>match p with
  | ⟨⟨[c]⟩⟩=>if c.toNat < 128∧s.size≤9223372036854775807 then some ([.one (.sc (.string ⟨(Lib.trimB s.data.toList c).toArray⟩))],H) else none
  | _=>none
 | _,_=>none
theorem qloc {Ok:Nat→World→Prop}{f:FuncId}
  (hs:∀ (s:ByteArray) (c:UInt8),c.toNat < 128→∀ (w:World),s.size≤9223372036854775807→Calls P f #[.string s,.string ⟨#[c]⟩] w fun e w'=>e=.returned (.string ⟨(Lib.trimB s.data.toList c).toArray⟩)∧(w'=w∨w'=w.drew)):FnOk P Ok f qjm:=by
 intro args H r h g B w vs hOk hh hB ha
 unfold qjm at h
 split at h
 ·split at h
  ·split at h
   ·rename_i hc
    simp only[Option.some.injEq] at h
    subst h
    cases ha with
    | cons a1 t1=>cases t1 with
     | cons a2 t2=>cases t2 with
      | nil=>
       cases a1 with
       | one _ _ h3=>cases a2 with
        | one _ _ h4=>
         cases h3;cases h4
         refine(hs _ _ hc.1 w hc.2).mono fun e w' ⟨he,hw⟩=>?_
         rcases hw with hw | hw
         ·refine⟨_,he,g,?_,?_,.av _ _ (.one _ _ (.sc _ rfl))⟩
          ·rw[hw];exact .refl _ _
          ·rw[hw];exact hh
         ·have hd:w'=grow (w.drewN 1) #[]:=by rw[hw,grow_empty];rfl
          have:=qbzb (k:=1) (os:=#[]) hh
          rw[← hd] at this
          exact⟨_,he,g,this.1,this.2,.av _ _ (.one _ _ (.sc _ rfl))⟩
   ·simp at h
  ·simp at h
 ·simp at h
end Go.Ev
