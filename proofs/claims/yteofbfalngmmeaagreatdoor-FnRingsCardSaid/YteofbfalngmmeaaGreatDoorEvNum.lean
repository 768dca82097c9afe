/- strconv.Itoa off the shelf, and the table that it reads. Conditions: none. -/
import Derived.Test.YteofbfalngmmeaaGreatDoorEvMem
import Derived.Sort.Grow
import Derived.Deep.Draws
import Derived.Lib.ItoaNum
import Derived.Lib.ItoaLen
import Derived.Lib.LaidTab
set_option linter.unusedVariables false
namespace Go.Ev
open Go Go.Sort
variable {P:Program}
def OkTab (P:Program)(G:Nat):Nat→World→Prop:=fun B w=>G < B∧Lib.TabIs P w "internal/strconv.uint64pow10" .u64 Lib.pow10Tab
theorem qcub {G:Nat}(hg:P.globalNamed "internal/strconv.uint64pow10"=some G):Stable (OkTab P G):=by
 intro B w w' ⟨h1,h2⟩ hh _ _ _ _
 refine⟨h1,?_⟩
 unfold Lib.TabIs World.var? at h2 ⊢
 rw[hg] at h2 ⊢
 simp only[Option.bind_some] at h2 ⊢
 rw[hh G h1]
 exact h2
theorem okTab_start {G:Nat}(hg:P.globalNamed "internal/strconv.uint64pow10"=some G){w:World}(h:Lib.TabIs P w "internal/strconv.uint64pow10" .u64 Lib.pow10Tab):OkTab P G w.heap.size w:=by
 refine⟨?_,h⟩
 unfold Lib.TabIs World.var? at h
 rw[hg] at h
 simp only[Option.bind_some] at h
 rcases Nat.lt_or_ge G w.heap.size with h' | h'
 ·exact h'
 ·rw[Array.getElem?_eq_none h'] at h;cases h
def qpz:Run | [.one (.sc (.int .i64 n))],H=>if -9223372036854775808≤n∧n≤9223372036854775807 then some ([.one (.sc (.string ⟨(Lib.itoa n).toArray⟩))],H) else none | _,_=>none
theorem qbzb {g:Gh}{B k:Nat}{H:List Entry}{w:World}{os:Array Obj}(h:HR g B H w):Go1 g g w (grow (w.drewN k) os)∧HR g B H (grow (w.drewN k) os):=by
 have ho:∀ i,i < w.heap.size→(grow (w.drewN k) os).heap[i]?=w.heap[i]?:=fun i hi=>by
  show(w.heap++os)[i]?=w.heap[i]?
  exact Array.getElem?_append_left hi
 have hs:w.heap.size≤(grow (w.drewN k) os).heap.size:=by
  show w.heap.size≤(w.heap++os).size
  simp
 have hk:Keep g w (grow (w.drewN k) os):=fun b j hp=>cell_of_heap (ho b (h.plt b j hp)) j
 refine⟨⟨.refl g,hk,hs,fun i hi _ _=>ho i hi,fun id o h=>.inl ⟨id,o,h,rfl⟩,fun _ _ h=>.inl h,rfl,rfl,rfl⟩,fun id o h1=>?_,h.inj,fun b j hp=>Nat.lt_of_lt_of_le (h.plt b j hp) hs,h.bldSame rfl fun id o h1=>?_⟩
 rotate_left
 ·obtain⟨e,k1,k2⟩:=h.ent id o h1
  exact ho _ k2.lt
 obtain⟨e,k1,k2⟩:=h.ent id o h1
 have hlt:o.blk < w.heap.size:=k2.lt
 exact⟨e,k1,k2.keep (.refl g) hk (ho _ hlt) fun _ h=>h⟩
theorem qxac {Ok:Nat→World→Prop}{f:FuncId}
  (hs:∀ (n:Int),-9223372036854775808≤n→n≤9223372036854775807→∀ (B:Nat) (w:World),Ok B w→Calls P f #[.int .i64 n] w fun e w'=>e=.returned (.string ⟨(Lib.itoa n).toArray⟩)∧∃ k os,w'=grow (w.drewN k) os):FnOk P Ok f qpz:=by
 intro args H r h g B w vs hOk hh hB ha
 unfold qpz at h
 split at h
 ·split at h
  ·rename_i hn
   simp only[Option.some.injEq] at h
   subst h
   cases ha with
   | cons a1 t1=>cases t1 with
    | nil=>
     cases a1 with
     | one _ _ h1=>
      cases h1
      refine(hs _ hn.1 hn.2 B w hOk).mono fun e w' ⟨he,k,os,hw⟩=>?_
      subst hw
      exact⟨_,he,g,(qbzb hh).1,(qbzb hh).2,.av _ _ (.one _ _ (.sc _ rfl))⟩
  ·simp at h
 ·simp at h
end Go.Ev
