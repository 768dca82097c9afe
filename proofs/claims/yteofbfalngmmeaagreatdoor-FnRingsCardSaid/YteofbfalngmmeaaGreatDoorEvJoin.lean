/- strings.Join off the shelf. Conditions: none. -/
import Derived.Test.YteofbfalngmmeaaGreatDoorEvSort
import Derived.Lib.Join
import Derived.Below
set_option linter.unusedVariables false
namespace Go.Ev
open Go
variable {P:Program}
theorem qmgb {g:Gh}{B:Nat}{H:List Entry}{w w':World}(h:HR g B H w)(b:RowKit.Below w.heap.size w w'):Go1 g g w w'∧HR g B H w':=by
 have hk:Keep g w w':=fun i j hp=>cell_of_heap (b.block i (h.plt i j hp)) j
 refine⟨⟨.refl g,hk,b.size,fun i hi _ _=>b.block i hi,fun id o h=>.inl ⟨id,o,h,rfl⟩,fun _ _ h=>.inl h,b.os,b.tape,b.output⟩,fun id o h1=>?_,h.inj,fun i j hp=>Nat.lt_of_lt_of_le (h.plt i j hp) b.size,h.bldSame rfl fun id o h1=>?_⟩
 rotate_left
 ·obtain⟨e,k1,k2⟩:=h.ent id o h1
  exact b.block _ k2.lt
 obtain⟨e,k1,k2⟩:=h.ent id o h1
 have hlt:o.blk < w.heap.size:=k2.lt
 exact⟨e,k1,k2.keep (.refl g) hk (b.block _ hlt) fun _ h=>h⟩
def qpr:Run
 | [.one (.lst f sz rows),.one (.sc (.string sep))],H=>match qlm rows with
  | some xs=>if sz=1∧xs.length≤140737488355328∧(Lib.join xs sep.data.toList).length≤140737488355328 then some ([.one (.sc (.string ⟨(Lib.join xs sep.data.toList).toArray⟩))],H) else none
  | none=>none
 | _,_=>none
theorem qtlc {Ok:Nat→World→Prop}{f:FuncId}
  (hs:∀ (bk o c:Nat) (xs:List ByteArray) (sep:ByteArray) (w:World),(∀ (j:Nat) x,xs[j]?=some x→w.cell? ⟨bk,o+j,none⟩=some (.string x))→bk < w.heap.size→xs.length≤140737488355328→xs.length≤c→
   (Lib.join (xs.map (·.data.toList)) sep.data.toList).length≤140737488355328→Calls P f #[.slice (some ⟨bk,o,none⟩) xs.length c,.string sep] w fun e w'=>e=.returned (.string ⟨(Lib.join (xs.map (·.data.toList)) sep.data.toList).toArray⟩)∧RowKit.Below w.heap.size w w')
  (h0:∀ (a:Option Addr) (c:Nat) (sep:ByteArray) (w:World),Calls P f #[.slice a 0 c,.string sep] w fun e w'=>e=.returned (.string ⟨#[]⟩)∧w'=w):FnOk P Ok f qpr:=by
 intro args H r h g B w vs hOk hh hB ha
 unfold qpr at h
 split at h
 ·rename_i f0 sz rows0 sep
  split at h
  ·rename_i ys hy
   split at h
   ·rename_i hn
    simp only[Option.some.injEq] at h
    subst h
    obtain⟨rfl,hn1,hn2⟩:=hn
    have hrows:=qse hy
    subst hrows
    cases ha with
    | cons a1 t1=>cases t1 with
     | cons a2 t2=>cases t2 with
      | nil=>
       cases a1 with
       | one _ _ h1=>cases a2 with
        | one _ _ h2=>
         cases h2
         generalize hr:List.map eStr ys=rows at h1
         cases h1 with
         | nil _ _ a cap hf=>
          have:ys=[]:=List.map_eq_nil_iff.1 hr
          subst this
          refine(h0 a cap sep w).mono fun e w' ⟨he,hw⟩=>?_
          subst hw
          exact⟨_,he,g,.refl _ _,hh,.av _ _ (.one _ _ (.sc _ rfl))⟩
         | lst _ _ _ b o cap val hne hf hc hsz hp hcell hrr=>
          subst hr
          have hcells:∀ (j:Nat) x,(ys.map bs)[j]?=some x→w.cell? ⟨b,o+j,none⟩=some (.string x):=by
           intro j x hx
           rw[List.getElem?_map,Option.map_eq_some_iff] at hx
           obtain⟨y,hy1,rfl⟩:=hx
           have hrow:(ys.map eStr)[j]?=some [Cell.str (bs y)]:=by rw[List.getElem?_map,hy1];rfl
           have h3:=(hcell j 0 _ (Cell.str (bs y)) hrow rfl).1
           have h4:=hrr j 0 _ (Cell.str (bs y)) hrow rfl
           have h5:val j 0=.string (bs y):=by
            generalize val j 0=v at h4
            cases h4
            rfl
           rw[h5] at h3
           simpa using h3
          have hb:b < w.heap.size:=by
           cases ys with
           | nil=>exact absurd rfl hne
           | cons y ys=>exact World.block_lt_of_cell? w _ (hcells 0 (bs y) rfl)
          have hm:(ys.map bs).map (·.data.toList)=ys:=by
           rw[List.map_map]
           conv=>rhs;rw[← List.map_id ys]
           exact List.map_congr_left fun y _=>by simp[bs]
          have hq:=hs b o cap (ys.map bs) sep w hcells hb (by simpa using hn1) (by simpa using hc) (by rw[hm];exact hn2)
          rw[hm,List.length_map] at hq
          simp only[List.length_map]
          refine hq.mono fun e w' ⟨he,hw⟩=>?_
          exact⟨_,he,g,(qmgb hh hw).1,(qmgb hh hw).2,.av _ _ (.one _ _ (.sc _ rfl))⟩
   ·simp at h
  ·simp at h
 ·simp at h
end Go.Ev
