/- From a law's arguments, as its row opens them, to the evaluator's cells, and from the evaluator's answer to the row. No program occurs here; conditions: what the theorems name. -/
import Derived.Test.YteofbfalngmmeaaGreatDoorEvZ
import Derived.ChangeArms
import Derived.ChangeOld
import Derived.Carry
import Derived.SizedLaws
import Derived.OpenShut
import Derived.RowKit
namespace Go.Ev
open Go
def memG (w:World):Gh:=⟨fun _=>none,fun b _=>b < w.heap.size⟩
theorem qywc (w:World):HR (memG w) w.heap.size [] w:=⟨by simp[memG],by simp[memG],fun _ _ h=>h,by simp[memG]⟩
def WTs (f:TypeId→List Cell→Prop):List TypeId→List Cell→Prop | [],cs=>cs=[] | t::ts,cs=>∃ a b,cs=a++b∧f t a∧WTs f ts b
def WT (Γ:Ctx):Nat→TypeId→List Cell→Prop
 | 0,_,_=>False
 | n+1,t,cs=>
  match Γ.ty t with
  | some r=>
   match r.kd with
   | .bool=>∃ b,cs=[.sc (.bool b)]
   | .int k=>∃ i,cs=[.sc (.int k i)]∧k.min≤i∧i≤k.max
   | .str=>∃ s,cs=[.sc (.string s)]∧s.size≤maxLen
   | .slice e=>∃ q rows,cs=[.lst false q.size rows]∧Γ.ty e=some q∧rows.length≤maxLen∧∀ row∈rows,WT Γ n e row
   | .struct fs=>WTs (WT Γ n) (fs.map (·.2)) cs
   | _=>False
  | none=>False
def tiles (Γ:Ctx):List (Nat×TypeId)→Nat→Option Nat
 | [],off=>some off
 | (o,t)::r,off=>
  match Γ.ty t with
  | some q=>if o=off then tiles Γ r (off+q.size) else none
  | none=>none
def plainAt (Γ:Ctx)(S:List Nat)(t:TypeId):Bool:=
 match Γ.ty t with
 | some r=>
  match r.kd with
  | .bool=>true
  | .int _=>true
  | .str=>true
  | .slice e=>S.contains e&&(Γ.ty e).isSome
  | .struct fs=>(fs.all fun p=>S.contains p.2)&&tiles Γ fs 0==some r.size
  | _=>false
 | none=>false
section
variable {H:Type} {enc:TypeId×Value→H} {P:Program} {Γ:Ctx} {w:World} {sp:Nat→Bool} {held:Bool}
theorem qnh (hΓ:CtxOk P Γ){t:TypeId}{r:Ty}(h:Γ.ty t=some r):P.cellsOf t=r.size:=by
 obtain⟨i,z,h1,h2,_⟩:=(hΓ.ty _ _ h).info
 simp[Program.cellsOf,h1,h2]
theorem All2.append' {α β:Type}{r:α→β→Prop}{as as':List α}{bs bs':List β}(h:All2 r as bs)(k:All2 r as' bs'):All2 r (as++as') (bs++bs'):=by
 induction h with
 | nil=>exact k
 | cons a _ ih=>exact .cons a ih
theorem WT.pur:∀ {n:Nat} {t:TypeId} {cs:List Cell},WT Γ n t cs→∀ c∈cs,Pur c:=by
 intro n
 induction n with
 | zero=>intro t cs h;exact h.elim
 | succ n ih=>
  intro t cs h
  simp only[WT] at h
  split at h
  ·split at h
   ·obtain⟨b,rfl⟩:=h;simp;exact .sc _
   ·obtain⟨b,rfl,_⟩:=h;simp;exact .sc _
   ·obtain⟨b,rfl,_⟩:=h;simp;exact .sc _
   ·obtain⟨q,rows,rfl,_,_,hr⟩:=h
    simp
    exact .lst _ _ _ fun row hrow=>ih (hr row hrow)
   ·rename_i fs _
    have key:∀ (ts:List TypeId) (cs:List Cell),WTs (WT Γ n) ts cs→∀ c∈cs,Pur c:=by
     intro ts
     induction ts with
     | nil=>intro cs h c hc;rw[h] at hc;simp at hc
     | cons t ts iht=>
      intro cs ⟨a,b,e,h1,h2⟩ c hc
      rw[e] at hc
      rcases List.mem_append.1 hc with hc | hc
      ·exact ih h1 c hc
      ·exact iht b h2 c hc
    exact key _ _ h
   ·exact h.elim
  ·exact h.elim
theorem trod_R (hΓ:CtxOk P Γ){S:List Nat}(hS:∀ t∈S,plainAt Γ S t=true):∀ (n:Nat) (t:TypeId) (cs:List Value) (x:DataW H×List MemPlace),t∈S→DataW.trod enc P w 0 sp held n t cs=some x→
  ∃ cells,RL (memG w) w cells cs∧WT Γ n t cells:=by
 intro n
 induction n with
 | zero=>intro t cs x _ h;simp[DataW.trod] at h
 | succ n ih=>
  intro t cs x ht h
  have hp:=hS t ht
  unfold plainAt at hp
  split at hp
  ·rename_i r hr
   have hk:=(hΓ.ty _ _ hr).kd
   split at hp
   ·rename_i k
    rw[k] at hk
    obtain⟨b,rfl,_⟩:=DataW.trod_bool hk h
    exact⟨[.sc (.bool b)],.cons (.sc _ rfl) .nil,by simp only[WT,hr,k];exact⟨b,rfl⟩⟩
   ·rename_i ik k
    rw[k] at hk
    obtain⟨i,rfl,_,hwf⟩:=DataW.trod_int hk h
    simp only[Lit.wf,Bool.and_eq_true,decide_eq_true_eq] at hwf
    exact⟨[.sc (.int ik i)],.cons (.sc _ rfl) .nil,by simp only[WT,hr,k];exact⟨i,rfl,hwf.1,hwf.2⟩⟩
   ·rename_i k
    rw[k] at hk
    obtain⟨s,rfl,_,hs⟩:=DataW.trod_string hk h
    exact⟨[.sc (.string s)],.cons (.sc _ rfl) .nil,by simp only[WT,hr,k];exact⟨s,rfl,hs⟩⟩
   ·rename_i e k
    rw[k] at hk
    simp only[Bool.and_eq_true,List.contains_iff_mem] at hp
    obtain⟨q,hq⟩:=Option.isSome_iff_exists.1 hp.2
    have hsz:=qnh hΓ hq
    have hpos:=(hΓ.ty _ _ hq).pos
    rcases DataW.trod_slice hk h with⟨rfl,_⟩ | ⟨a,len,cap,elems,rest,m,hm,rfl,_,_,hl,hc,hlen,hel,_⟩
    ·refine⟨[.lst false q.size []],.cons (.nil _ _ _ _ (by simp)) .nil,?_⟩
     simp only[WT,hr,k]
     exact⟨q,[],rfl,hq,by simp,by simp⟩
    ·simp only[Nat.add_right_cancel_iff] at hm
     subst hm
     have each:∀ i,i < len→∃ row cs',w.cells? 0 (a.add (i*q.size)) q.size=some cs'∧RL (memG w) w row cs'∧WT Γ n e row:=by
      intro i hi
      have:=hel i hi
      rw[List.getElem?_eq_getElem (by omega),hsz,Option.bind_eq_some_iff] at this
      obtain⟨cs',h1,h2⟩:=this
      obtain⟨row,h3,h4⟩:=ih e cs' _ (by simpa using hp.1) h2
      exact⟨row,cs',h1,h3,h4⟩
     by_cases h0:len=0
     ·subst h0
      refine⟨[.lst false q.size []],.cons (.nil _ _ _ _ (by simp)) .nil,?_⟩
      simp only[WT,hr,k]
      exact⟨q,[],rfl,hq,by simp,by simp⟩
     ·have hsp:a.spot=none:=by
       obtain⟨row,cs',h1,_⟩:=each 0 (by omega)
       obtain⟨_,_,h2⟩:=World.cells?_some h1
       obtain⟨_,h3,_⟩:=World.cells?_some h1
       have h2:=h2 0 hpos
       rw[List.getElem?_eq_getElem (by omega)] at h2
       unfold World.cell? at h2
       split at h2
       ·split at h2
        ·simp at h2
        ·rename_i hh
         simpa[Addr.add] using hh
       ·simp at h2
      obtain⟨f,hf⟩:∃ f:Nat→List Cell×List Value,∀ i,i < len→w.cells? 0 (a.add (i*q.size)) q.size=some (f i).2∧RL (memG w) w (f i).1 (f i).2∧WT Γ n e (f i).1:=by
       refine⟨fun i=>if hi:i < len then ((each i hi).choose,(each i hi).choose_spec.choose) else ([],[]),fun i hi=>?_⟩
       simp only[hi,dite_true]
       exact(each i hi).choose_spec.choose_spec
      refine⟨[.lst false q.size ((List.range len).map fun i=>(f i).1)],.cons ?_ .nil,?_⟩
      ·have:=R.lst (g:=memG w) (w:=w) false q.size ((List.range len).map fun i=>(f i).1) a.block a.off cap (fun i j=>(f i).2.getD j undef) (by simp;omega) (by simp) (by simp;omega) ?_ ?_ ?_ ?_
       ·rw[List.length_map,List.length_range] at this
        have ea:a=⟨a.block,a.off,none⟩:=by cases a;simp_all
        rw[← ea] at this
        exact this
       ·intro row hrow
        simp only[List.mem_map,List.mem_range] at hrow
        obtain⟨i,hi,rfl⟩:=hrow
        obtain⟨h1,h2,_⟩:=hf i hi
        rw[← h2.length]
        exact(World.cells?_some h1).2.1
       ·intro row hrow c hc
        simp only[List.mem_map,List.mem_range] at hrow
        obtain⟨i,hi,rfl⟩:=hrow
        exact WT.pur (hf i hi).2.2 c hc
       ·intro i j row c hrow hc
        simp only[List.getElem?_map,Option.map_eq_some_iff] at hrow
        obtain⟨i',hi',rfl⟩:=hrow
        have hlt:i < len:=by
         have:=(List.getElem?_eq_some_iff.1 hi').1
         simpa using this
        have ei:i'=i:=by
         rw[List.getElem?_range hlt] at hi'
         simpa using hi'.symm
        subst ei
        obtain⟨h1,h2,_⟩:=hf i' hlt
        obtain⟨v,hv,_⟩:=h2.get hc
        obtain⟨_,h3,h4⟩:=World.cells?_some h1
        have hj:j < q.size:=by rw[← h3];exact(List.getElem?_eq_some_iff.1 hv).1
        have h5:=h4 j hj
        rw[hv] at h5
        have e1:(a.add (i'*q.size)).add j=⟨a.block,a.off+i'*q.size+j,none⟩:=by
         have ea:a=⟨a.block,a.off,none⟩:=by cases a;simp_all
         rw[ea,addr_add,addr_add]
        rw[e1] at h5
        refine⟨by rw[h5,List.getD_eq_getElem?_getD,hv];rfl,?_⟩
        exact World.block_lt_of_cell? (a:=⟨a.block,a.off+i'*q.size+j,none⟩) w h5
       ·intro i j row c hrow hc
        simp only[List.getElem?_map,Option.map_eq_some_iff] at hrow
        obtain⟨i',hi',rfl⟩:=hrow
        have hlt:i < len:=by
         have:=(List.getElem?_eq_some_iff.1 hi').1
         simpa using this
        have ei:i'=i:=by
         rw[List.getElem?_range hlt] at hi'
         simpa using hi'.symm
        subst ei
        obtain⟨v,hv,hr⟩:=(hf i' hlt).2.1.get hc
        rw[List.getD_eq_getElem?_getD,hv]
        exact hr
      ·simp only[WT,hr,k]
       refine⟨q,_,rfl,hq,by simp;omega,fun row hrow=>?_⟩
       simp only[List.mem_map,List.mem_range] at hrow
       obtain⟨i,hi,rfl⟩:=hrow
       exact(hf i hi).2.2
   ·rename_i fs k
    rw[k] at hk
    simp only[Bool.and_eq_true,List.all_eq_true,List.contains_iff_mem,beq_iff_eq] at hp
    obtain⟨fields,hu,hfs,_⟩:=hk
    obtain⟨xs,m,hm,_,hl,hxl,hx⟩:=DataW.trod_struct hu h
    simp only[Nat.add_right_cancel_iff] at hm
    subst hm
    have key:∀ (l:List Field) (off e:Nat),(∀ f∈l,f.type∈S∧∃ x,DataW.trod enc P w 0 sp held n f.type ((cs.drop f.offset).take (P.cellsOf f.type))=some x)→tiles Γ (l.map fun f=>(f.offset,f.type)) off=some e→e≤cs.length→
      off≤e∧∃ cells,RL (memG w) w cells ((cs.drop off).take (e - off))∧WTs (WT Γ n) (l.map (·.type)) cells:=by
     intro l
     induction l with
     | nil=>
      intro off e _ ht _
      simp only[List.map_nil,tiles,Option.some.injEq] at ht
      subst ht
      exact⟨Nat.le_refl _,[],by simp;exact .nil,rfl⟩
     | cons f l ihl=>
      intro off e hf ht he
      simp only[List.map_cons,tiles] at ht
      split at ht
      ·rename_i q hq
       split at ht
       ·rename_i ho
        obtain⟨h1,cells,h2,h3⟩:=ihl _ _ (fun f hf'=>hf f (by simp[hf'])) ht he
        obtain⟨hfS,x,hfx⟩:=hf f (by simp)
        rw[qnh hΓ hq,ho] at hfx
        obtain⟨c1,h4,h5⟩:=ih _ _ _ hfS hfx
        refine⟨by omega,c1++cells,?_,c1,cells,rfl,h5,h3⟩
        have e1:(cs.drop off).take (e - off)=(cs.drop off).take q.size++(cs.drop (off+q.size)).take (e - (off+q.size)):=by
         have:e - off=q.size+(e - (off+q.size)):=by omega
         rw[this,List.take_add,List.drop_drop]
        rw[e1]
        exact h4.append' h2
       ·simp at ht
      ·simp at ht
    have hfs':tiles Γ (fields.toList.map fun f=>(f.offset,f.type)) 0=some r.size:=by rw[hfs];exact hp.2
    have hcl:cs.length=r.size:=by rw[hl,qnh hΓ hr]
    have hfl:∀ f∈fields.toList,f.type∈S∧∃ x,DataW.trod enc P w 0 sp held n f.type ((cs.drop f.offset).take (P.cellsOf f.type))=some x:=by
     intro f hf
     obtain⟨i,hi⟩:=List.getElem?_of_mem hf
     have hi':fields[i]?=some f:=by simpa using hi
     have hlt:i < xs.length:=by
      rw[hxl]
      exact(Array.getElem?_eq_some_iff.1 hi').1
     refine⟨?_,xs[i],by rw[hx i f hi',List.getElem?_eq_getElem hlt]⟩
     have:=hp.1 (f.offset,f.type) (by rw[← hfs];exact List.mem_map.2 ⟨f,hf,rfl⟩)
     simpa using this
    obtain⟨_,cells,h1,h2⟩:=key fields.toList 0 r.size hfl hfs' (by omega)
    ·refine⟨cells,?_,?_⟩
     ·have:(cs.drop 0).take (r.size - 0)=cs:=by rw[List.drop_zero,Nat.sub_zero,← hcl,List.take_length]
      rw[this] at h1
      exact h1
     ·simp only[WT,hr,k]
      have:fs.map (·.2)=fields.toList.map (·.type):=by rw[← hfs];simp
      rw[this]
      exact h2
   ·simp at hp
  ·simp at hp
theorem open_arg (hΓ:CtxOk P Γ){S:List Nat}(hS:∀ t∈S,plainAt Γ S t=true){t:TypeId}{r:Ty}(ht:t∈S)(hr:Γ.ty t=some r){base:Nat}{v:Value}{d:DataW H}{p:List MemPlace}
  (hval:Value.okWide P w .any base t v) (h:DataW.Trod enc P w 0 sp held t v d p):∃ n cells,WT Γ n t cells∧AVR (memG w) w (if r.isAgg then .agg cells else .one (cells.headD (.sc undef))) v:=by
 obtain⟨n,h⟩:=h
 obtain⟨cells,h1,h2⟩:=trod_R hΓ hS n t _ _ ht h
 refine⟨n,cells,h2,?_⟩
 have hk:=(hΓ.ty _ _ hr).kd
 have hp:=hS t ht
 unfold plainAt at hp
 rw[hr] at hp
 simp only at hp
 cases n with
 | zero=>exact h2.elim
 | succ n=>
 simp only[WT,hr] at h2
 have one:∀ c,cells=[c]→(∀ cs,v≠.agg cs)→r.isAgg=false→AVR (memG w) w (if r.isAgg then .agg cells else .one (cells.headD (.sc undef))) v:=by
  intro c e hv ha
  rw[ha,e]
  rw[e] at h1
  have:v.cells=#[v]:=by
   cases v<;>first | rfl | exact absurd rfl (hv _)
  rw[this] at h1
  cases h1 with
  | cons a _=>exact .one _ _ a
 split at hp
 ·rename_i k
  rw[k] at hk h2
  simp only at h2
  have hk:P.underlying t=some .bool:=hk
  obtain⟨b,rfl⟩:=h2
  refine one _ rfl (fun cs e=>?_) (by simp[Ty.isAgg,k])
  unfold Value.okWide at hval
  rw[hk] at hval
  subst e
  simp[Cell.okWide,hk,Cell.ok] at hval
 ·rename_i ik k
  rw[k] at hk h2
  simp only at h2
  have hk:P.underlying t=some (.int ik):=hk
  obtain⟨b,rfl,_⟩:=h2
  refine one _ rfl (fun cs e=>?_) (by simp[Ty.isAgg,k])
  unfold Value.okWide at hval
  rw[hk] at hval
  subst e
  simp[Cell.okWide,hk,Cell.ok] at hval
 ·rename_i k
  rw[k] at hk h2
  simp only at h2
  have hk:P.underlying t=some .string:=hk
  obtain⟨b,rfl,_⟩:=h2
  refine one _ rfl (fun cs e=>?_) (by simp[Ty.isAgg,k])
  unfold Value.okWide at hval
  rw[hk] at hval
  subst e
  simp[Cell.okWide,hk,Cell.ok] at hval
 ·rename_i e k
  rw[k] at hk h2
  simp only at h2
  have hk:P.underlying t=some (.slice e):=hk
  obtain⟨q,rows,rfl,_⟩:=h2
  refine one _ rfl (fun cs e=>?_) (by simp[Ty.isAgg,k])
  unfold Value.okWide at hval
  rw[hk] at hval
  subst e
  simp[Cell.okWide,hk,Cell.ok] at hval
 ·rename_i fs k
  rw[k] at hk
  obtain⟨fields,hu,_⟩:=hk
  unfold Value.okWide at hval
  rw[hu] at hval
  obtain⟨cs,rfl,_⟩:=hval
  have ha:r.isAgg=true:=by simp[Ty.isAgg,k]
  rw[ha]
  have:=AVR.agg (g:=memG w) (w:=w) cells cs.toList h1
  simpa using this
 ·simp at hp
theorem qbnc {Ok:Nat→World→Prop}{f:FuncId}{p:Run}(hf:FnOk P Ok f p){as:List AV}{args:Array Value}{H':List Entry}(h:p as []=some ([.one (.sc (.bool true))],H'))(hOk:Ok w.heap.size w)
  (ha:AL (memG w) w as args.toList):Calls P f args w fun e w'=>e=.returned (.bool true)∧RowKit.Below w.heap.size w w':=by
 have:=hf as [] _ h (memG w) w.heap.size w args.toList hOk (qywc w) (Nat.le_refl _) ha
 simp only[Array.toArray_toList] at this
 refine this.mono fun e w' ⟨v,he,g',hg,_,hr⟩=>⟨?_,hg.os,hg.tape,hg.output,hg.size,fun k hk=>hg.frame k hk (fun h=>h) (by simp[memG])⟩
 cases hr with
 | av _ _ hv=>
  cases hv with
  | one _ _ hc=>cases hc;exact he
end
end Go.Ev
