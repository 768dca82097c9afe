/- Regions whose operations may run in many orders: whatever the order, the end is that of the text. No program occurs here; conditions: what the theorems name. -/
import Derived.Test.YteofbfalngmmeaaGreatDoorEvT
namespace Go.Ev
open Go
section
variable {P:Program} {Γ:Ctx} {g g0 g':Gh} {β β':Nat→Option Nat} {w w0 w':World} {a:Act} {s s':Fr} {o:Oper} {B N n:Nat} {H Hb Hb':List Entry} {Xf Xf':Nat→List Cell} {α:Type} {all:List Oper} {p:Plan} {S:Nat→Prop} {fi:FI} {st:Nat→Fr}
theorem qsn (h:qlob p all=true){j:Nat}(ho:all[j]?=some o):
  (∀ e∈o.after.toList,Region.binds .any e=true→e.on < j)∧
  (∀ i,i < j→before p.anc i j=true→∃ e∈o.after.toList,Region.binds .any e=true∧(e.on=i∨(i < e.on∧before p.anc i e.on=true)))∧
  (∀ i,i < j→clash p i j=true→before p.anc i j=true):=by
 have hj:=(List.getElem?_eq_some_iff.1 ho).1
 simp only[qlob,List.all_eq_true,List.mem_range] at h
 have h:=h j hj
 rw[ho] at h
 simp only[Bool.and_eq_true,List.all_eq_true,List.mem_range,Bool.or_eq_true,Bool.not_eq_true',decide_eq_true_eq,List.any_eq_true,beq_iff_eq] at h
 obtain⟨⟨h1,h2⟩,h3⟩:=h
 refine⟨fun e he hb=>?_,fun i hi hb=>?_,fun i hi hc=>?_⟩
 ·rcases h1 e he with h | h
  ·rw[hb] at h;simp at h
  ·exact h
 ·rcases h2 i hi with h | ⟨e,h4,h5,h6⟩
  ·rw[hb] at h;simp at h
  ·exact⟨e,h4,h5,h6⟩
 ·rcases h3 i hi with h | h
  ·rw[hc] at h;simp at h
  ·exact h
def Closed (all:List Oper)(S:Nat→Prop):Prop:=∀ (j:Nat) o,all[j]?=some o→S j→∀ e∈o.after.toList,Region.binds .any e=true→S e.on
theorem qbmc (h:qlob p all=true)(hc:Closed all S):∀ (j:Nat) (o:Oper),all[j]?=some o→(∀ e∈o.after.toList,Region.binds .any e=true→S e.on)→∀ i,i < j→before p.anc i j=true→S i:=by
 intro j
 induction j using Nat.strongRecOn with
 | _ j ih=>
  intro o ho he i hi hb
  obtain⟨h1,h2,_⟩:=qsn h ho
  obtain⟨e,h3,h4,h5⟩:=h2 i hi hb
  rcases h5 with h5 | ⟨h5,h6⟩
  ·rw[← h5];exact he e h3 h4
  ·have hlt:=h1 e h3 h4
   have hj:=(List.getElem?_eq_some_iff.1 ho).1
   obtain⟨o',ho'⟩:∃ o',all[e.on]?=some o':=⟨_,List.getElem?_eq_getElem (by omega)⟩
   exact ih e.on hlt o' ho' (hc e.on o' ho' (he e h3 h4)) i h5 h6
theorem ord (h:qlob p all=true)(hc:Closed all S){i k:Nat}{o ok:Oper}(ho:all[i]?=some o)(hok:all[k]?=some ok)(hS:¬ S i)(he:∀ e∈o.after.toList,Region.binds .any e=true→S e.on)(hne:k≠i)
  (h1:k < i→clash p k i=true) (h2:i < k→clash p i k=true):S k↔k < i:=by
 rcases Nat.lt_or_gt_of_ne hne with hlt | hlt
 ·exact⟨fun _=>hlt,fun _=>qbmc h hc i o ho he k hlt ((qsn h ho).2.2 k hlt (h1 hlt))⟩
 ·refine⟨fun hk=>absurd (qbmc h hc k ok hok (hc k ok hok hk) i hlt ((qsn h hok).2.2 i hlt (h2 hlt))) hS,fun hk=>by omega⟩
theorem qdzc {i:Nat}(ho:all[i]?=some o):(qay Γ fi all).rd.getD i []=readsOf all o:=by simp[qay,List.getD_eq_getElem?_getD,ho]
theorem qgsb {i:Nat}(ho:all[i]?=some o):(qay Γ fi all).wr.getD i []=qcl fi all o:=by simp[qay,List.getD_eq_getElem?_getD,ho]
theorem qiw {i:Nat}(ho:all[i]?=some o):(qay Γ fi all).free.getD i false=qccc (qay Γ fi all).anc (all.map (hcls Γ fi all)) i:=by
 have:=(List.getElem?_eq_some_iff.1 ho).1
 simp[qay,List.getD_eq_getElem?_getD,this]
theorem qte {i:Nat}(ho:all[i]?=some o):(qay Γ fi all).eff.getD i 0=qsic (qay Γ fi all).anc (all.map (hcls Γ fi all)) i:=by
 have:=(List.getElem?_eq_some_iff.1 ho).1
 simp[qay,List.getD_eq_getElem?_getD,this]
theorem cl_at {i:Nat}(ho:all[i]?=some o):(all.map (hcls Γ fi all)).getD i 3=hcls Γ fi all o:=by simp[List.getD_eq_getElem?_getD,ho]
theorem que (h:hcls Γ fi all o≠3):freeable Γ fi o=true:=by
 cases ho:o.op with
 | alloc e=>
  simp only[hcls,freeable,ho] at h ⊢
  split at h
  ·assumption
  ·simp at h
 | box e x=>
  simp only[hcls,freeable,ho] at h ⊢
  split at h
  ·assumption
  ·simp at h
 | call c=>
  simp only[hcls,freeable,ho] at h ⊢
  split at h
  ·split at h
   ·simp at h
   ·rename_i hb _ _
    simp only[hb]
  ·rename_i f hc
   simp only[hc]
   split at h
   ·rename_i q hq
    simp only[hq]
    split at h
    ·rename_i hm
     simp only[hm]
    ·simp at h
   ·simp at h
  ·simp at h
 | makeMap _ _=>simp[hcls,ho] at h
 | lookup _ _ _ _=>simp[hcls,ho] at h
 | mapUpdate _ _ _ _=>simp[hcls,ho] at h
 | _=>simp only[freeable,ho]
theorem qwkb (h:hcls Γ fi all o=1):Reads o:=by
 unfold hcls at h
 split at h
 ·exact .inl ⟨_,_,by assumption⟩
 ·exact .inr ⟨_,_,_,by assumption⟩
 all_goals (repeat' split at h)<;>simp at h
theorem qxb {i:Nat}(ho:all[i]?=some o)(h:(qay Γ fi all).free.getD i false=true):freeable Γ fi o=true:=by
 rw[qiw ho] at h
 refine que (all:=all) fun hc=>?_
 unfold qccc at h
 rw[cl_at ho,hc] at h
 simp at h
theorem qhfb {i:Nat}(ho:all[i]?=some o)(h:(qay Γ fi all).eff.getD i 0≠2):(qay Γ fi all).free.getD i false=true∨Reads o:=by
 rw[qte ho] at h
 rw[qiw ho]
 unfold qsic at h
 split at h
 ·exact .inl (by assumption)
 ·rw[cl_at ho] at h
  split at h
  ·rename_i hl
   exact .inr (qwkb (by simpa using hl))
  ·simp at h
theorem qqk {i:Nat}(ho:all[i]?=some o)(h:(qay Γ fi all).free.getD i false=false):(qay Γ fi all).eff.getD i 0=1∨(qay Γ fi all).eff.getD i 0=2:=by
 rw[qiw ho] at h
 rw[qte ho]
 unfold qsic
 rw[h]
 simp only[Bool.false_eq_true,if_false]
 split
 ·exact .inl rfl
 ·exact .inr rfl
theorem qidb {i j:Nat}{oi oj:Oper}{x:Nat}(hi:all[i]?=some oi)(hj:all[j]?=some oj)(h1:x∈qcl fi all oi)(h2:x∈readsOf all oj):clash (qay Γ fi all) i j=true:=by
 simp only[clash,qgsb hi,qdzc hj,qakb h1 h2,Bool.true_or]
theorem qsb {i j:Nat}{oi oj:Oper}{x:Nat}(hi:all[i]?=some oi)(hj:all[j]?=some oj)(h1:x∈qcl fi all oi)(h2:x∈qcl fi all oj):clash (qay Γ fi all) i j=true:=by
 simp only[clash,qgsb hi,qgsb hj,qakb h1 h2,Bool.true_or,Bool.or_true]
theorem qkhb {i j:Nat}{oi oj:Oper}{x:Nat}(hi:all[i]?=some oi)(hj:all[j]?=some oj)(h1:x∈readsOf all oi)(h2:x∈qcl fi all oj):clash (qay Γ fi all) i j=true:=by
 simp only[clash,qdzc hi,qgsb hj,qakb h1 h2,Bool.true_or,Bool.or_true]
theorem qoic (h:qlob (qay Γ fi all) all=true)(hc:Closed all S){i k x:Nat}{o ok:Oper}(ho:all[i]?=some o)(hok:all[k]?=some ok)(hS:¬ S i)(he:∀ e∈o.after.toList,Region.binds .any e=true→S e.on)(hne:k≠i)
  (hx:x∈readsOf all o∨x∈qcl fi all o) (hk:x∈qcl fi all ok):S k↔k < i:=by
 refine ord h hc ho hok hS he hne (fun _=>?_) (fun _=>?_)
 ·rcases hx with hx | hx
  ·exact qidb hok ho hk hx
  ·exact qsb hok ho hk hx
 ·rcases hx with hx | hx
  ·exact qkhb ho hok hx hk
  ·exact qsb ho hok hx hk
theorem qyf {i j:Nat}(h1:p.eff.getD i 0=2)(h2:p.eff.getD j 0=1∨p.eff.getD j 0=2):clash p i j=true:=by
 have:(p.eff.getD i 0==2&&p.eff.getD j 0 != 0)=true:=by rcases h2 with h | h<;>rw[h1,h]<;>rfl
 simp only[clash,this,Bool.true_or,Bool.or_true]
theorem qskb {i j:Nat}(h1:p.eff.getD i 0=1)(h2:p.eff.getD j 0=2):clash p i j=true:=by
 have:(p.eff.getD i 0==1&&p.eff.getD j 0==2)=true:=by rw[h1,h2];rfl
 simp only[clash,this,Bool.or_true]
theorem qncb (h:qlob (qay Γ fi all) all=true)(hc:Closed all S){i k:Nat}{o ok:Oper}(ho:all[i]?=some o)(hok:all[k]?=some ok)(hS:¬ S i)(he:∀ e∈o.after.toList,Region.binds .any e=true→S e.on)(hne:k≠i)
  (hx:(qay Γ fi all).eff.getD i 0=1∨(qay Γ fi all).eff.getD i 0=2) (hk:(qay Γ fi all).eff.getD k 0=2):S k↔k < i:=by
 refine ord h hc ho hok hS he hne (fun _=>qyf hk hx) (fun _=>?_)
 rcases hx with hx | hx
 ·exact qskb hx hk
 ·exact qyf hx (.inr hk)
theorem qqoc {l:List Oper}(h:nodupB (makes fi l)=true){i k d:Nat}{oi ok:Oper}(hi:l[i]?=some oi)(hk:l[k]?=some ok)(di:madeOf fi oi=some d)(dk:madeOf fi ok=some d):i=k:=by
 have mem:∀ {l:List Oper} {k:Nat} {ok:Oper},l[k]?=some ok→madeOf fi ok=some d→d∈makes fi l:=fun hk dk=>List.mem_filterMap.2 ⟨_,List.mem_of_getElem? hk,dk⟩
 induction l generalizing i k with
 | nil=>simp at hi
 | cons o l ih=>
  cases i with
  | zero=>
   simp at hi;subst hi
   cases k with
   | zero=>rfl
   | succ k=>
    have hk:l[k]?=some ok:=by simpa using hk
    simp only[makes,List.filterMap_cons,di] at h
    exact absurd (mem hk dk) (qhk h).1
  | succ i=>
   have hi:l[i]?=some oi:=by simpa using hi
   cases k with
   | zero=>
    simp at hk;subst hk
    simp only[makes,List.filterMap_cons,dk] at h
    exact absurd (mem hi di) (qhk h).1
   | succ k=>exact congrArg (·+1) (ih (qgp h) hi (by simpa using hk))
end
end Go.Ev
