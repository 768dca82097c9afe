/- Regions whose operations may run in many orders: whatever the order, the end is that of the text. No program occurs here; conditions: what the theorems name. -/
import Derived.Test.YteofbfalngmmeaaDoorEvT
namespace Go.Ev
open Go
section
variable {P:Program} {Γ:Ctx} {g g0 g':Gh} {β β':Nat→Option Nat} {w w0 w':World} {a:Act} {s s':Fr} {o:Oper} {B N n:Nat} {H Hb Hb':List Entry} {Xf Xf':Nat→List Cell} {α:Type} {all:List Oper} {p:Plan} {S:Nat→Prop} {fi:FI} {st:Nat→Fr}
theorem qmt (h:qzi p all=true){j:Nat}(ho:all[j]?=some o):
  (∀ e∈o.after.toList,Region.binds .any e=true→e.on < j)∧
  (∀ i,i < j→before p.anc i j=true→∃ e∈o.after.toList,Region.binds .any e=true∧(e.on=i∨(i < e.on∧before p.anc i e.on=true)))∧
  (∀ i,i < j→clash p i j=true→before p.anc i j=true):=by
 have hj:=(List.getElem?_eq_some_iff.1 ho).1
 simp only[qzi,List.all_eq_true,List.mem_range] at h
 have h:=h j hj
 rw[ho] at h
 simp only[Bool.and_eq_true,List.all_eq_true,List.mem_range,Bool.or_eq_true,Bool.not_eq_true',decide_eq_true_eq,List.any_eq_true,beq_iff_eq] at h
 obtain⟨⟨h1,h2⟩,h3⟩:=h
 refine⟨fun e he hb=>?_,fun i hi hb=>?_,fun i hi hc=>?_⟩
 ·rcases h1 e he with h | h
  ·rw[hb] at h;simp at h
  ·exact h
 ·rcases h2 i hi with h | ⟨e,h4,h5,h6⟩
  ·rw[hb] at h;simp at h
  ·exact⟨e,h4,h5,h6⟩
 ·rcases h3 i hi with h | h
  ·rw[hc] at h;simp at h
  ·exact h
def Closed (all:List Oper)(S:Nat→Prop):Prop:=∀ (j:Nat) o,all[j]?=some o→S j→∀ e∈o.after.toList,Region.binds .any e=true→S e.on
theorem qeub (h:qzi p all=true)(hc:Closed all S):∀ (j:Nat) (o:Oper),all[j]?=some o→(∀ e∈o.after.toList,Region.binds .any e=true→S e.on)→∀ i,i < j→before p.anc i j=true→S i:=by
 intro j
 induction j using Nat.strongRecOn with
 | _ j ih=>
  intro o ho he i hi hb
  obtain⟨h1,h2,_⟩:=qmt h ho
  obtain⟨e,h3,h4,h5⟩:=h2 i hi hb
  rcases h5 with h5 | ⟨h5,h6⟩
  ·rw[← h5];exact he e h3 h4
  ·have hlt:=h1 e h3 h4
   have hj:=(List.getElem?_eq_some_iff.1 ho).1
   obtain⟨o',ho'⟩:∃ o',all[e.on]?=some o':=⟨_,List.getElem?_eq_getElem (by omega)⟩
   exact ih e.on hlt o' ho' (hc e.on o' ho' (he e h3 h4)) i h5 h6
theorem ord (h:qzi p all=true)(hc:Closed all S){i k:Nat}{o ok:Oper}(ho:all[i]?=some o)(hok:all[k]?=some ok)(hS:¬ S i)(he:∀ e∈o.after.toList,Region.binds .any e=true→S e.on)(hne:k≠i)
  (h1:k < i→clash p k i=true) (h2:i < k→clash p i k=true):S k↔k < i:=by
 rcases Nat.lt_or_gt_of_ne hne with hlt | hlt
 ·exact⟨fun _=>hlt,fun _=>qeub h hc i o ho he k hlt ((qmt h ho).2.2 k hlt (h1 hlt))⟩
 ·refine⟨fun hk=>absurd (qeub h hc k ok hok (hc k ok hok hk) i hlt ((qmt h hok).2.2 i hlt (h2 hlt))) hS,fun hk=>by omega⟩
theorem qlvb {i:Nat}(ho:all[i]?=some o):(qal Γ fi all).rd.getD i []=readsOf all o:=by simp[qal,List.getD_eq_getElem?_getD,ho]
theorem qvs {i:Nat}(ho:all[i]?=some o):(qal Γ fi all).wr.getD i []=qbg fi all o:=by simp[qal,List.getD_eq_getElem?_getD,ho]
theorem qgc {i:Nat}(ho:all[i]?=some o):(qal Γ fi all).free.getD i false=qkjb (qal Γ fi all).anc (all.map (hcls Γ fi all)) i:=by
 have:=(List.getElem?_eq_some_iff.1 ho).1
 simp[qal,List.getD_eq_getElem?_getD,this]
theorem qme {i:Nat}(ho:all[i]?=some o):(qal Γ fi all).eff.getD i 0=quqb (qal Γ fi all).anc (all.map (hcls Γ fi all)) i:=by
 have:=(List.getElem?_eq_some_iff.1 ho).1
 simp[qal,List.getD_eq_getElem?_getD,this]
theorem cl_at {i:Nat}(ho:all[i]?=some o):(all.map (hcls Γ fi all)).getD i 3=hcls Γ fi all o:=by simp[List.getD_eq_getElem?_getD,ho]
theorem qqh (h:hcls Γ fi all o≠3):freeable Γ fi o=true:=by
 cases ho:o.op with
 | alloc e=>
  simp only[hcls,freeable,ho] at h ⊢
  split at h
  ·assumption
  ·simp at h
 | box e x=>
  simp only[hcls,freeable,ho] at h ⊢
  split at h
  ·assumption
  ·simp at h
 | call c=>
  simp only[hcls,freeable,ho] at h ⊢
  split at h
  ·split at h
   ·simp at h
   ·rename_i hb _ _
    simp only[hb]
  ·rename_i f hc
   simp only[hc]
   split at h
   ·rename_i q hq
    simp only[hq]
    split at h
    ·rename_i hm
     simp only[hm]
    ·simp at h
   ·simp at h
  ·simp at h
 | makeMap _ _=>simp[hcls,ho] at h
 | lookup _ _ _ _=>simp[hcls,ho] at h
 | mapUpdate _ _ _ _=>simp[hcls,ho] at h
 | _=>simp only[freeable,ho]
theorem qlbb (h:hcls Γ fi all o=1):Reads o:=by
 unfold hcls at h
 split at h
 ·exact .inl ⟨_,_,by assumption⟩
 ·exact .inr ⟨_,_,_,by assumption⟩
 all_goals (repeat' split at h)<;>simp at h
theorem qna {i:Nat}(ho:all[i]?=some o)(h:(qal Γ fi all).free.getD i false=true):freeable Γ fi o=true:=by
 rw[qgc ho] at h
 refine qqh (all:=all) fun hc=>?_
 unfold qkjb at h
 rw[cl_at ho,hc] at h
 simp at h
theorem quk {i:Nat}(ho:all[i]?=some o)(h:(qal Γ fi all).eff.getD i 0≠2):(qal Γ fi all).free.getD i false=true∨Reads o:=by
 rw[qme ho] at h
 rw[qgc ho]
 unfold quqb at h
 split at h
 ·exact .inl (by assumption)
 ·rw[cl_at ho] at h
  split at h
  ·rename_i hl
   exact .inr (qlbb (by simpa using hl))
  ·simp at h
theorem qkl {i:Nat}(ho:all[i]?=some o)(h:(qal Γ fi all).free.getD i false=false):(qal Γ fi all).eff.getD i 0=1∨(qal Γ fi all).eff.getD i 0=2:=by
 rw[qgc ho] at h
 rw[qme ho]
 unfold quqb
 rw[h]
 simp only[Bool.false_eq_true,if_false]
 split
 ·exact .inl rfl
 ·exact .inr rfl
theorem qyj {i j:Nat}{oi oj:Oper}{x:Nat}(hi:all[i]?=some oi)(hj:all[j]?=some oj)(h1:x∈qbg fi all oi)(h2:x∈readsOf all oj):clash (qal Γ fi all) i j=true:=by
 simp only[clash,qvs hi,qlvb hj,qrt h1 h2,Bool.true_or]
theorem qld {i j:Nat}{oi oj:Oper}{x:Nat}(hi:all[i]?=some oi)(hj:all[j]?=some oj)(h1:x∈qbg fi all oi)(h2:x∈qbg fi all oj):clash (qal Γ fi all) i j=true:=by
 simp only[clash,qvs hi,qvs hj,qrt h1 h2,Bool.true_or,Bool.or_true]
theorem qyt {i j:Nat}{oi oj:Oper}{x:Nat}(hi:all[i]?=some oi)(hj:all[j]?=some oj)(h1:x∈readsOf all oi)(h2:x∈qbg fi all oj):clash (qal Γ fi all) i j=true:=by
 simp only[clash,qlvb hi,qvs hj,qrt h1 h2,Bool.true_or,Bool.or_true]
theorem qsrb (h:qzi (qal Γ fi all) all=true)(hc:Closed all S){i k x:Nat}{o ok:Oper}(ho:all[i]?=some o)(hok:all[k]?=some ok)(hS:¬ S i)(he:∀ e∈o.after.toList,Region.binds .any e=true→S e.on)(hne:k≠i)
  (hx:x∈readsOf all o∨x∈qbg fi all o) (hk:x∈qbg fi all ok):S k↔k < i:=by
 refine ord h hc ho hok hS he hne (fun _=>?_) (fun _=>?_)
 ·rcases hx with hx | hx
  ·exact qyj hok ho hk hx
  ·exact qld hok ho hk hx
 ·rcases hx with hx | hx
  ·exact qyt ho hok hx hk
  ·exact qld ho hok hx hk
theorem qou {i j:Nat}(h1:p.eff.getD i 0=2)(h2:p.eff.getD j 0=1∨p.eff.getD j 0=2):clash p i j=true:=by
 have:(p.eff.getD i 0==2&&p.eff.getD j 0 != 0)=true:=by rcases h2 with h | h<;>rw[h1,h]<;>rfl
 simp only[clash,this,Bool.true_or,Bool.or_true]
theorem qejb {i j:Nat}(h1:p.eff.getD i 0=1)(h2:p.eff.getD j 0=2):clash p i j=true:=by
 have:(p.eff.getD i 0==1&&p.eff.getD j 0==2)=true:=by rw[h1,h2];rfl
 simp only[clash,this,Bool.or_true]
theorem qcmb (h:qzi (qal Γ fi all) all=true)(hc:Closed all S){i k:Nat}{o ok:Oper}(ho:all[i]?=some o)(hok:all[k]?=some ok)(hS:¬ S i)(he:∀ e∈o.after.toList,Region.binds .any e=true→S e.on)(hne:k≠i)
  (hx:(qal Γ fi all).eff.getD i 0=1∨(qal Γ fi all).eff.getD i 0=2) (hk:(qal Γ fi all).eff.getD k 0=2):S k↔k < i:=by
 refine ord h hc ho hok hS he hne (fun _=>qou hk hx) (fun _=>?_)
 rcases hx with hx | hx
 ·exact qejb hx hk
 ·exact qou hx (.inr hk)
theorem qpbb {l:List Oper}(h:nodupB (makes fi l)=true){i k d:Nat}{oi ok:Oper}(hi:l[i]?=some oi)(hk:l[k]?=some ok)(di:madeOf fi oi=some d)(dk:madeOf fi ok=some d):i=k:=by
 have mem:∀ {l:List Oper} {k:Nat} {ok:Oper},l[k]?=some ok→madeOf fi ok=some d→d∈makes fi l:=fun hk dk=>List.mem_filterMap.2 ⟨_,List.mem_of_getElem? hk,dk⟩
 induction l generalizing i k with
 | nil=>simp at hi
 | cons o l ih=>
  cases i with
  | zero=>
   simp at hi;subst hi
   cases k with
   | zero=>rfl
   | succ k=>
    have hk:l[k]?=some ok:=by simpa using hk
    simp only[makes,List.filterMap_cons,di] at h
    exact absurd (mem hk dk) (qeo h).1
  | succ i=>
   have hi:l[i]?=some oi:=by simpa using hi
   cases k with
   | zero=>
    simp at hk;subst hk
    simp only[makes,List.filterMap_cons,dk] at h
    exact absurd (mem hi di) (qeo h).1
   | succ k=>exact congrArg (·+1) (ih (qec h) hi (by simpa using hk))
end
end Go.Ev
