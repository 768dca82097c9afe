/- Conditions: none. -/
import Derived.Test.YtholafaogipaiaaGreatDoorEvT
namespace Go.Ev
open Go
section
variable {P:Program} {Γ:Ctx} {g g0 g':Gh} {β β':Nat→Option Nat} {w w0 w':World} {a:Act} {s s':Fr} {o:Oper} {B N n:Nat} {H Hb Hb':List Entry} {Xf Xf':Nat→List Cell} {α:Type} {all:List Oper} {p:Plan} {S:Nat→Prop} {fi:FI} {st:Nat→Fr}
theorem qst (h:regOk p all=true){j:Nat}(ho:all[j]?=some o):
  (∀ e∈o.after.toList,Region.binds .any e=true→e.on < j)∧
  (∀ i,i < j→before p.anc i j=true→∃ e∈o.after.toList,Region.binds .any e=true∧(e.on=i∨(i < e.on∧before p.anc i e.on=true)))∧
  (∀ i,i < j→clash p i j=true→before p.anc i j=true):=by
 have hj:=(List.getElem?_eq_some_iff.1 ho).1
 simp only[regOk,List.all_eq_true,List.mem_range] at h
 have h:=h j hj
 rw[ho] at h
 simp only[Bool.and_eq_true,List.all_eq_true,List.mem_range,Bool.or_eq_true,Bool.not_eq_true',decide_eq_true_eq,List.any_eq_true,beq_iff_eq] at h
 obtain⟨⟨h1,h2⟩,h3⟩:=h
 refine⟨fun e he hb=>?_,fun i hi hb=>?_,fun i hi hc=>?_⟩
 ·rcases h1 e he with h | h
  ·rw[hb] at h;simp at h
  ·exact h
 ·rcases h2 i hi with h | ⟨e,h4,h5,h6⟩
  ·rw[hb] at h;simp at h
  ·exact⟨e,h4,h5,h6⟩
 ·rcases h3 i hi with h | h
  ·rw[hc] at h;simp at h
  ·exact h
def Closed (all:List Oper)(S:Nat→Prop):Prop:=∀ (j:Nat) o,all[j]?=some o→S j→∀ e∈o.after.toList,Region.binds .any e=true→S e.on
theorem anc_in (h:regOk p all=true)(hc:Closed all S):∀ (j:Nat) (o:Oper),all[j]?=some o→(∀ e∈o.after.toList,Region.binds .any e=true→S e.on)→∀ i,i < j→before p.anc i j=true→S i:=by
 intro j
 induction j using Nat.strongRecOn with
 | _ j ih=>
  intro o ho he i hi hb
  obtain⟨h1,h2,_⟩:=qst h ho
  obtain⟨e,h3,h4,h5⟩:=h2 i hi hb
  rcases h5 with h5 | ⟨h5,h6⟩
  ·rw[← h5];exact he e h3 h4
  ·have hlt:=h1 e h3 h4
   have hj:=(List.getElem?_eq_some_iff.1 ho).1
   obtain⟨o',ho'⟩:∃ o',all[e.on]?=some o':=⟨_,List.getElem?_eq_getElem (by omega)⟩
   exact ih e.on hlt o' ho' (hc e.on o' ho' (he e h3 h4)) i h5 h6
theorem ord (h:regOk p all=true)(hc:Closed all S){i k:Nat}{o ok:Oper}(ho:all[i]?=some o)(hok:all[k]?=some ok)(hS:¬ S i)(he:∀ e∈o.after.toList,Region.binds .any e=true→S e.on)(hne:k≠i)
  (h1:k < i→clash p k i=true) (h2:i < k→clash p i k=true):S k↔k < i:=by
 rcases Nat.lt_or_gt_of_ne hne with hlt | hlt
 ·exact⟨fun _=>hlt,fun _=>anc_in h hc i o ho he k hlt ((qst h ho).2.2 k hlt (h1 hlt))⟩
 ·refine⟨fun hk=>absurd (anc_in h hc k ok hok (hc k ok hok hk) i hlt ((qst h hok).2.2 i hlt (h2 hlt))) hS,fun hk=>by omega⟩
theorem plan_rd {i:Nat}(ho:all[i]?=some o):(qbv Γ fi all).rd.getD i []=readsOf all o:=by simp[qbv,List.getD_eq_getElem?_getD,ho]
theorem qfnb {i:Nat}(ho:all[i]?=some o):(qbv Γ fi all).wr.getD i []=qcc fi all o:=by simp[qbv,List.getD_eq_getElem?_getD,ho]
theorem qks {i:Nat}(ho:all[i]?=some o):(qbv Γ fi all).free.getD i false=freeOf (qbv Γ fi all).anc (all.map (hcls Γ fi all)) i:=by
 have:=(List.getElem?_eq_some_iff.1 ho).1
 simp[qbv,List.getD_eq_getElem?_getD,this]
theorem qzq {i:Nat}(ho:all[i]?=some o):(qbv Γ fi all).eff.getD i 0=effOf (qbv Γ fi all).anc (all.map (hcls Γ fi all)) i:=by
 have:=(List.getElem?_eq_some_iff.1 ho).1
 simp[qbv,List.getD_eq_getElem?_getD,this]
theorem cl_at {i:Nat}(ho:all[i]?=some o):(all.map (hcls Γ fi all)).getD i 3=hcls Γ fi all o:=by simp[List.getD_eq_getElem?_getD,ho]
theorem qvl (h:hcls Γ fi all o≠3):freeable Γ fi o=true:=by
 cases ho:o.op with
 | alloc e=>
  simp only[hcls,freeable,ho] at h ⊢
  split at h
  ·assumption
  ·simp at h
 | box e x=>
  simp only[hcls,freeable,ho] at h ⊢
  split at h
  ·assumption
  ·simp at h
 | call c=>
  simp only[hcls,freeable,ho] at h ⊢
  split at h
  ·split at h
   ·simp at h
   ·rename_i hb _ _
    simp only[hb]
  ·rename_i f hc
   simp only[hc]
   split at h
   ·rename_i q hq
    simp only[hq]
    split at h
    ·rename_i hm
     simp only[hm]
    ·simp at h
   ·simp at h
  ·simp at h
 | makeMap _ _=>simp[hcls,ho] at h
 | lookup _ _ _ _=>simp[hcls,ho] at h
 | mapUpdate _ _ _ _=>simp[hcls,ho] at h
 | _=>simp only[freeable,ho]
theorem hcls_load (h:hcls Γ fi all o=1):Reads o:=by
 unfold hcls at h
 split at h
 ·exact .inl ⟨_,_,by assumption⟩
 ·exact .inr ⟨_,_,_,by assumption⟩
 all_goals (repeat' split at h)<;>simp at h
theorem qtb {i:Nat}(ho:all[i]?=some o)(h:(qbv Γ fi all).free.getD i false=true):freeable Γ fi o=true:=by
 rw[qks ho] at h
 refine qvl (all:=all) fun hc=>?_
 unfold freeOf at h
 rw[cl_at ho,hc] at h
 simp at h
theorem qdnb {i:Nat}(ho:all[i]?=some o)(h:(qbv Γ fi all).eff.getD i 0≠2):(qbv Γ fi all).free.getD i false=true∨Reads o:=by
 rw[qzq ho] at h
 rw[qks ho]
 unfold effOf at h
 split at h
 ·exact .inl (by assumption)
 ·rw[cl_at ho] at h
  split at h
  ·rename_i hl
   exact .inr (hcls_load (by simpa using hl))
  ·simp at h
theorem qqd {i:Nat}(ho:all[i]?=some o)(h:(qbv Γ fi all).free.getD i false=false):(qbv Γ fi all).eff.getD i 0=1∨(qbv Γ fi all).eff.getD i 0=2:=by
 rw[qks ho] at h
 rw[qzq ho]
 unfold effOf
 rw[h]
 simp only[Bool.false_eq_true,if_false]
 split
 ·exact .inl rfl
 ·exact .inr rfl
theorem qkdb {i j:Nat}{oi oj:Oper}{x:Nat}(hi:all[i]?=some oi)(hj:all[j]?=some oj)(h1:x∈qcc fi all oi)(h2:x∈readsOf all oj):clash (qbv Γ fi all) i j=true:=by
 simp only[clash,qfnb hi,plan_rd hj,qbvb h1 h2,Bool.true_or]
theorem qqt {i j:Nat}{oi oj:Oper}{x:Nat}(hi:all[i]?=some oi)(hj:all[j]?=some oj)(h1:x∈qcc fi all oi)(h2:x∈qcc fi all oj):clash (qbv Γ fi all) i j=true:=by
 simp only[clash,qfnb hi,qfnb hj,qbvb h1 h2,Bool.true_or,Bool.or_true]
theorem qhxb {i j:Nat}{oi oj:Oper}{x:Nat}(hi:all[i]?=some oi)(hj:all[j]?=some oj)(h1:x∈readsOf all oi)(h2:x∈qcc fi all oj):clash (qbv Γ fi all) i j=true:=by
 simp only[clash,plan_rd hi,qfnb hj,qbvb h1 h2,Bool.true_or,Bool.or_true]
theorem ord_name (h:regOk (qbv Γ fi all) all=true)(hc:Closed all S){i k x:Nat}{o ok:Oper}(ho:all[i]?=some o)(hok:all[k]?=some ok)(hS:¬ S i)(he:∀ e∈o.after.toList,Region.binds .any e=true→S e.on)(hne:k≠i)
  (hx:x∈readsOf all o∨x∈qcc fi all o) (hk:x∈qcc fi all ok):S k↔k < i:=by
 refine ord h hc ho hok hS he hne (fun _=>?_) (fun _=>?_)
 ·rcases hx with hx | hx
  ·exact qkdb hok ho hk hx
  ·exact qqt hok ho hk hx
 ·rcases hx with hx | hx
  ·exact qhxb ho hok hx hk
  ·exact qqt ho hok hx hk
theorem qxq {i j:Nat}(h1:p.eff.getD i 0=2)(h2:p.eff.getD j 0=1∨p.eff.getD j 0=2):clash p i j=true:=by
 have:(p.eff.getD i 0==2&&p.eff.getD j 0 != 0)=true:=by rcases h2 with h | h<;>rw[h1,h]<;>rfl
 simp only[clash,this,Bool.true_or,Bool.or_true]
theorem qslb {i j:Nat}(h1:p.eff.getD i 0=1)(h2:p.eff.getD j 0=2):clash p i j=true:=by
 have:(p.eff.getD i 0==1&&p.eff.getD j 0==2)=true:=by rw[h1,h2];rfl
 simp only[clash,this,Bool.or_true]
theorem qpab (h:regOk (qbv Γ fi all) all=true)(hc:Closed all S){i k:Nat}{o ok:Oper}(ho:all[i]?=some o)(hok:all[k]?=some ok)(hS:¬ S i)(he:∀ e∈o.after.toList,Region.binds .any e=true→S e.on)(hne:k≠i)
  (hx:(qbv Γ fi all).eff.getD i 0=1∨(qbv Γ fi all).eff.getD i 0=2) (hk:(qbv Γ fi all).eff.getD k 0=2):S k↔k < i:=by
 refine ord h hc ho hok hS he hne (fun _=>qxq hk hx) (fun _=>?_)
 rcases hx with hx | hx
 ·exact qslb hx hk
 ·exact qxq hx (.inr hk)
theorem nodup_at {l:List Oper}(h:nodupB (makes fi l)=true){i k d:Nat}{oi ok:Oper}(hi:l[i]?=some oi)(hk:l[k]?=some ok)(di:madeOf fi oi=some d)(dk:madeOf fi ok=some d):i=k:=by
 have mem:∀ {l:List Oper} {k:Nat} {ok:Oper},l[k]?=some ok→madeOf fi ok=some d→d∈makes fi l:=fun hk dk=>List.mem_filterMap.2 ⟨_,List.mem_of_getElem? hk,dk⟩
 induction l generalizing i k with
 | nil=>simp at hi
 | cons o l ih=>
  cases i with
  | zero=>
   simp at hi;subst hi
   cases k with
   | zero=>rfl
   | succ k=>
    have hk:l[k]?=some ok:=by simpa using hk
    simp only[makes,List.filterMap_cons,di] at h
    exact absurd (mem hk dk) (qgs h).1
  | succ i=>
   have hi:l[i]?=some oi:=by simpa using hi
   cases k with
   | zero=>
    simp at hk;subst hk
    simp only[makes,List.filterMap_cons,dk] at h
    exact absurd (mem hi di) (qgs h).1
   | succ k=>exact congrArg (·+1) (ih (qfn h) hi (by simpa using hk))
end
end Go.Ev
