/- Drawn regions as a whole. No program occurs here; conditions: what the theorems name. -/
import Derived.Test.YteofbfalngmmeaaGreatDoorEvV
namespace Go.Ev
open Go
theorem qksb {p q:Nat→Bool}(l:List Nat)(hle:∀ k,q k=true→p k=true){i:Nat}(hi:i∈l)(hp:p i=true)(hq:q i=false):(l.filter q).length < (l.filter p).length:=by
 have le:∀ l:List Nat,(l.filter q).length≤(l.filter p).length:=by
  intro l
  induction l with
  | nil=>simp
  | cons x l ih=>
   simp only[List.filter_cons]
   cases hqx:q x with
   | true=>simp[hle x hqx];exact ih
   | false=>cases hpx:p x<;>simp<;>omega
 induction l with
 | nil=>simp at hi
 | cons x l ih=>
  simp only[List.filter_cons]
  rcases List.mem_cons.1 hi with rfl | hi
  ·have:=le l
   simp only[hp,hq,if_true,Bool.false_eq_true,if_false,List.length_cons]
   omega
  ·have:=ih hi
   cases hqx:q x with
   | true=>simp[hle x hqx];exact this
   | false=>cases hpx:p x<;>simp<;>omega
section
variable {P:Program} {Γ:Ctx} {g g0 g':Gh} {β β':Nat→Option Nat} {w w0 w':World} {a:Act} {s s':Fr} {o:Oper} {B N n:Nat} {H Hb Hb':List Entry} {Xf Xf':Nat→List Cell} {α:Type} {all:List Oper} {S S':Nat→Prop} {fi:FI} {st:Nat→Fr}
theorem Inv.same (hi:Inv Γ fi all st S B g0 w0 g β Xf Hb a w)(h:∀ k,k < all.length→(S' k↔S k)):Inv Γ fi all st S' B g0 w0 g β Xf Hb a w:=by
 have lt:∀ {i:Nat} {o:Oper},all[i]?=some o→i < all.length:=fun h=>(List.getElem?_eq_some_iff.1 h).1
 refine⟨hi.defers,hi.len,fun t=>?_,fun b=>?_,?_,hi.mem,hi.go,hi.blk,fun i o d ho hS=>hi.unmade i o d ho fun hh=>hS ((h i (lt ho)).2 hh)⟩
 ·obtain⟨m,h1,h2,h3⟩:=hi.tmp t
  exact⟨m,h1,fun i o ho hd=>(h i (lt ho)).trans (h2 i o ho hd),h3⟩
 ·obtain⟨m,h1,h2,h3⟩:=hi.box b
  exact⟨m,h1,fun i o ho hd=>(h i (lt ho)).trans (h2 i o ho hd),h3⟩
 ·obtain⟨m,h1,h2,h3⟩:=hi.heap
  exact⟨m,h1,fun i o ho hd=>(h i (lt ho)).trans (h2 i o ho hd),h3⟩
theorem Inv.end (hi:Inv Γ fi all st S B g0 w0 g β Xf Hb a w)(hs:Steady Γ fi all st)(hX:(st 0).X.length=N)(hall:∀ k,k < all.length→S k):St B N g0 w0 (st all.length) a w:=by
 have lt:∀ {i:Nat} {o:Oper},all[i]?=some o→i < all.length:=fun h=>(List.getElem?_eq_some_iff.1 h).1
 have hl:=hs.lens all.length (Nat.le_refl _)
 refine⟨hi.defers,by rw[hl.1];exact hi.len,hl.2.trans hX,g,β,fun t=>?_,?_,hi.go,hi.blk⟩
 ·obtain⟨m,h1,h2,h3⟩:=hi.tmp t
  rw[hs.slot (m:=all.length) (k:=m) (Nat.le_refl _) h1 fun i o ho hd=>?_]
  ·exact h3
  ·exact⟨fun _=>(h2 i o ho hd).1 (hall i (lt ho)),fun _=>lt ho⟩
 ·have e1:Xf=fun b=>(st all.length).X.getD b []:=by
   funext b
   obtain⟨m,h1,h2,h3⟩:=hi.box b
   rw[h3]
   exact hs.box h1 (Nat.le_refl _) fun i o ho hd=>⟨fun _=>lt ho,fun _=>(h2 i o ho hd).1 (hall i (lt ho))⟩
  have e2:Hb=(st all.length).H:=by
   obtain⟨m,h1,h2,h3⟩:=hi.heap
   rw[h3]
   exact hs.heap h1 (Nat.le_refl _) fun i o ho hd=>⟨fun _=>lt ho,fun _=>(h2 i o ho hd).1 (hall i (lt ho))⟩
  have:=hi.mem
  rw[e1,e2] at this
  exact this
theorem qimc {l:Array Bool}{i k:Nat}(hi:i < l.size):(l.setIfInBounds i true).getD k false=true↔(l.getD k false=true∨k=i):=by
 by_cases e:i=k
 ·subst e
  simp[hi]
 ·rw[getD_set_ne false e]
  exact⟨.inl,fun h=>h.resolve_right fun h=>e h.symm⟩
theorem qnlb {l:Array Bool}{j:Nat}(hj:j < l.size):l.getD j true=l.getD j false:=by simp[hj]
theorem any_ok {fl:Nat→Bool}{ev:FuncId→List AV→List Entry→Option Res}{ops:Array Oper}{Ok:Nat→World→Prop}{Q:Exit→Act→World→Prop}{κ:Fr→Option α}{r:α}
  (hΓ:CtxOk P Γ) (hF:FiOk P Γ) (hcall:qlx P Γ ev Ok) (hS:Stable Ok) (hN:∀ d∈fi.locs,d < N) (h0:Ok B w0) (hh:HR g0 B H w0) (hB:B≤w0.heap.size)
  (hQ:∀ s a w,κ s=some r→St B N g0 w0 s a w→Q .normal a w) (hreg:qlob (qay Γ fi ops.toList) ops.toList=true) (hnd:nodupB (makes fi ops.toList)=true) (hX:(st 0).X.length=N)
  (hs:Steady Γ fi ops.toList st) (hway:∀ (i:Nat) o,ops.toList[i]?=some o→Way Γ fi ev ops.toList (fl i) o (st i) (fun v=>(qay Γ fi ops.toList).free.getD i false=fl i∨qklb Γ fi ev ops.toList st i o v) (st (i+1))) (hend:κ (st ops.toList.length)=some r):
  ∀ (fuel:Nat) (listed:Array Bool) (g:Gh) (β:Nat→Option Nat) (Xf:Nat→List Cell) (Hb:List Entry) (a:Act) (w:World),listed.size=ops.size→
   ((List.range ops.size).filter fun k=>!listed.getD k false).length≤fuel→Closed ops.toList (fun k=>listed.getD k false=true)→
   Inv Γ fi ops.toList st (fun k=>listed.getD k false=true) B g0 w0 g β Xf Hb a w→wpAny P .any ops Q fuel listed a w:=by
 have done:∀ (listed:Array Bool) (g:Gh) (β:Nat→Option Nat) (Xf:Nat→List Cell) (Hb:List Entry) (a:Act) (w:World),listed.size=ops.size→Inv Γ fi ops.toList st (fun k=>listed.getD k false=true) B g0 w0 g β Xf Hb a w→
   Region.ready .any ops listed=[]→Q .normal a w:=by
  intro listed g β Xf Hb a w hsz hi hr
  refine hQ _ a w hend (hi.end hs hX fun k hk=>?_)
  have:∀ j,j < ops.size→listed.getD j false=true:=by
   intro j
   induction j using Nat.strongRecOn with
   | _ j ih=>
    intro hj
    cases hl:listed.getD j false with
    | true=>rfl
    | false=>
     exfalso
     obtain⟨o,ho⟩:∃ o,ops[j]?=some o:=⟨_,Array.getElem?_eq_getElem hj⟩
     have hmem:j∈Region.ready .any ops listed:=mem_ready.2 ⟨by rw[qnlb (by omega)];exact hl,o,ho,fun e he hb=>by
      have:=(qsn hreg (by simpa using ho:ops.toList[j]?=some o)).1 e (by simpa using he) hb
      exact ih e.on this (by omega)⟩
     rw[hr] at hmem
     simp at hmem
  exact this k (by simpa using hk)
 intro fuel
 induction fuel with
 | zero=>
  intro listed g β Xf Hb a w hsz hc hcl hi
  have hr:Region.ready .any ops listed=[]:=by
   rw[List.eq_nil_iff_forall_not_mem]
   intro j hj
   obtain⟨h1,o,ho,_⟩:=mem_ready.1 hj
   have hlt:=(Array.getElem?_eq_some_iff.1 ho).1
   have:j∈(List.range ops.size).filter fun k=>!listed.getD k false:=by
    rw[List.mem_filter]
    exact⟨List.mem_range.2 hlt,by rw[← qnlb (by omega),h1];rfl⟩
   rw[List.length_eq_zero_iff.1 (Nat.le_zero.1 hc)] at this
   simp at this
  exact⟨hr,done listed g β Xf Hb a w hsz hi hr⟩
 | succ fuel ih=>
  intro listed g β Xf Hb a w hsz hc hcl hi
  refine⟨done listed g β Xf Hb a w hsz hi,fun i hmem=>?_⟩
  obtain⟨h1,o,ho,hedge⟩:=mem_ready.1 hmem
  have hlt:=(Array.getElem?_eq_some_iff.1 ho).1
  have hol:ops.toList[i]?=some o:=by simpa using ho
  have hnew:listed.getD i false=false:=by rw[← qnlb (by omega)];exact h1
  have hready:Ready Γ fi ops.toList (fun k=>listed.getD k false=true) i o:=⟨hreg,hnd,hcl,hol,by simp[hnew],fun e he hb=>hedge e (by simpa using he) hb⟩
  have hset:∀ k,(listed.setIfInBounds i true).getD k false=true↔(listed.getD k false=true∨k=i):=fun k=>qimc (by omega)
  have next:∀ (a':Act) (w':World) (g':Gh) (β':Nat→Option Nat) (Xf':Nat→List Cell) (Hb':List Entry),Inv Γ fi ops.toList st (fun k=>listed.getD k false=true∨k=i) B g0 w0 g' β' Xf' Hb' a' w'→
    wpAny P .any ops Q fuel (listed.setIfInBounds i true) a' w':=by
   intro a' w' g' β' Xf' Hb' hi'
   refine ih _ g' β' Xf' Hb' a' w' (by simp[hsz]) ?_ ?_ (hi'.same fun k _=>hset k)
   ·have:=qksb (p:=fun k=>!listed.getD k false) (q:=fun k=>!(listed.setIfInBounds i true).getD k false) (List.range ops.size) (fun k hk=>by
     simp only[Bool.not_eq_true'] at hk ⊢
     cases hl:listed.getD k false with
     | false=>rfl
     | true=>rw[(hset k).2 (.inl hl)] at hk;simp at hk) (List.mem_range.2 hlt) (by rw[hnew];rfl) (by rw[(hset i).2 (.inr rfl)];rfl)
    omega
   ·intro j oj hoj hj e he hb
    rcases (hset j).1 hj with hj | rfl
    ·exact(hset _).2 (.inl (hcl j oj hoj hj e he hb))
    ·rw[hol] at hoj
     simp only[Option.some.injEq] at hoj
     subst hoj
     exact(hset _).2 (.inl (hedge e (by simpa using he) hb))
  have hrun:∀ {v:Slot} {s1:Fr},st (i+1)=s1.put o.dst v→qrt Γ fi ev ops.toList (fl i) o (st i) pair=some (v,s1)→((qay Γ fi ops.toList).free.getD i false=fl i∨qklb Γ fi ev ops.toList st i o v)→o.wp P a w (wpAny P .any ops Q fuel (listed.setIfInBounds i true)) Q:=
   fun hst he hr=>Oper.wp_mono (fun a' w' ⟨g',β',Xf',Hb',hi'⟩=>next a' w' g' β' Xf' Hb' hi') (hi.run hΓ hF hcall hS hN h0 hh hB hs hX hready hst he hr Q)
  simp only[wpOp,ho]
  have hw:=hway i o hol
  generalize hsn:st (i+1)=sn at hw
  cases hw with
  | plain hg v s' he hr=>
   rw[if_pos (qzz hg _)]
   exact .inl (hrun hsn he hr)
  | done gi want t hg ht hsl v s' he hr=>
   have hy:=qfx ht (by rw[← hsl];exact hi.tmp_at hs hready (.inl (qfc hg ht)))
   rw[if_pos (by rw[qfp hg,hy];simp)]
   exact .inl (hrun hsn he hr)
  | other gi want b t hg ht hsl hb=>
   have hy:=qfx ht (by rw[← hsl];exact hi.tmp_at hs hready (.inl (qfc hg ht)))
   rw[if_neg (by rw[qfp hg,hy];simpa using hb)]
   exact next _ _ _ _ _ _ (hi.pass hs hready hsn)
  | skip gi want t hg ht hsl=>
   have hy:=qol ht (by rw[← hsl];exact hi.tmp_at hs hready (.inl (qfc hg ht)))
   rw[if_neg (by rw[qfp hg,hy];simp)]
   exact next _ _ _ _ _ _ (hi.pass hs hready hsn)
theorem qdrb {fl:Nat→Bool}{ev:FuncId→List AV→List Entry→Option Res}{ops:Array Oper}{Ok:Nat→World→Prop}{Q:Exit→Act→World→Prop}{κ:Fr→Option α}{r:α}{id:Nat}
  (hmix:P.follows .mixedOrders=true) (hΓ:CtxOk P Γ) (hF:FiOk P Γ) (hcall:qlx P Γ ev Ok) (hS:Stable Ok) (hN:∀ d∈fi.locs,d < N) (h0:Ok B w0) (hh:HR g0 B H w0) (hB:B≤w0.heap.size)
  (hQ:∀ s a w,κ s=some r→St B N g0 w0 s a w→Q .normal a w) (hreg:qlob (qay Γ fi ops.toList) ops.toList=true) (hnd:nodupB (makes fi ops.toList)=true)
  (e0:st 0=s) (hst:Steady Γ fi ops.toList st) (hway:∀ (i:Nat) o,ops.toList[i]?=some o→Way Γ fi ev ops.toList (fl i) o (st i) (fun v=>(qay Γ fi ops.toList).free.getD i false=fl i∨qklb Γ fi ev ops.toList st i o v) (st (i+1))) (hend:κ (st ops.toList.length)=some r)
  (hs:StU fi ops.toList B N g0 w0 s a w):(Code.region id ops true).wp P Q a w:=by
 obtain⟨h1,h2,h3,g,β,h4,h5,h6,h7,h8⟩:=hs
 have no:∀ k,¬ ((Array.replicate ops.size false).getD k false=true):=by
  intro k hk
  simp only[Array.getD_eq_getD_getElem?,Array.getElem?_replicate] at hk
  split at hk<;>simp at hk
 refine wp_region_any hmix (any_ok (st:=st) hΓ hF hcall hS hN h0 hh hB hQ hreg hnd (by rw[e0];exact h3) hst hway hend ops.size (Array.replicate ops.size false) g β (fun b=>s.X.getD b []) s.H a w.drew (by simp) ?_ ?_ ?_)
 ·exact Nat.le_trans (List.length_filter_le _ _) (by simp)
 ·exact fun j o ho hj=>absurd hj (no j)
 ·refine⟨h1,by rw[e0];exact h2,fun t=>⟨0,Nat.zero_le _,fun i o _ _=>⟨fun hh=>absurd hh (no i),fun hh=>absurd hh (Nat.not_lt_zero _)⟩,by rw[e0];exact(h4 t).mono (.refl g) (fun _ _ h=>h) (Go1.drew g w).keep⟩,
   fun b=>⟨0,Nat.zero_le _,fun i o _ _=>⟨fun hh=>absurd hh (no i),fun hh=>absurd hh (Nat.not_lt_zero _)⟩,by rw[e0]⟩,⟨0,Nat.zero_le _,fun i o _ _=>⟨fun hh=>absurd hh (no i),fun hh=>absurd hh (Nat.not_lt_zero _)⟩,by rw[e0]⟩,
   h5.drew,h6.trans (Go1.drew g w),h7,fun i o d ho _ hd=>h8 d (List.mem_filterMap.2 ⟨o,List.mem_of_getElem? ho,hd⟩)⟩
theorem qmvc {ev:FuncId→List AV→List Entry→Option Res}{ops:Array Oper}{Ok:Nat→World→Prop}{Q:Exit→Act→World→Prop}{κ:Fr→Option α}{r:α}{id:Nat}
  (hmix:P.follows .mixedOrders=true) (hΓ:CtxOk P Γ) (hF:FiOk P Γ) (hcall:qlx P Γ ev Ok) (hS:Stable Ok) (hN:∀ d∈fi.locs,d < N) (h0:Ok B w0) (hh:HR g0 B H w0) (hB:B≤w0.heap.size)
  (hQ:∀ s a w,κ s=some r→St B N g0 w0 s a w→Q .normal a w) (hreg:qlob (qay Γ fi ops.toList) ops.toList=true) (hnd:nodupB (makes fi ops.toList)=true)
  (h:qss Γ fi ev ops.toList (qay Γ fi ops.toList).free ops.toList s κ=some r) (hs:StU fi ops.toList B N g0 w0 s a w):(Code.region id ops true).wp P Q a w:=by
 obtain⟨st,e0,hway,hend⟩:=trace _ _ _ h
 exact qdrb hmix hΓ hF hcall hS hN h0 hh hB hQ hreg hnd e0 (fun i o ho=>(hway i o ho).stays fun _ _=>.inl rfl) (fun i o ho=>(hway i o ho).mono fun _ _=>.inl rfl) hend hs
theorem qvyb {ev:FuncId→List AV→List Entry→Option Res}{ops:Array Oper}{Ok:Nat→World→Prop}{Q:Exit→Act→World→Prop}{κ:Fr→Option α}{r:α}{id:Nat}
  (hmix:P.follows .mixedOrders=true) (hΓ:CtxOk P Γ) (hF:FiOk P Γ) (hcall:qlx P Γ ev Ok) (hS:Stable Ok) (hN:∀ d∈fi.locs,d < N) (h0:Ok B w0) (hh:HR g0 B H w0) (hB:B≤w0.heap.size)
  (hQ:∀ s a w,κ s=some r→St B N g0 w0 s a w→Q .normal a w) (hreg:qlob (qay Γ fi ops.toList) ops.toList=true) (hnd:nodupB (makes fi ops.toList)=true)
  (h:qgh Γ fi ev ops.toList (qay Γ fi ops.toList) 0 ops.toList s [] [] κ=some r) (hs:StU fi ops.toList B N g0 w0 s a w):(Code.region id ops true).wp P Q a w:=by
 obtain⟨st,hs',ld',e0,hway,k2,k3,_,_,k6⟩:=traceL _ _ _ _ _ h
 simp only[Nat.zero_add] at hway k2 k3
 obtain⟨hend,hc⟩:=qacd k6
 have hload:∀ {i:Nat} {o:Oper},qlu Γ fi (qay Γ fi ops.toList) ops.toList i o=true→Reads o:=fun hl=>by
  unfold qlu at hl
  simp only[Bool.and_eq_true] at hl
  obtain⟨_,_,hop⟩:=hl
  split at hop
  ·exact .inl ⟨_,_,by assumption⟩
  ·simp at hop
 have hst:Steady Γ fi ops.toList st:=fun i o ho=>(hway i o ho).stays fun _ _=>by
  unfold qlpb
  cases hl:qlu Γ fi (qay Γ fi ops.toList) ops.toList i o with
  | false=>exact .inl rfl
  | true=>exact .inr (hload hl)
 let fl:Nat→Bool:=fun i=>match ops.toList[i]? with
  | some o=>qlpb Γ fi (qay Γ fi ops.toList) ops.toList i o
  | none=>false
 have hfl:∀ {i:Nat} {o:Oper},ops.toList[i]?=some o→fl i=qlpb Γ fi (qay Γ fi ops.toList) ops.toList i o:=fun {i o} ho=>by
  simp only[fl,ho]
 refine qdrb (fl:=fl) hmix hΓ hF hcall hS hN h0 hh hB hQ hreg hnd e0 hst (fun i o ho=>?_) hend hs
 rw[hfl ho]
 cases hl:qlu Γ fi (qay Γ fi ops.toList) ops.toList i o with
 | false=>
  have hf:qlpb Γ fi (qay Γ fi ops.toList) ops.toList i o=(qay Γ fi ops.toList).free.getD i false:=by unfold qlpb;rw[hl];rfl
  rw[hf]
  have:=hway i o ho
  rw[hf] at this
  exact this.mono fun _ _=>.inl rfl
 | true=>
  have hf:qlpb Γ fi (qay Γ fi ops.toList) ops.toList i o=false:=by unfold qlpb;rw[hl];rfl
  rw[hf]
  have hw:=hway i o ho
  rw[hf] at hw
  have key:∀ {v:Slot} {s':Fr},qrt Γ fi ev ops.toList false o (st i) pair=some (v,s')→(qlu Γ fi (qay Γ fi ops.toList) ops.toList i o=true→(i,o,st i,v)∈ld')→qklb Γ fi ev ops.toList st i o v:=fun {v s'} he hm=>
   qxcb hst ho hl he k2 k3 fun x hx hn=>hc _ (hm hl) x hx hn
  generalize hsn:st (i+1)=sn at hw ⊢
  cases hw with
  | plain hg v s' he hr=>exact .plain hg v s' he (.inr (key he hr))
  | done gi want t hg ht hsl v s' he hr=>exact .done gi want t hg ht hsl v s' he (.inr (key he hr))
  | other gi want b t hg ht hsl hb=>exact .other gi want b t hg ht hsl hb
  | skip gi want t hg ht hsl=>exact .skip gi want t hg ht hsl
end
end Go.Ev
