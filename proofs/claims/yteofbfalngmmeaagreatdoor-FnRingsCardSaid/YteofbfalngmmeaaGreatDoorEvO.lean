/- Regions whose operations run in the order of the text. No program occurs here; conditions: what the theorems name. -/
import Derived.Test.YteofbfalngmmeaaGreatDoorEvN
set_option linter.unusedVariables false
set_option linter.unusedSimpArgs false
namespace Go.Ev
open Go
def St (B N:Nat)(g0:Gh)(w0:World)(s:Fr)(a:Act)(w:World):Prop:=a.defers=[]∧s.T.length≤a.tmps.size∧s.X.length=N∧∃ g β,(∀ t,SlotR g β w (s.slot t) (a.eval (.tmp t)))∧Mem g β B (fun b=>s.X.getD b []) s.H w∧Go1 g0 g w0 w∧(∀ t b,β t=some b→w0.heap.size≤b)
def Stable (Ok:Nat→World→Prop):Prop:=∀ B w w',Ok B w→(∀ k,k < B→w'.heap[k]?=w.heap[k]?)→w'.os=w.os→w'.tape=w.tape→w'.output=w.output→w.heap.size≤w'.heap.size→Ok B w'
section
variable {P:Program} {Γ:Ctx} {g g0:Gh} {β:Nat→Option Nat} {w w0:World} {a:Act} {s s':Fr} {o:Oper} {B N:Nat} {H:List Entry} {α:Type}
theorem Stable.go {Ok:Nat→World→Prop}(hS:Stable Ok)(h0:Ok B w0)(hh:HR g0 B H w0)(hB:B≤w0.heap.size)(hg:Go1 g0 g w0 w):Ok B w:=by
 refine hS B w0 w h0 (fun k hk=>hg.frame k (Nat.lt_of_lt_of_le hk hB) (fun h=>h) fun id o ho=>?_) hg.os hg.tape hg.output hg.size
 obtain⟨e,_,he⟩:=hh.ent id o ho
 have:=he.lo
 omega
theorem qrcb (s:Fr)(t:Tmp):s.put (some t) (s.slot t)=s:=by
 simp only[Fr.put,Fr.slot]
 have:s.T.set t (s.T.getD t .undef)=s.T:=by
  apply List.ext_getElem?
  intro i
  by_cases e:t=i
  ·subst e
   by_cases hlt:t < s.T.length
   ·simp[hlt]
   ·simp[hlt]
  ·rw[List.getElem?_set_ne e]
 rw[this]
theorem qazb {d:Option Tmp}{v:Slot}(t:Nat):(s.put d v).slot t=if d=some t∧t < s.T.length then v else s.slot t:=by
 cases d with
 | none=>simp[Fr.put]
 | some d=>
  simp only[Fr.put,Fr.slot,List.getD_eq_getElem?_getD,Option.some.injEq]
  by_cases e:d=t
  ·subst e
   by_cases hlt:d < s.T.length
   ·simp[hlt]
   ·simp[hlt]
  ·rw[List.getElem?_set_ne e]
   simp[e]
theorem eval_put {d:Option Tmp}{v:Value}(t:Nat):(a.put d v).eval (.tmp t)=if d=some t∧t < a.tmps.size then v else a.eval (.tmp t):=by
 cases d with
 | none=>simp[Act.put]
 | some d=>
  simp only[Act.put,Act.eval,Option.some.injEq,Array.getD_eq_getD_getElem?]
  by_cases e:d=t
  ·subst e
   by_cases hlt:d < a.tmps.size
   ·simp[hlt]
   ·simp[hlt]
  ·rw[Array.getElem?_setIfInBounds_ne e]
   simp[e]
theorem SlotR.put {v:Slot}{v':Value}{d:Option Tmp}(ht:∀ t,SlotR g β w (s.slot t) (a.eval (.tmp t)))(hl:s.T.length≤a.tmps.size)(hv:SlotR g β w v v')(t:Nat):
  SlotR g β w ((s.put d v).slot t) ((a.put d v').eval (.tmp t)):=by
 rw[qazb,eval_put]
 by_cases e:d=some t
 ·by_cases hlt:t < s.T.length
  ·rw[if_pos ⟨e,hlt⟩,if_pos ⟨e,Nat.lt_of_lt_of_le hlt hl⟩]
   exact hv
  ·rw[if_neg (fun h=>hlt h.2)]
   have:s.slot t=.undef:=by simp[Fr.slot,List.getD_eq_getElem?_getD,List.getElem?_eq_none (Nat.le_of_not_lt hlt)]
   rw[this]
   exact .undef _
 ·rw[if_neg (fun h=>e h.1),if_neg (fun h=>e h.1)]
  exact ht t
theorem put_defers (d:Option Tmp)(v:Value):(a.put d v).defers=a.defers:=by cases d<;>rfl
theorem qtr (d:Option Tmp)(v:Value):(a.put d v).tmps.size=a.tmps.size:=by cases d<;>simp[Act.put]
theorem qfdc (d:Option Tmp)(v:Slot):(s.put d v).T.length=s.T.length:=by cases d<;>simp[Fr.put]
theorem qym (d:Option Tmp)(v:Slot):(s.put d v).X=s.X:=by cases d<;>rfl
theorem qssb (d:Option Tmp)(v:Slot):(s.put d v).H=s.H:=by cases d<;>rfl
theorem St.skip (h:St B N g0 w0 s a w)(d:Option Tmp):St B N g0 w0 (s.put d .skip) (a.put d undef) w:=by
 obtain⟨h1,h2,h3,g,β,h4,h5,h6,h7⟩:=h
 refine⟨by rw[put_defers];exact h1,by rw[qtr,qfdc];exact h2,by rw[qym];exact h3,g,β,fun t=>SlotR.put h4 h2 .skip t,by rw[qym,qssb];exact h5,h6,h7⟩
def Unmade (fi:FI)(β:Nat→Option Nat)(l:List Oper):Prop:=∀ d∈makes fi l,β d=none
def StU (fi:FI)(l:List Oper)(B N:Nat)(g0:Gh)(w0:World)(s:Fr)(a:Act)(w:World):Prop:=a.defers=[]∧s.T.length≤a.tmps.size∧s.X.length=N∧∃ g β,(∀ t,SlotR g β w (s.slot t) (a.eval (.tmp t)))∧Mem g β B (fun b=>s.X.getD b []) s.H w∧Go1 g0 g w0 w∧(∀ t b,β t=some b→w0.heap.size≤b)∧Unmade fi β l
theorem StU.st {fi:FI}{l:List Oper}(h:StU fi l B N g0 w0 s a w):St B N g0 w0 s a w:=by
 obtain⟨h1,h2,h3,g,β,h4,h5,h6,h7,_⟩:=h
 exact⟨h1,h2,h3,g,β,h4,h5,h6,h7⟩
theorem Unmade.tail {fi:FI}{l:List Oper}(h:Unmade fi β (o::l)):Unmade fi β l:=by
 intro d hd
 refine h d ?_
 simp only[makes,List.filterMap_cons] at hd ⊢
 split
 ·exact hd
 ·exact List.mem_cons_of_mem _ hd
theorem StU.skip {fi:FI}{l:List Oper}(h:StU fi (o::l) B N g0 w0 s a w)(d:Option Tmp):StU fi l B N g0 w0 (s.put d .skip) (a.put d undef) w:=by
 obtain⟨h1,h2,h3,g,β,h4,h5,h6,h7,h8⟩:=h
 exact⟨by rw[put_defers];exact h1,by rw[qtr,qfdc];exact h2,by rw[qym];exact h3,g,β,fun t=>SlotR.put h4 h2 .skip t,by rw[qym,qssb];exact h5,h6,h7,h8.tail⟩
theorem qhk {x:Nat}{xs:List Nat}(h:nodupB (x::xs)=true):x∉xs∧nodupB xs=true:=by
 simp only[nodupB,Bool.and_eq_true,Bool.not_eq_true',List.contains_eq_mem,decide_eq_false_iff_not] at h
 exact h
theorem qgp {fi:FI}{l:List Oper}(h:nodupB (makes fi (o::l))=true):nodupB (makes fi l)=true:=by
 simp only[makes,List.filterMap_cons] at h ⊢
 split at h
 ·exact h
 ·exact(qhk h).2
theorem Xup_eq {fi:FI}{all:List Oper}(h:Turn (touch fi all o) s s'):Xup (touch fi all o) (fun b=>s.X.getD b []) s'=fun b=>s'.X.getD b []:=by
 funext b
 cases hc:touch fi all o with
 | some c=>
  simp only[Xup]
  by_cases e:b=c
  ·rw[e,upd_same]
  ·rw[qbl _ _ _ _ e]
   exact(h.box b (by rw[hc];simp;exact fun h=>e h.symm)).symm
 | none=>
  exact(h.box b (by rw[hc];simp)).symm
theorem StU.op {fi:FI}{ev:FuncId→List AV→List Entry→Option Res}{all l:List Oper}{Ok:Nat→World→Prop}(hΓ:CtxOk P Γ)(hF:FiOk P Γ)(hcall:qlx P Γ ev Ok)(hS:Stable Ok){v:Slot}(hN:∀ d∈fi.locs,d < N)
  (h0:Ok B w0) (hh:HR g0 B H w0) (hB:B≤w0.heap.size) (hnd:nodupB (makes fi (o::l))=true)
  (h:evOp Γ fi ev all o s pair=some (v,s')) (hs:StU fi (o::l) B N g0 w0 s a w):
  ∀ Qx,o.wp P a w (fun a' w'=>StU fi l B N g0 w0 (s'.put o.dst v) a' w') Qx:=by
 intro Qx
 obtain⟨h1,h2,h3,g,β,h4,h5,h6,h7,h8⟩:=hs
 have ht:=qntb v s' h
 have hmade:∀ d,madeOf fi o=some d→β d=none:=fun d hd=>h8 d (by simp[makes,List.filterMap_cons,hd])
 have:=qerd hΓ hF hcall h (by rw[h3];exact hN) (hS.go h0 hh hB h6) (fun t _=>h4 t) h5 (.inl ⟨rfl,rfl⟩) (fun b _=>rfl) hmade Qx
 refine Oper.wp_mono (fun a' w' hp=>?_) this
 obtain⟨v',rfl,g',β',p1,p2,p3,p4,p5,_⟩:=hp
 rw[Xup_eq ht] at p2
 refine⟨by rw[put_defers];exact h1,by rw[qtr,qfdc,ht.tmp];exact h2,by rw[qym,ht.len];exact h3,g',β',fun t=>?_,by rw[qym,qssb];exact p2,?_,?_,?_⟩
 ·refine SlotR.put (s:=s') (fun t=>?_) (by rw[ht.tmp];exact h2) p1 t
  have:s'.slot t=s.slot t:=by simp only[Fr.slot,ht.tmp]
  rw[this]
  exact(h4 t).mono p3.le p4 p3.keep
 ·refine h6.trans' p3 fun k ⟨t,hk⟩=>.inr (h7 t k hk)
 ·intro t b hb
  rcases p5 t b hb with h | ⟨_,h⟩
  ·exact h7 t b h
  ·exact Nat.le_trans h6.size h
 ·intro d hd
  have hd2:d∈makes fi (o::l):=by
   simp only[makes,List.filterMap_cons] at hd ⊢
   split
   ·exact hd
   ·exact List.mem_cons_of_mem _ hd
  cases hb:β' d with
  | none=>rfl
  | some b=>
   rcases p5 d b hb with h | ⟨h,_⟩
   ·rw[h8 d hd2] at h;simp at h
   ·simp only[makes,List.filterMap_cons,h] at hnd
    exact absurd hd (qhk hnd).1
theorem qzz (h:o.guard=none)(y:Nat→Option Bool):Region.wanted o y=true:=by simp[Region.wanted,h]
theorem qfp {gi:Nat}{want:Bool}(h:o.guard=some (gi,want))(y:Nat→Option Bool):Region.wanted o y=(y gi==some want):=by simp[Region.wanted,h]
theorem qfx {ops:Array Oper}{gi:Nat}{t:Tmp}{b:Bool}(hg:gslot ops.toList gi=some t)(h:SlotR g β w (.av (.one (.sc (.bool b)))) (a.eval (.tmp t))):yielded ops a.tmps gi=some b:=by
 have hv:=h.sc
 have hg:(ops[gi]?).bind (·.dst)=some t:=by rw[← hg];simp[gslot]
 simp only[Act.eval,Array.getD_eq_getD_getElem?] at hv
 unfold yielded
 rw[hg]
 cases ht:a.tmps[t]? with
 | none=>rw[ht] at hv;simp[undef] at hv
 | some v=>rw[ht] at hv;simp at hv;subst hv;simp[ht]
theorem qol {ops:Array Oper}{gi:Nat}{t:Tmp}(hg:gslot ops.toList gi=some t)(h:SlotR g β w .skip (a.eval (.tmp t))):yielded ops a.tmps gi=none:=by
 have hv:a.eval (.tmp t)=undef:=by
  generalize a.eval (.tmp t)=x at h
  cases h
  rfl
 have hg:(ops[gi]?).bind (·.dst)=some t:=by rw[← hg];simp[gslot]
 simp only[Act.eval,Array.getD_eq_getD_getElem?] at hv
 unfold yielded
 rw[hg]
 cases ht:a.tmps[t]? with
 | none=>simp[ht]
 | some v=>rw[ht] at hv;simp at hv;subst hv;simp[ht,undef]
theorem qcx {b:Bool}{x y:Option α}{r:α}(h:cond b x y=some r):(b=true∧x=some r)∨(b=false∧y=some r):=by
 cases b
 ·exact .inr ⟨rfl,h⟩
 ·exact .inl ⟨rfl,h⟩
theorem qhg (Γ:Ctx)(fi:FI)(ev:FuncId→List AV→List Entry→Option Res)(all:List Oper)(free:Bool)(o:Oper)(s:Fr)(κ:Slot→Fr→Option α):
  qrt Γ fi ev all free o s κ=(qrt Γ fi ev all free o s pair).bind fun p=>κ p.1 p.2:=by
 cases free with
 | false=>exact qij _ _ _ _ _ _ _
 | true=>
  simp only[qrt,cond_true]
  exact qltc fun v s'=>by cases s'.H<;>rfl
inductive Way (Γ:Ctx)(fi:FI)(ev:FuncId→List AV→List Entry→Option Res)(all:List Oper)(free:Bool)(o:Oper)(s:Fr)(R:Slot→Prop):Fr→Prop
 | plain (hg:o.guard=none) (v:Slot) (s':Fr) (h:qrt Γ fi ev all free o s pair=some (v,s')) (hr:R v):Way Γ fi ev all free o s R (s'.put o.dst v)
 | done (gi:Nat) (want:Bool) (t:Tmp) (hg:o.guard=some (gi,want)) (ht:gslot all gi=some t) (hs:s.slot t=.av (.one (.sc (.bool want)))) (v:Slot) (s':Fr) (h:qrt Γ fi ev all free o s pair=some (v,s')) (hr:R v):Way Γ fi ev all free o s R (s'.put o.dst v)
 | other (gi:Nat) (want b:Bool) (t:Tmp) (hg:o.guard=some (gi,want)) (ht:gslot all gi=some t) (hs:s.slot t=.av (.one (.sc (.bool b)))) (hb:b≠want):Way Γ fi ev all free o s R (s.put o.dst .skip)
 | skip (gi:Nat) (want:Bool) (t:Tmp) (hg:o.guard=some (gi,want)) (ht:gslot all gi=some t) (hs:s.slot t=.skip):Way Γ fi ev all free o s R (s.put o.dst .skip)
theorem qzt {fi:FI}{ev:FuncId→List AV→List Entry→Option Res}{all l:List Oper}{fl:List Bool}{κ:Fr→Option α}{r:α}(h:qss Γ fi ev all fl (o::l) s κ=some r):
  ∃ s',Way Γ fi ev all (fl.headD false) o s (fun _=>True) s'∧qss Γ fi ev all fl.tail l s' κ=some r:=by
 simp only[qss] at h
 split at h
 ·rename_i hg
  rw[qhg] at h
  obtain⟨⟨v,s'⟩,h1,h2⟩:=Option.bind_eq_some_iff.1 h
  exact⟨_,.plain hg v s' h1 trivial,h2⟩
 ·rename_i gi want hg
  split at h
  ·simp at h
  ·rename_i t ht
   split at h
   ·rename_i b hs
    have hput:s.put (some t) (.av (.one (.sc (.bool b))))=s:=by rw[← hs,qrcb]
    rcases qcx h with⟨hb,h2⟩ | ⟨hb,h2⟩
    ·clear h
     subst hb
     rcases qcx h2 with⟨hw,h3⟩ | ⟨hw,h3⟩
     ·subst hw
      rw[qhg,hput] at h3
      obtain⟨⟨v,s'⟩,h1,h2⟩:=Option.bind_eq_some_iff.1 h3
      exact⟨_,.done gi true t hg ht hs v s' h1 trivial,h2⟩
     ·subst hw
      rw[hput] at h3
      exact⟨_,.other gi false true t hg ht hs (by simp),h3⟩
    ·clear h
     subst hb
     rcases qcx h2 with⟨hw,h3⟩ | ⟨hw,h3⟩
     ·subst hw
      rw[hput] at h3
      exact⟨_,.other gi true false t hg ht hs (by simp),h3⟩
     ·subst hw
      rw[qhg,hput] at h3
      obtain⟨⟨v,s'⟩,h1,h2⟩:=Option.bind_eq_some_iff.1 h3
      exact⟨_,.done gi false t hg ht hs v s' h1 trivial,h2⟩
   ·rename_i hs
    exact⟨_,.skip gi want t hg ht hs,h⟩
   ·simp at h
theorem ops_ok {fi:FI}{ev:FuncId→List AV→List Entry→Option Res}{ops:Array Oper}{Ok:Nat→World→Prop}{Q:Exit→Act→World→Prop}{κ:Fr→Option α}{r:α}
  (hΓ:CtxOk P Γ) (hF:FiOk P Γ) (hcall:qlx P Γ ev Ok) (hS:Stable Ok) (hN:∀ d∈fi.locs,d < N) (h0:Ok B w0) (hh:HR g0 B H w0) (hB:B≤w0.heap.size)
  (hQ:∀ s a w,κ s=some r→St B N g0 w0 s a w→Q .normal a w) (l:List Oper):
  ∀ (i:Nat) (s:Fr) (a:Act) (w:World),ops.toList.drop i=l→nodupB (makes fi l)=true→qss Γ fi ev ops.toList [] l s κ=some r→StU fi l B N g0 w0 s a w→wpOps P ops Q (List.range' i l.length) a w:=by
 induction l with
 | nil=>
  intro i s a w _ _ h hs
  simp only[qss] at h
  exact hQ s a w h hs.st
 | cons o l ih=>
  intro i s a w hd hnd h hs
  have ho:ops[i]?=some o:=by
   have:=congrArg (fun x=>x[0]?) hd
   simpa using this
  have hd2:ops.toList.drop (i+1)=l:=by
   rw[← List.tail_drop,hd];rfl
  obtain⟨s1,hw,h⟩:=qzt h
  simp only[List.length_cons,List.range'_succ]
  rw[wpOps_cons]
  simp only[wpOp,ho]
  have hst:=hs
  obtain⟨_,_,_,g,β,h4,_⟩:=hst
  cases hw with
  | plain hg v s' he _=>
   rw[if_pos (qzz hg _)]
   exact .inl (Oper.wp_mono (fun a' w' hh=>ih (i+1) _ a' w' hd2 (qgp hnd) h hh) (hs.op hΓ hF hcall hS hN h0 hh hB hnd he Q))
  | done gi want t hg ht hsl v s' he _=>
   have hy:=qfx ht (by rw[← hsl];exact h4 t)
   rw[if_pos (by rw[qfp hg,hy];simp)]
   exact .inl (Oper.wp_mono (fun a' w' hh=>ih (i+1) _ a' w' hd2 (qgp hnd) h hh) (hs.op hΓ hF hcall hS hN h0 hh hB hnd he Q))
  | other gi want b t hg ht hsl hb=>
   have hy:=qfx ht (by rw[← hsl];exact h4 t)
   rw[if_neg (by rw[qfp hg,hy];simpa using hb)]
   exact ih (i+1) _ _ _ hd2 (qgp hnd) h (hs.skip _)
  | skip gi want t hg ht hsl=>
   have hy:=qol ht (by rw[← hsl];exact h4 t)
   rw[if_neg (by rw[qfp hg,hy];simp)]
   exact ih (i+1) _ _ _ hd2 (qgp hnd) h (hs.skip _)
end
end Go.Ev
