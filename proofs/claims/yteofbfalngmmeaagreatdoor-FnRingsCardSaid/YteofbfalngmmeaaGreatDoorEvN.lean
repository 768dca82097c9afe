/- Every operation of the evaluator is sound, given that calls are. No program occurs here; conditions: what the theorem names. -/
import Derived.Test.YteofbfalngmmeaaGreatDoorEvW
namespace Go.Ev
open Go
def freeable (Γ:Ctx)(fi:FI)(o:Oper):Bool:=
 match o.op with
 | .alloc _=>(madeOf fi o).isSome
 | .box _ _=>(madeOf fi o).isSome
 | .makeMap _ _=>false
 | .lookup _ _ _ _=>false
 | .mapUpdate _ _ _ _=>false
 | .call c=>match c.callee with
  | .builtin b=>match b with
   | .append=>false
   | _=>true
  | .value (.func f)=>match Γ.fi f with
   | some q=>match q.mode with
    | .pure=>true
    | _=>false
   | none=>false
  | _=>false
 | _=>true
def Xup (t:Option Tmp)(Xf:Nat→List Cell)(s':Fr):Nat→List Cell:=
 match t with
 | some b=>upd Xf b (s'.X.getD b [])
 | none=>Xf
section
variable {P:Program} {Γ:Ctx} {g:Gh} {β:Nat→Option Nat} {w:World} {a:Act} {s s':Fr} {o:Oper} {B:Nat} {H Hb Hb':List Entry} {Xf:Nat→List Cell}
def HRel (Γ:Ctx)(fi:FI)(o:Oper)(H H' Hb Hb':List Entry):Prop:=(Hb=H∧Hb'=H')∨(freeable Γ fi o=true∧H=[]∧H'=[]∧Hb'=Hb)
theorem HRel.keep {fi:FI}(h:HRel Γ fi o H H Hb Hb'):Hb'=Hb:=by
 rcases h with⟨h1,h2⟩ | ⟨_,_,_,h⟩
 ·rw[h2,h1]
 ·exact h
theorem HRel.le {fi:FI}{H':List Entry}(h:HRel Γ fi o H H' Hb Hb'):HLe H Hb:=by
 rcases h with⟨h1,h2⟩ | ⟨_,h1,_,_⟩
 ·rw[h1];exact .refl _
 ·rw[h1];intro id e he;simp at he
theorem qqgc {t:Option Tmp}(h:∀ b,t=some b→Xf b=s'.X.getD b []):Xup t Xf s'=Xf:=by
 unfold Xup
 split
 ·rename_i b
  funext k
  by_cases e:k=b
  ·rw[e,upd_same,h b rfl]
  ·rw[qbl _ _ _ _ e]
 ·rfl
structure FiOk (P:Program)(Γ:Ctx):Prop where
 call:∀ f q,Γ.fi f=some q→∀ args w,(callFunc f args).run P w=.ok (.enter f args) w
 code:∀ f q,Γ.fi f=some q→Γ.prim f=none→∃ fn,P.funcs[f]?=some fn∧fn.body=some q.code∧fn.ntmps=q.ntmps∧fn.results.toList=q.res∧∀ d∈q.locs,d < q.ntmps
def qlx (P:Program)(Γ:Ctx)(ev:FuncId→List AV→List Entry→Option Res)(Ok:Nat→World→Prop):Prop:=∀ (f:FuncId) (args:List AV) (H H':List Entry) (v:Slot),callK Γ ev f args H (fun v H=>some (v,H))=some (v,H')→∀ (g:Gh) (β:Nat→Option Nat) (w:World) (B:Nat) (Xf:Nat→List Cell) (Hb Hb':List Entry) (vs:List Value),Ok B w→Mem g β B Xf Hb w→AL g w args vs→((Hb=H∧Hb'=H')∨((∃ q,Γ.fi f=some q∧q.mode=.pure)∧H=[]∧H'=[]∧Hb'=Hb))→Calls P f vs.toArray w fun e w'=>∃ v',e=.returned v'∧Post g β B Xf H H' Hb' w none v v' w'
theorem qomc (c:Call):(c.args.toList.map a.eval).toArray=c.args.map a.eval:=(qis c).symm
theorem fn_run {f:FuncId}{first caps:List Cell}{x:Value}(h:R g w (.fn f first caps) x):∃ us vs:List Value,x=.func (.func f) us.toArray vs.toArray∧RL g w first us∧RL g w caps vs:=by
 cases h with
 | fn _ _ _ fv cv hf hc=>
  have key:∀ (l:List Cell) (val:Nat→Value),(∀ (j:Nat) c,l[j]?=some c→R g w c (val j))→RL g w l ((List.range l.length).map val):=by
   intro l val hv
   refine RL.of_get (by simp) fun i c v h1 h2=>?_
   have hlt:=(List.getElem?_eq_some_iff.1 h1).1
   rw[List.getElem?_map,List.getElem?_range hlt] at h2
   simp only[Option.map_some,Option.some.injEq] at h2
   rw[← h2]
   exact hv i c h1
  exact⟨_,_,rfl,key first fv hf,key caps cv hc⟩
theorem RL.ones {cs:List Cell}{vs:List Value}(h:RL g w cs vs):AL g w (cs.map .one) vs:=by
 induction h with
 | nil=>exact All2.nil
 | cons a _ ih=>exact All2.cons (.one _ _ a) ih
theorem qgpc {xs:List Operand}{ts:List TypeId}{x y:Cell}(h:opds Γ s ts xs=[.av (.one x),.av (.one y)]):
  ∃ xo yo,xs=[xo,yo]∧opd Γ s (ts.headD 0) xo=.av (.one x)∧opd Γ s (ts.tail.headD 0) yo=.av (.one y):=by
 cases xs with
 | nil=>simp[opds] at h
 | cons a xs=>cases xs with
  | nil=>simp[opds] at h
  | cons b xs=>cases xs with
   | nil=>simp[opds] at h;exact⟨a,b,rfl,by simpa using h.1,by simpa using h.2⟩
   | cons _ _=>simp[opds] at h
theorem qrlb {x:Slot}{n:Int}(h:intK x some=some n):x=.av (.one (.sc (.int .i64 n))):=by
 unfold intK at h
 split at h
 ·simp only[Option.some.injEq] at h;rw[h]
 ·simp at h
theorem qklc {cs cs':List Cell}(h:restK cs some=some cs'):cs'=cs∧∀ c∈cs,qfkb c=some c:=by
 have key:∀ {c c':Cell},qfkb c=some c'→c'=c:=by
  intro c c' h
  cases c<;>simp[qfkb] at h<;>exact h.symm
 unfold restK at h
 split at h
 ·rename_i ds hd
  simp only[Option.some.injEq] at h
  subst h
  induction cs generalizing ds with
  | nil=>simp[mapO] at hd;simp[hd]
  | cons c cs ih=>
   simp only[mapO] at hd
   split at hd
   ·rename_i y hy
    split at hd
    ·rename_i ys hys
     simp only[Option.some.injEq] at hd
     subst hd
     obtain⟨e,hall⟩:=ih _ hys
     have e1:=key hy
     subst e1
     subst e
     exact⟨rfl,fun c hc=>by rcases List.mem_cons.1 hc with rfl | hc;exact hy;exact hall c hc⟩
    ·simp at hd
   ·simp at hd
 ·simp at h
theorem qnvb {sz n:Nat}{cs row:List Cell}{c:Cell}(h:row∈chunks sz n cs)(hc:c∈row):c∈cs:=by
 induction n generalizing cs with
 | zero=>simp[chunks] at h
 | succ n ih=>
  simp only[chunks,List.mem_cons] at h
  rcases h with rfl | h
  ·exact List.mem_of_mem_take hc
  ·exact List.mem_of_mem_drop (ih h)
theorem RL.mem {cs:List Cell}{vs:List Value}(h:RL g w cs vs){c:Cell}(hc:c∈cs):∃ v,v∈vs∧R g w c v:=by
 obtain⟨i,hi⟩:=List.getElem?_of_mem hc
 obtain⟨v,h1,h2⟩:=h.get hi
 exact⟨v,List.mem_of_getElem? h1,h2⟩
theorem qerd {fi:FI}{ev:FuncId→List AV→List Entry→Option Res}{all:List Oper}{Ok:Nat→World→Prop}(hΓ:CtxOk P Γ)(hF:FiOk P Γ)(hcall:qlx P Γ ev Ok){v:Slot}(h:evOp Γ fi ev all o s pair=some (v,s'))
  (hN:∀ d∈fi.locs,d < s.X.length) (hOk:Ok B w) (hl:Looks g β w s a o.op.operands.toList) (hm:Mem g β B Xf Hb w) (hH:HRel Γ fi o s.H s'.H Hb Hb') (hX:∀ b,qlqb all o=some b→Xf b=s.X.getD b [])
  (hβ:∀ d,madeOf fi o=some d→β d=none):
  qea P a o w (Post g β B (Xup (touch fi all o) Xf s') s.H s'.H Hb' w (madeOf fi o) v):=by
 have hpure:∀ {v':Slot},pair v' s=some (v,s')→Yl P a w o g β v'→touch fi all o=none→madeOf fi o=none→
   qea P a o w (Post g β B (Xup (touch fi all o) Xf s') s.H s'.H Hb' w (madeOf fi o) v):=by
  intro v' e yl ht hmd
  simp only[Ev.pair,Option.some.injEq,Prod.mk.injEq] at e
  obtain⟨rfl,rfl⟩:=e
  rw[ht,hmd,hH.keep]
  exact yl.runs hm
 unfold evOp at h
 split at h
 ·rename_i x ho
  have ht:touch fi all o=none:=by simp only[touch,ho,madeOf]
  have hmd:madeOf fi o=none:=by simp only[ho,madeOf]
  split at h
  ·simp at h
  ·obtain⟨v',e,yl⟩:=quy (P:=P) (κ:=pair) (.inl ho) hl h
   exact hpure e yl ht hmd
 ·rename_i x ho
  have ht:touch fi all o=none:=by simp only[touch,ho,madeOf]
  have hmd:madeOf fi o=none:=by simp only[ho,madeOf]
  split at h
  ·simp at h
  ·obtain⟨v',e,yl⟩:=quy (P:=P) (κ:=pair) (.inr ho) hl h
   exact hpure e yl ht hmd
 ·rename_i c x y ho
  have ht:touch fi all o=none:=by simp only[touch,ho,madeOf]
  have hmd:madeOf fi o=none:=by simp only[ho,madeOf]
  split at h
  ·rename_i b hc
   have hh:cond b (pair (opd Γ s o.type x) s) (pair (opd Γ s o.type y) s)=some (v,s'):=by
    cases b<;>simp only[cond_true,cond_false] at h ⊢<;>split at h<;>first | exact h | simp at h
   obtain⟨v',e,yl⟩:=qqbb (P:=P) (κ:=pair) ho hl hc hh
   exact hpure e yl ht hmd
  ·simp at h
 ·rename_i e ho
  split at h
  ·rename_i q d hq hd
   have hs:=qqx (a:=a) (H:=s.H) (Xf:=Xf) (d:=d) hΓ ho hq hm
   split at h
   ·rename_i hc
    have hmd:madeOf fi o=some d:=by simp only[ho,madeOf,hd];rw[if_pos hc]
    have ht:touch fi all o=some d:=by simp only[touch,ho];exact hmd
    simp only[Ev.pair,Option.some.injEq,Prod.mk.injEq] at h
    obtain⟨rfl,rfl⟩:=h
    have hk:Hb'=Hb:=hH.keep
    rw[ht,hmd,hk]
    simp only[Xup]
    rw[qahb (hN d (by simpa using hc))]
    exact hs.1 (hβ d hmd)
   ·rename_i hc
    have hmd:madeOf fi o=none:=by simp only[ho,madeOf,hd];rw[if_neg hc]
    have ht:touch fi all o=none:=by simp only[touch,ho];exact hmd
    split at h
    ·rename_i b hb
     simp only[Ev.pair,Option.some.injEq,Prod.mk.injEq] at h
     obtain⟨rfl,rfl⟩:=h
     rw[ht,hmd]
     rcases hH with⟨h1,h2⟩ | ⟨h1,_⟩
     ·rw[h2]
      subst h1
      exact qcbd hΓ ho hq hb hm
     ·simp[freeable,ho,hmd] at h1
    ·simp only[Ev.pair,Option.some.injEq,Prod.mk.injEq] at h
     obtain⟨rfl,rfl⟩:=h
     rw[ht,hmd]
     rcases hH with⟨h1,h2⟩ | ⟨h1,_⟩
     ·rw[h2]
      subst h1
      exact(qqx (H:=s.H) (d:=d) hΓ ho hq (hm.more (.append _ _))).2 (.refl _) (hm.fresh (Nat.le_refl _))
     ·simp[freeable,ho,hmd] at h1
  ·simp at h
 ·rename_i t ho
  have ht:touch fi all o=none:=by simp only[touch,ho,madeOf]
  have hmd:madeOf fi o=none:=by simp only[ho,madeOf]
  rw[ht,hmd]
  split at h
  ·simp only[Ev.pair,Option.some.injEq,Prod.mk.injEq] at h
   obtain⟨rfl,rfl⟩:=h
   rcases hH with⟨h1,h2⟩ | ⟨h1,_⟩
   ·rw[h2]
    subst h1
    exact qvuc ho hm
   ·simp[freeable,ho] at h1
  ·simp at h
 ·rename_i t x i ho
  have ht:touch fi all o=none:=by simp only[touch,ho,madeOf]
  have hmd:madeOf fi o=none:=by simp only[ho,madeOf]
  rw[ht,hmd]
  split at h
  ·rename_i c k hti hx hi
   obtain⟨n,hn,h7⟩:=Option.bind_eq_some_iff.1 h
   simp only[Ev.pair,Option.some.injEq,Prod.mk.injEq] at h7
   obtain⟨rfl,rfl⟩:=h7
   obtain⟨id,ep,rfl,hn⟩:=qnkb hn
   rcases hH with⟨h1,h2⟩ | ⟨h1,_⟩
   ·rw[h2]
    subst h1
    exact qceb hΓ ho hl hti hx hi hn hm
   ·simp[freeable,ho] at h1
  ·simp at h
 ·rename_i t x i y ho
  have ht:touch fi all o=none:=by simp only[touch,ho,madeOf]
  have hmd:madeOf fi o=none:=by simp only[ho,madeOf]
  rw[ht,hmd]
  split at h
  ·rename_i c k hti hx hi
   rw[qhf] at h
   obtain⟨n,hn,h⟩:=Option.bind_eq_some_iff.1 h
   obtain⟨H',hH',h7⟩:=Option.bind_eq_some_iff.1 h
   simp only[Ev.pair,Option.some.injEq,Prod.mk.injEq] at h7
   obtain⟨rfl,rfl⟩:=h7
   obtain⟨id,ep,rfl,hH'⟩:=qjob hH'
   rcases hH with⟨h1,h2⟩ | ⟨h1,_⟩
   ·rw[h2]
    subst h1
    exact qqh hΓ ho hl hti hx hi (qrlb hn) hH' hm
   ·simp[freeable,ho] at h1
  ·simp at h
 ·rename_i e x ho
  split at h
  ·rename_i q d y hq hd hx
   split at h
   ·rename_i hsz
    have hs:=qflb (P:=P) (H:=s.H) (Xf:=Xf) (d:=d) ho hl hx hsz hm
    split at h
    ·rename_i hc
     have hmd:madeOf fi o=some d:=by simp only[ho,madeOf,hd];rw[if_pos hc]
     have ht:touch fi all o=some d:=by simp only[touch,ho];exact hmd
     simp only[Ev.pair,Option.some.injEq,Prod.mk.injEq] at h
     obtain⟨rfl,rfl⟩:=h
     have hk:Hb'=Hb:=hH.keep
     rw[ht,hmd,hk]
     simp only[Xup]
     rw[qahb (hN d (by simpa using hc))]
     exact hs.1 (hβ d hmd)
    ·rename_i hc
     have hmd:madeOf fi o=none:=by simp only[ho,madeOf,hd];rw[if_neg hc]
     have ht:touch fi all o=none:=by simp only[touch,ho];exact hmd
     simp only[Ev.pair,Option.some.injEq,Prod.mk.injEq] at h
     obtain⟨rfl,rfl⟩:=h
     rw[ht,hmd]
     rcases hH with⟨h1,h2⟩ | ⟨h1,_⟩
     ·rw[h2]
      subst h1
      exact(qflb (P:=P) (H:=s.H) (d:=d) ho hl hx hsz (hm.more (.append _ _))).2 (.refl _) (hm.fresh (Nat.le_refl _))
     ·simp[freeable,ho,hmd] at h1
   ·simp at h
  ·simp at h
 ·rename_i t ps ho
  have ht:touch fi all o=none:=by simp only[touch,ho,madeOf]
  have hmd:madeOf fi o=none:=by simp only[ho,madeOf]
  obtain⟨v',e,yl⟩:=qldb (P:=P) (κ:=fun v=>pair v s) hΓ ho hl h
  exact hpure e yl ht hmd
 ·rename_i t n ps ho
  have ht:touch fi all o=none:=by simp only[touch,ho,madeOf]
  have hmd:madeOf fi o=none:=by simp only[ho,madeOf]
  rw[ht,hmd]
  split at h
  ·rename_i e _ _ _ _ htq
   split at h
   ·rename_i q hq
    split at h
    ·rename_i hn
     rw[qhd] at h
     obtain⟨qs,hqs,h⟩:=Option.bind_eq_some_iff.1 h
     split at h
     ·rename_i cs hcs
      obtain⟨rows,vs,e1,e2,e3,e4,e5⟩:=qnm (P:=P) (κ:=fun rows=>some rows) (r:=chunks q.size n cs) hΓ ho hl htq rfl hq hn (by rw[qhd,hqs];simp[hcs])
      simp only[Option.some.injEq] at e1
      subst e1
      split at h
      ·simp only[Ev.pair,Option.some.injEq,Prod.mk.injEq] at h
       obtain⟨rfl,rfl⟩:=h
       rcases hH with⟨h1,h2⟩ | ⟨_,_,h1,_⟩
       ·rw[h2]
        subst h1
        refine .value e5 ?_
        have:=qqqb (rest:=[]) (cap:=n) (hm.more (.append s.H [⟨q.size,chunks q.size n cs,0,false⟩])) e2 e3 e4 (Nat.le_refl _) (by rw[e4.length,qbf e3,e2];simp) e (.refl _) (hm.fresh (Nat.le_refl _))
        simp only[List.append_nil] at this
        exact this
       ·simp[Fr.setH] at h1
      ·rw[qmd] at h
       obtain⟨cs',hr,h⟩:=Option.bind_eq_some_iff.1 h
       simp only[Ev.pair,Option.some.injEq,Prod.mk.injEq] at h
       obtain⟨rfl,rfl⟩:=h
       obtain⟨rfl,hp⟩:=qklc hr
       have hk:Hb'=Hb:=hH.keep
       rw[hk]
       refine .value e5 ?_
       have:=qbrd (H:=s.H) hm e3 e4 (fun row hrow c hc=>by
        obtain⟨v,_,hv⟩:=e4.mem (List.mem_flatten.2 ⟨row,hrow,hc⟩)
        exact(qwl hv (hp c (qnvb hrow hc))).2) e
       rw[e2] at this
       exact this
     ·simp at h
    ·simp at h
   ·simp at h
  ·simp at h
 ·rename_i t x ho
  have ht:touch fi all o=none:=by simp only[touch,ho,madeOf]
  have hmd:madeOf fi o=none:=by simp only[ho,madeOf]
  obtain⟨v',e,yl⟩:=qpbb (P:=P) (κ:=fun v=>pair (.av v) s) hΓ ho hl hm hH.le hX h
  exact hpure e yl ht hmd
 ·rename_i t x y ho
  have ht:touch fi all o=qlqb all o:=by simp only[touch,ho]
  have hmd:madeOf fi o=none:=by simp only[ho,madeOf]
  rw[ht,hmd]
  split at h
  ·rename_i q u hq hu
   split at h
   ·rename_i hsz
    split at h
    ·rename_i b off hx
     split at h
     ·rename_i hb
      simp only[Ev.pair,Option.some.injEq,Prod.mk.injEq] at h
      obtain⟨rfl,rfl⟩:=h
      have hk:Hb'=Hb:=hH.keep
      have hXb:=hX b hb.1
      have hlt:b < s.X.length:=by
       rcases Nat.lt_or_ge b s.X.length with h | h
       ·exact h
       ·have hp:=(hΓ.ty _ _ hq).pos
        have:=hb.2
        rw[List.getD_eq_getElem?_getD,List.getElem?_eq_none h] at this
        simp at this
        omega
      rw[hb.1,hk]
      simp only[Xup]
      rw[qahb hlt,← hXb]
      exact qqj hΓ ho hl hq hu hsz hx (by rw[hXb];exact hb.2) hm
     ·simp at h
    ·rename_i c hx
     obtain⟨H',hs,h⟩:=Option.bind_eq_some_iff.1 h
     simp only[Ev.pair,Option.some.injEq,Prod.mk.injEq] at h
     obtain⟨rfl,rfl⟩:=h
     rw[qqgc (s':=s.setH H') fun b hb=>hX b hb]
     rcases hH with⟨h1,h2⟩ | ⟨h1,h2,_⟩
     ·rw[h2]
      subst h1
      exact qqp hΓ ho hl hq hu hsz hx hs hm
     ·rw[h2] at hs
      cases c<;>simp[qbu,entry?] at hs
    ·simp at h
   ·simp at h
  ·simp at h
 ·rename_i x ho
  have ht:touch fi all o=none:=by simp only[touch,ho,madeOf]
  have hmd:madeOf fi o=none:=by simp only[ho,madeOf]
  obtain⟨v',e,yl⟩:=qtj (P:=P) (κ:=fun v=>pair v s) ho hl h
  exact hpure e yl ht hmd
 ·rename_i op t x y t' ho
  have ht:touch fi all o=none:=by simp only[touch,ho,madeOf]
  have hmd:madeOf fi o=none:=by simp only[ho,madeOf]
  split at h
  ·obtain⟨v',e,yl⟩:=qalc (P:=P) (κ:=fun v=>pair v s) hΓ ho hl h
   exact hpure e yl ht hmd
  ·obtain⟨v',e,yl⟩:=qtdb (P:=P) (κ:=fun v=>pair v s) hΓ ho hl h
   exact hpure e yl ht hmd
 ·rename_i op t x ho
  have ht:touch fi all o=none:=by simp only[touch,ho,madeOf]
  have hmd:madeOf fi o=none:=by simp only[ho,madeOf]
  obtain⟨v',e,yl⟩:=qqfc (P:=P) (κ:=fun v=>pair v s) ho hl h
  exact hpure e yl ht hmd
 ·rename_i src dst x ho
  have ht:touch fi all o=none:=by simp only[touch,ho,madeOf]
  have hmd:madeOf fi o=none:=by simp only[ho,madeOf]
  unfold qhxc at h
  split at h
  ·rename_i q1 q2 hs hd
   split at h
   ·rename_i k k' n hk hx
    exact hpure h (qgc (P:=P) hΓ ho hl hs hd (.inl ⟨_,_,_,hk,hx,rfl⟩)) ht hmd
   ·rename_i b hk1 hk2 hx
    exact hpure h (qgc (P:=P) hΓ ho hl hs hd (.inr ⟨_,hk2,hk1,hx,rfl⟩)) ht hmd
   ·rename_i e c hk1 hk2 hx
    split at h
    ·rename_i hty
     obtain⟨b,hb,h⟩:=Option.bind_eq_some_iff.1 h
     exact hpure h (qor (P:=P) hΓ hm hH.le ho hl hs hd hk1 hk2 hty hx hb) ht hmd
    ·simp at h
   ·simp at h
  ·simp at h
 ·rename_i fn first captured ho
  have ht:touch fi all o=none:=by simp only[touch,ho,madeOf]
  have hmd:madeOf fi o=none:=by simp only[ho,madeOf]
  obtain⟨v',e,yl⟩:=qtw (P:=P) (κ:=fun v=>pair v s) ho hl h
  exact hpure e yl ht hmd
 ·rename_i t l c ho
  have ht:touch fi all o=none:=by simp only[touch,ho,madeOf]
  have hmd:madeOf fi o=none:=by simp only[ho,madeOf]
  rw[ht,hmd]
  split at h
  ·rename_i e _ _ _ _ htq
   split at h
   ·rename_i q hq
    rw[qhf] at h
    obtain⟨n,hn,h⟩:=Option.bind_eq_some_iff.1 h
    rw[qhf] at h
    obtain⟨m,hm',h⟩:=Option.bind_eq_some_iff.1 h
    split at h
    ·rename_i hb
     simp only[Ev.pair,Option.some.injEq,Prod.mk.injEq] at h
     obtain⟨rfl,rfl⟩:=h
     rcases hH with⟨h1,h2⟩ | ⟨_,_,h1,_⟩
     ·rw[h2]
      subst h1
      exact qqs hΓ ho hl htq rfl hq (qrlb hn) (qrlb hm') hb (hm.more (.append _ _)) (.refl _) (hm.fresh (Nat.le_refl _))
     ·simp[Fr.setH] at h1
    ·simp at h
   ·simp at h
  ·simp at h
 ·rename_i t x lo hi mx ho
  have ht:touch fi all o=none:=by simp only[touch,ho,madeOf]
  have hmd:madeOf fi o=none:=by simp only[ho,madeOf]
  obtain⟨v',e,yl⟩:=qinb (P:=P) (κ:=fun v=>pair v s) hΓ ho hl h
  exact hpure e yl ht hmd
 ·rename_i t x f ho
  have ht:touch fi all o=none:=by simp only[touch,ho,madeOf]
  have hmd:madeOf fi o=none:=by simp only[ho,madeOf]
  obtain⟨v',e,yl⟩:=qqm (P:=P) (κ:=fun v=>pair v s) hΓ ho hl h
  exact hpure e yl ht hmd
 ·rename_i t x f ho
  have ht:touch fi all o=none:=by simp only[touch,ho,madeOf]
  have hmd:madeOf fi o=none:=by simp only[ho,madeOf]
  obtain⟨v',e,yl⟩:=qlfb (P:=P) (κ:=fun v=>pair v s) hΓ ho hl h
  exact hpure e yl ht hmd
 ·rename_i t x i ho
  have ht:touch fi all o=none:=by simp only[touch,ho,madeOf]
  have hmd:madeOf fi o=none:=by simp only[ho,madeOf]
  obtain⟨v',e,yl⟩:=qqq (P:=P) (κ:=fun v=>pair v s) hΓ ho hl h
  exact hpure e yl ht hmd
 ·rename_i t x i ho
  have ht:touch fi all o=none:=by simp only[touch,ho,madeOf]
  have hmd:madeOf fi o=none:=by simp only[ho,madeOf]
  obtain⟨v',e,yl⟩:=qkib (P:=P) (κ:=fun v=>pair v s) hΓ ho hl h
  exact hpure e yl ht hmd
 ·rename_i x i ho
  have ht:touch fi all o=none:=by simp only[touch,ho,madeOf]
  have hmd:madeOf fi o=none:=by simp only[ho,madeOf]
  obtain⟨v',e,yl⟩:=qxc (P:=P) (κ:=fun v=>pair v s) ho hl h
  exact hpure e yl ht hmd
 ·rename_i c ho
  have ht:touch fi all o=none:=by simp only[touch,ho,madeOf]
  have hmd:madeOf fi o=none:=by simp only[ho,madeOf]
  split at h
  ·rename_i b hc
   by_cases hb:b=.append
   ·subst hb
    have hnf:freeable Γ fi o=false:=by simp[freeable,ho,hc]
    rw[ht,hmd]
    unfold qfv at h
    split at h
    ·contradiction
    ·rename_i t u ts x y hts hops
     split at h
     ·rename_i e _ _ _ _ uq htq huq
      split at h
      ·rename_i q hq
       split at h
       ·rename_i hpos
        obtain⟨ys,hys,h⟩:=Option.bind_eq_some_iff.1 h
        obtain⟨p,hp,h⟩:=Option.bind_eq_some_iff.1 h
        simp only[Ev.pair,Option.some.injEq,Prod.mk.injEq] at h
        obtain⟨rfl,rfl⟩:=h
        obtain⟨xo,yo,hargs,hx,hy⟩:=qgpc hops
        rcases hH with⟨h1,h2⟩ | ⟨h1,_⟩
        ·rw[h2]
         subst h1
         exact qcgb hΓ ho hc hts hargs hl htq rfl huq hpos.2 hq hpos.1 (by rw[hts] at hx;exact hx) (by rw[hts] at hy;exact hy) hys hp hm
        ·rw[hnf] at h1;simp at h1
       ·simp at h
      ·simp at h
     ·simp at h
    all_goals first | contradiction | (simp at h;done)
   ·have hb3:b=.len∨b=.max∨b=.min:=by
     unfold qfv at h
     split at h
     ·exact .inl rfl
     ·exact absurd rfl hb
     ·exact .inr (.inl rfl)
     ·exact .inr (.inr rfl)
     ·simp at h
    obtain⟨v',e,yl⟩:=qjz (P:=P) (κ:=pair) hΓ ho hc hb3 hl h
    exact hpure e yl ht hmd
  ·rename_i fo hc
   split at h
   ·rename_i args hargs
    split at h
    ·rename_i f first caps hfn
     rw[qme] at h
     obtain⟨⟨v',H'⟩,hk,h⟩:=Option.bind_eq_some_iff.1 h
     simp only[Ev.pair,Option.some.injEq,Prod.mk.injEq] at h
     obtain⟨rfl,rfl⟩:=h
     rw[ht,hmd]
     have hal:=qyc hl (qbyb c ho) hargs
     have h1:=qfg (Γ:=Γ) hl 0 (x:=fo) (by rw[ho];simp[Op.operands,Call.operands,hc])
     rw[hfn] at h1
     obtain⟨us,ws,e1,r1,r2⟩:=fn_run h1.one
     have hin:∃ q,Γ.fi f=some q:=by
      unfold callK at hk
      split at hk
      ·exact⟨_,by assumption⟩
      ·simp at hk
     obtain⟨q,hq⟩:=hin
     have hrun:(execOp a.eval o).run P w=.ok (.enter f (us++c.args.toList.map a.eval++ws).toArray) w:=by
      have e2:us.toArray++c.args.map a.eval++ws.toArray=(us++c.args.toList.map a.eval++ws).toArray:=by
       rw[← qomc];simp
      simp only[execOp,ho,resolve,hc,e1,Deferred.ofValue,Sem.run_bind,Sem.run_pure,Result.andThen_ok,invoke,e2]
      exact hF.call f q hq _ _
     intro Qx
     simp only[Oper.wp,hrun,Oper.upon]
     refine Calls.mono (hcall f _ _ _ _ hk g β w B Xf Hb Hb' _ hOk hm ((r1.ones.append hal).append r2.ones) ?_) fun e w' hh=>?_
     ·rcases hH with h | ⟨hf,h1,h2,h3⟩
      ·exact .inl h
      ·refine .inr ⟨?_,h1,h2,h3⟩
       simp only[freeable,ho,hc] at hf
       split at hf
       ·rename_i heq;simp at heq
       ·rename_i f' heq
        simp only[Callee.value.injEq] at heq
        subst heq
        simp only[opd,Slot.av.injEq,AV.one.injEq,Cell.fn.injEq] at hfn
        obtain⟨rfl,_,_⟩:=hfn
        split at hf
        ·rename_i q' hq'
         refine⟨q',hq',?_⟩
         split at hf
         ·assumption
         ·simp at hf
        ·simp at hf
       ·simp at hf
     ·obtain⟨v'',rfl,hp⟩:=hh
      exact⟨v'',rfl,hp⟩
    ·simp at h
   ·simp at h
  ·simp at h
 ·simp at h
end
end Go.Ev
