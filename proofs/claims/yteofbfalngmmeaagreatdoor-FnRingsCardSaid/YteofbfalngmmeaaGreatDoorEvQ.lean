/- Functions: what the evaluator says of one, the program does. No program occurs here; conditions: what the theorems name. -/
import Derived.Test.YteofbfalngmmeaaGreatDoorEvP
namespace Go.Ev
open Go
def FnOk (P:Program)(Ok:Nat→World→Prop)(f:FuncId)(p:List AV→List Entry→Option Res):Prop:=∀ (args:List AV) (H:List Entry) (r:Res),p args H=some r→∀ (g:Gh) (B:Nat) (w:World) (vs:List Value),Ok B w→HR g B H w→B≤w.heap.size→AL g w args vs→Calls P f vs.toArray w fun e w'=>∃ v,e=.returned v∧∃ g',Go1 g g' w w'∧HR g' B r.2 w'∧SlotR g' (fun _=>none) w' (qgj r.1) v
section
variable {P:Program} {Γ:Ctx} {g g0:Gh} {β:Nat→Option Nat} {w w0:World} {a:Act} {s s':Fr} {B N:Nat} {H:List Entry}
def resV (tmps:Array Value):ResultVar→Sem Value | .tmp t=>pure (tmps.getD t undef) | .cell x t=>do loadVar t (← asAddr (tmps.getD x undef))
theorem qpdb (fn:Func)(tmps:Array Value):results fn tmps=(do
  let vs ← fn.results.mapM (resV tmps)
  pure (if h:vs.size=1 then vs[0] else .tuple vs)):=by
 have:(fun x=>match x with
  | .tmp t=>pure (tmps.getD t undef)
  | .cell a t=>do loadVar t (← asAddr (tmps.getD a undef)):ResultVar→Sem Value)=resV tmps:=by
  funext x
  cases x<;>rfl
 rw[← this]
 rfl
theorem qodb (hΓ:CtxOk P Γ)(ht:∀ t,SlotR g β w (s.slot t) (a.eval (.tmp t)))(hm:Mem g β B (fun b=>s.X.getD b []) s.H w):
  ∀ (rs:List ResultVar) (xs:List AV),qstb Γ s rs=some xs→∃ vs,(rs.mapM (resV a.tmps)).run P w=.ok vs w∧AL g w xs vs:=by
 intro rs
 induction rs with
 | nil=>intro xs h;simp[qstb] at h;subst h;exact⟨[],by simp,All2.nil⟩
 | cons x rs ih=>
  intro xs h
  have step:∀ {y ys} {v:Value},xs=y::ys→qstb Γ s rs=some ys→(resV a.tmps x).run P w=.ok v w→AVR g w y v→∃ vs,((x::rs).mapM (resV a.tmps)).run P w=.ok vs w∧AL g w xs vs:=by
   intro y ys v e hys hv hr
   obtain⟨vs,h1,h2⟩:=ih ys hys
   subst e
   refine⟨v::vs,?_,All2.cons hr h2⟩
   simp only[List.mapM_cons,Sem.run_bind,hv,Result.andThen_ok,h1,Sem.run_pure]
  cases x with
  | tmp t=>
   simp only[qstb] at h
   split at h
   ·rename_i x hx
    split at h
    ·rename_i ys hys
     simp only[Option.some.injEq] at h
     have h3:=ht t
     rw[hx] at h3
     exact step h.symm hys (by simp[resV,Act.eval,Sem.run_pure]) h3.av'
    ·simp at h
   ·simp at h
  | cell x t=>
   simp only[qstb] at h
   split at h
   ·rename_i q b hq hx
    split at h
    ·rename_i hlen
     have h3:=ht x
     rw[hx] at h3
     obtain⟨blk,hb,e⟩:=h3.loc'
     have hbx:=hm.box b blk hb
     obtain⟨c,tt,fz,m1,m2,m3⟩:=hbx.mem
     have hrun:=qsa (P:=P) (w:=w) (hΓ.ty _ _ hq) blk 0 c.toList (by rw[m2.length];exact hlen) (fun j v hj=>by rw[cell_of_block m1];simpa using hj)
     have hload:(resV a.tmps (.cell x t)).run P w=.ok (vOf q.isAgg c.toList) w:=by
      have e':a.tmps.getD x undef=.pointer (some ⟨blk,0,none⟩):=e
      simp only[resV]
      rw[e']
      simp only[asAddr,Sem.run_bind,Sem.run_pure,Result.andThen_ok,hrun]
     cases hys:qstb Γ s rs with
     | none=>rw[hys] at h;split at h<;>simp at*
     | some ys=>
      rw[hys] at h
      cases ha:q.isAgg with
      | true=>
       rw[ha] at h hload
       simp only[Option.some.injEq] at h
       exact step h.symm hys hload (.agg _ _ m2)
      | false=>
       rw[ha] at h hload
       generalize s.X.getD b []=cs at h m2
       cases cs with
       | nil=>simp at h
       | cons c0 cs=>
        simp only[Option.some.injEq] at h
        refine step h.symm hys hload ?_
        generalize c.toList=l at m2
        cases m2 with
        | cons r0 _=>exact .one _ _ r0
    ·simp at h
   ·simp at h
theorem qwxb {xs:List AV}{vs:List Value}(h:AL g w xs vs):SlotR g β w (qgj xs) (if h:vs.toArray.size=1 then vs.toArray[0] else .tuple vs.toArray):=by
 cases h with
 | nil=>exact .tup [] [] All2.nil
 | cons a t=>cases t with
  | nil=>exact .av _ _ a
  | cons b t=>
   rw[dif_neg (by simp)]
   exact .tup _ _ (All2.cons a (All2.cons b t))
theorem AL.slots {xs:List AV}{vs:List Value}(h:AL g w xs vs)(n m t:Nat):SlotR g β w ((xs.map Slot.av++List.replicate n Slot.undef).getD t .undef) ((vs.toArray++Array.replicate m undef).getD t undef):=by
 by_cases hlt:t < xs.length
 ·have h1:(xs.map Slot.av++List.replicate n Slot.undef).getD t .undef=.av xs[t]:=by
   rw[List.getD_eq_getElem?_getD,List.getElem?_append_left (by simpa using hlt)]
   simp[hlt]
  obtain⟨v,h2,h3⟩:=h.get (List.getElem?_eq_getElem hlt)
  have h4:(vs.toArray++Array.replicate m undef).getD t undef=v:=by
   have hlt2:=(List.getElem?_eq_some_iff.1 h2).1
   rw[Array.getD_eq_getD_getElem?,Array.getElem?_append_left (by simpa using hlt2)]
   simp[h2]
  rw[h1,h4]
  exact .av _ _ h3
 ·have h1:(xs.map Slot.av++List.replicate n Slot.undef).getD t .undef=.undef:=by
   rw[List.getD_eq_getElem?_getD,List.getElem?_append_right (by simpa using hlt),List.getElem?_replicate]
   split<;>rfl
  rw[h1]
  exact .undef _
theorem fn_ok {fi:FI}{f:FuncId}{ev:FuncId→List AV→List Entry→Option Res}{Ok:Nat→World→Prop}(hmix:P.follows .mixedOrders=true)(hΓ:CtxOk P Γ)(hF:FiOk P Γ)(hcall:qlx P Γ ev Ok)(hS:Stable Ok)(hfi:Γ.fi f=some fi)(hp:Γ.prim f=none)(fuel:Nat):
  FnOk P Ok f fun args H=>evC Γ fi ev fuel fi.code none (retK Γ fi) (enter fi args H):=by
 intro args H r h g B w vs h0 hh hB hal
 obtain⟨fn,hfn,hbody,hnt,hres,hlocs⟩:=hF.code f fi hfi hp
 refine calls_of_wp hfn hbody ?_
 have hst:St B fi.ntmps g w (enter fi args H) {tmps:=vs.toArray++Array.replicate (fn.ntmps - vs.toArray.size) undef,defers:=[]} w:=by
  refine⟨rfl,?_,by simp[enter],g,fun _=>none,fun t=>hal.slots _ _ t,⟨hh,by simp,by simp,by simp,hB⟩,Go1.refl g w,by simp⟩
  simp[enter,hal.length,hnt]
 refine wp_mono (evC_ok hmix hΓ hF hcall hS hlocs h0 hh hB fuel r fi.code none (retK Γ fi) _ _ _ h hst) fun e a' w' ⟨x,s',hx,hK,hs'⟩=>?_
 obtain⟨h1,h2,h3,g',β',h4,h5,h6,h7⟩:=hs'
 have key:∀ r',(match qstb Γ s' fi.res with
  | some xs=>some (xs,s'.H)
  | none=>none)=some r'→r'=r→a'.defers=[]∧∃ v,(results fn a'.tmps).run P w'=.ok v w'∧∃ v1,Ending.returned v=.returned v1∧∃ g',Go1 g g' w w'∧HR g' B r.2 w'∧SlotR g' (fun _=>none) w' (qgj r.1) v1:=by
  intro r' hk hr
  subst hr
  split at hk
  ·rename_i xs hxs
   simp only[Option.some.injEq] at hk
   subst hk
   obtain⟨us,k1,k2⟩:=qodb hΓ h4 h5 fi.res xs hxs
   refine⟨h1,_,?_,_,rfl,g',h6,h5.heap,qwxb k2⟩
   rw[qpdb,Array.mapM_eq_mapM_toList,hres]
   simp only[Sem.run_bind,Sem.run_map,k1]
   rfl
  ·simp at hk
 cases x with
 | normal=>subst hx;exact key r hK rfl
 | ret=>subst hx;exact key r hK rfl
 | exit i=>simp[retK] at hK
theorem evF_ok {Ok:Nat→World→Prop}(hmix:P.follows .mixedOrders=true)(hΓ:CtxOk P Γ)(hF:FiOk P Γ)(hS:Stable Ok)(hprim:∀ f p,Γ.prim f=some p→FnOk P Ok f p)
  (hcalls:∀ ev:FuncId→List AV→List Entry→Option Res,(∀ f,FnOk P Ok f (ev f))→qlx P Γ ev Ok):∀ (k:Nat) (f:FuncId),FnOk P Ok f (evF Γ k f):=by
 intro k
 induction k with
 | zero=>intro f args H r h;simp[evF] at h
 | succ k ih=>
  intro f args H r h
  simp only[evF] at h
  split at h
  ·rename_i p hp
   exact hprim f p hp args H r h
  ·rename_i hp
   split at h
   ·rename_i fi hfi
    exact fn_ok hmix hΓ hF (hcalls _ ih) hS hfi hp k args H r h
   ·simp at h
end
end Go.Ev
