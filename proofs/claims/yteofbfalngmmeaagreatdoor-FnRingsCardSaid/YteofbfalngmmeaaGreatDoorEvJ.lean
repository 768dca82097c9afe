/- Soundness of the evaluator's stores, append, copy and clear. No program occurs here; conditions: what each lemma names. -/
import Derived.Test.YteofbfalngmmeaaGreatDoorEvI
import Derived.Laws.BytesArg
set_option linter.unusedVariables false
set_option linter.unusedSimpArgs false
namespace Go.Ev
open Go
section
variable {P:Program} {Γ:Ctx} {g:Gh} {β:Nat→Option Nat} {w:World} {a:Act} {s:Fr} {α:Type} {r:α} {o:Oper} {B:Nat} {H Hb:List Entry} {Xf:Nat→List Cell}
theorem GoX.writeAt {X:Nat→Prop}{b:Nat}{c:Array Value}{t:TypeId}{fz:Nat×Nat}{off:Nat}{vs:List Value}(hb:w.heap[b]?=some (.cells c t fz))(hs:off+vs.length≤c.size)(hp:∀ j,g.prot b j→j < off)
  (hX:X b∨∃ id o,g.own id=some o∧o.blk=b):GoX X g g w (setCells w b off vs):=by
 refine⟨.refl g,fun x y hx=>?_,by rw[setCells_size];exact Nat.le_refl _,fun k hk hx hn=>?_,fun id o h=>.inl ⟨id,o,h,rfl⟩,fun _ _ h=>.inl h,(qen vs w b off).1,(qen vs w b off).2.1,(qen vs w b off).2.2⟩
 ·by_cases e:x=b
  ·subst e
   rw[cell_of_block (qex vs hb off),cell_of_block hb,qdec _ _ _ _ hs,if_neg (by have:=hp y hx;omega)]
  ·exact cell_of_heap (qbk vs w b off x e) y
 ·refine qbk vs w b off k fun e=>?_
  rcases hX with h | ⟨id,o,h1,h2⟩
  ·exact hx (by rw[e];exact h)
  ·exact hn id o h1 (by rw[h2,e])
theorem GoX.write {X:Nat→Prop}{b:Nat}{c:Array Value}{t:TypeId}{fz:Nat×Nat}(hb:w.heap[b]?=some (.cells c t fz))(hp:∀ j,¬ g.prot b j)(hX:X b∨∃ id o,g.own id=some o∧o.blk=b)(off:Nat)(vs:List Value):
  GoX X g g w (setCells w b off vs):=by
 refine⟨.refl g,fun x y hx=>?_,by rw[setCells_size];exact Nat.le_refl _,fun k hk hx hn=>?_,fun id o h=>.inl ⟨id,o,h,rfl⟩,fun _ _ h=>.inl h,(qen vs w b off).1,(qen vs w b off).2.1,(qen vs w b off).2.2⟩
 ·exact cell_of_heap (qbk vs w b off x fun e=>hp y (by rw[← e];exact hx)) y
 ·refine qbk vs w b off k fun e=>?_
  rcases hX with h | ⟨id,o,h1,h2⟩
  ·exact hx (by rw[e];exact h)
  ·exact hn id o h1 (by rw[h2,e])
theorem Mem.store_box (hm:Mem g β B Xf Hb w){b blk:Nat}(hb:β b=some blk){cs:List Cell}{vs:List Value}(hv:RL g w cs vs){off:Nat}(hl:off+vs.length≤(Xf b).length):
  Mem g β B (upd Xf b (splice (Xf b) off cs)) Hb (setCells w blk off vs)∧GoX (fun k=>∃ t,β t=some k) g g w (setCells w blk off vs):=by
 have hbx:=hm.box b blk hb
 obtain⟨c,t,fz,m1,m2,m3⟩:=hbx.mem
 have k:GoX (fun k=>∃ t,β t=some k) g g w (setCells w blk off vs):=.write m1 hbx.pr (.inl ⟨b,hb⟩) off vs
 have hcl:=m2.length
 have hsz:c.size=(Xf b).length:=by simpa using hcl
 refine⟨⟨⟨fun id o ho=>?_,hm.heap.inj,fun x j h=>Nat.lt_of_lt_of_le (hm.heap.plt x j h) k.size,hm.heap.bldSame rfl fun id o ho=>qbk vs w blk off _ (hm.sep b blk id o hb ho)⟩,fun u blk' hu=>?_,hm.inj,hm.sep,Nat.le_trans hm.size k.size⟩,k⟩
 ·obtain⟨e,h1,h2⟩:=hm.heap.ent id o ho
  exact⟨e,h1,h2.keep k.le k.keep (qbk vs w blk off _ (hm.sep b blk id o hb ho)) fun _ h=>h⟩
 ·by_cases e:u=b
  ·subst e
   rw[hb] at hu
   simp only[Option.some.injEq] at hu
   subst hu
   rw[upd_same]
   refine⟨hbx.lo,⟨_,t,fz,qex vs m1 off,?_,fun j hj=>?_⟩,hbx.pr⟩
   ·rw[qdib _ _ _ (by omega)]
    exact(m2.splice hv).mono k.le k.keep
   ·rw[qfb]
    exact m3 j (by rwa [qux] at hj)
  ·rw[qbl _ _ _ _ e]
   have hne:blk'≠blk:=fun h=>e (hm.inj u b blk' hu (by rw[h];exact hb))
   exact(hm.box u blk' hu).keep k.le k.keep (qbk vs w blk off _ hne) (hm.box u blk' hu).pr
theorem qqj {t:TypeId}{q:Ty}{x y:Operand}{v:AV}{b off:Nat}(hΓ:CtxOk P Γ)(ho:o.op=.store t x y)(hl:Looks g β w s a o.op.operands.toList)(hq:Γ.ty t=some q)
  (hv:opd Γ s t y=.av v) (hvl:v.cells.length=q.size) (hx:opd Γ s 0 x=.loc b off) (hr:off+q.size≤(Xf b).length) (hm:Mem g β B Xf Hb w):
  qea P a o w (Post g β B (upd Xf b (splice (Xf b) off v.cells)) H H Hb w none .undef):=by
 have h1:=qfg (Γ:=Γ) hl 0 (x:=x) (by simp[ho,Op.operands])
 have h2:=qfg (Γ:=Γ) hl t (x:=y) (by simp[ho,Op.operands])
 rw[hx] at h1
 rw[hv] at h2
 obtain⟨blk,hb,e⟩:=h1.loc'
 have hc:=h2.av'.cells
 have hlen:=hc.length
 have hbx:=hm.box b blk hb
 obtain⟨c,tt,fz,m1,m2,m3⟩:=hbx.mem
 have hsz:c.size=(Xf b).length:=by simpa using m2.length
 obtain⟨m,k⟩:=hm.store_box hb hc (off:=off) (by omega)
 refine .skip ?_ ⟨g,β,.undef _,m,k,fun _ _ h=>h,fun _ _ h=>.inl h,fun _ o h=>.inl ⟨o,h⟩⟩
 have:=qlh (P:=P) (w:=w) (hΓ.ty _ _ hq) (v:=a.eval y) (o:=off) m1 (by omega) (by omega) m3 hc.oneCell
 simp[execOp,ho,e,Instr.storeAt,Instr.sureAddr,this]
theorem Mem.own_write (hm:Mem g β B Xf H w){id:Nat}{o:Own}(hid:g.own id=some o){e:Entry}(he:H[id]?=some e)(hkd:o.kd=0)(hfr:e.fr=false){c:Array Value}{t:TypeId}{fz:Nat×Nat}
  (hc:w.heap[o.blk]?=some (.cells c t fz)) {off:Nat} {vs:List Value} (hl:off+vs.length≤c.size) {rows':List (List Cell)} (hlen:rows'.length=e.rows.length) (hrow:∀ row∈rows',row.length=o.sz)
  (hr:∀ (i j:Nat) row cl,rows'[i]?=some row→row[j]?=some cl→∃ v,(ow c off vs)[o.base+i*o.sz+j]?=some v∧R g w cl v):
  Mem g β B Xf (H.set id ⟨e.sz,rows',e.ep,false⟩) (setCells w o.blk off vs)∧GoX (fun k=>∃ t,β t=some k) g g w (setCells w o.blk off vs):=by
 obtain⟨e',h1,h2⟩:=hm.heap.ent id o hid
 rw[he] at h1
 simp only[Option.some.injEq] at h1
 subst h1
 have hpr:∀ j,¬ g.prot o.blk j:=fun j hj=>by have:=(h2.pr j hj).1;rw[hfr] at this;simp at this
 have k:Go1 g g w (setCells w o.blk off vs):=.write hc hpr (.inr ⟨id,o,hid,rfl⟩) off vs
 refine⟨hm.boxes k ⟨fun i oo hi=>?_,hm.heap.inj,fun x j h=>Nat.lt_of_lt_of_le (hm.heap.plt x j h) k.size,?_⟩,.weaken k⟩
 rotate_left
 ·refine hm.heap.bldKeep (fun i oo h1 h2=>⟨h1,fun e' he'=>?_,fun _ h _=>h⟩) fun i oo h1 h2=>qbk vs w o.blk off _ fun h=>?_
  ·refine⟨e',?_,rfl⟩
   rw[List.getElem?_set_ne fun h=>?_]
   ·exact he'
   ·subst h
    rw[hid] at h1
    simp only[Option.some.injEq] at h1
    subst h1
    omega
  ·have:=hm.heap.inj i id oo o h1 hid h
   subst this
   rw[hid] at h1
   simp only[Option.some.injEq] at h1
   subst h1
   omega
 by_cases hii:i=id
 ·subst hii
  rw[hid] at hi
  simp only[Option.some.injEq] at hi
  subst hi
  have hlt:=(List.getElem?_eq_some_iff.1 he).1
  obtain⟨c',t',fz',m1,m2,m3,m4,m5,m6⟩:=h2.mem hkd
  rw[hc] at m1
  simp only[Option.some.injEq,Obj.cells.injEq] at m1
  obtain⟨rfl,rfl,rfl⟩:=m1
  refine⟨⟨e.sz,rows',e.ep,false⟩,by rw[List.getElem?_set_self hlt],h2.lo,h2.sz,h2.ep,by rw[setCells_size];exact h2.lt,fun _=>⟨_,t,fz,qex vs hc off,by simpa[hlen] using m2,by rw[qux];exact m3,hrow,fun j hj=>?_,fun i j row cl a b=>?_⟩,fun h=>by omega,fun j hj=>absurd hj (hpr j)⟩
  ·rw[qfb];exact m5 j (by rwa [qux] at hj)
  ·obtain⟨v,n1,n2⟩:=hr i j row cl a b
   exact⟨v,n1,n2.mono k.le k.keep⟩
 ·obtain⟨e',h3,h4⟩:=hm.heap.ent i oo hi
  exact⟨e',by rw[List.getElem?_set_ne (fun h=>hii h.symm)];exact h3,h4.keep k.le k.keep (qbk vs w o.blk off _ fun h=>hii (hm.heap.inj i id oo o hi hid h)) fun _ h=>h⟩
theorem qqp {t:TypeId}{q:Ty}{x y:Operand}{v:AV}{cl:Cell}{H':List Entry}(hΓ:CtxOk P Γ)(ho:o.op=.store t x y)(hl:Looks g β w s a o.op.operands.toList)(hq:Γ.ty t=some q)
  (hv:opd Γ s t y=.av v) (hvl:v.cells.length=q.size) (hx:opd Γ s 0 x=.av (.one cl)) (hs:qbu H cl v.cells=some H') (hm:Mem g β B Xf H w):
  qea P a o w (Post g β B Xf H H' H' w none .undef):=by
 have h1:=qfg (Γ:=Γ) hl 0 (x:=x) (by simp[ho,Op.operands])
 have h2:=qfg (Γ:=Γ) hl t (x:=y) (by simp[ho,Op.operands])
 rw[hx] at h1
 rw[hv] at h2
 have hc:=h2.av'.cells
 have hlen:=hc.length
 have hr:=h1.one
 generalize hvx:a.eval x=vx at hr
 unfold qbu at hs
 split at hs
 ·rename_i id sz idx off ep
  split at hs
  ·rename_i e he
   split at hs
   ·rename_i row hrow
    split at hs
    ·rename_i hh
     simp only[Option.some.injEq] at hs
     subst hs
     obtain⟨hfr,hoff,hesz⟩:=hh
     cases hr with
     | ptr _ _ _ _ _ ad ow' hown hle hcur hk=>
      obtain⟨e',q1,q2,q3,q4,q5,q6⟩:=hm.heap.at (.refl H) he hown
      have hee:=(qgt he).1
      rw[hee] at q1
      simp only[Option.some.injEq] at q1
      subst q1
      obtain⟨hosz,had⟩:=hcur q6
      obtain⟨c,tt,fz,m1,m2,m3,m4,m5,m6⟩:=q5.mem (hk q6)
      have hidx:=(List.getElem?_eq_some_iff.1 hrow).1
      have hrl:row.length=ow'.sz:=m4 row (List.mem_of_getElem? hrow)
      have hle2:(idx+1)*ow'.sz≤e.rows.length*ow'.sz:=Nat.mul_le_mul_right _ hidx
      rw[Nat.add_mul] at hle2
      obtain⟨m,k⟩:=hm.own_write hown hee (hk q6) hfr m1 (off:=ow'.base+idx*ow'.sz+off) (vs:=(a.eval y).cells.toList) (rows':=e.rows.set idx (splice row off v.cells)) (by omega) (by simp)
       (fun r hr=>by
        rcases List.mem_or_eq_of_mem_set hr with h | h
        ·exact m4 r h
        ·rw[h,splice];simp;omega)
       (fun i j r cl' hi hj=>by
        rw[qdec _ _ _ _ (by omega)]
        rw[List.getElem?_set] at hi
        by_cases hii:idx=i
        ·subst hii
         simp only[if_pos,hidx] at hi
         simp only[Option.some.injEq] at hi
         subst hi
         unfold splice at hj
         by_cases j1:j < off
         ·rw[if_neg (by omega)]
          rw[List.getElem?_append_left (by simp;omega),List.getElem?_append_left (by simp;omega),List.getElem?_take,if_pos j1] at hj
          exact m6 idx j row cl' hrow hj
         ·by_cases j2:j < off+v.cells.length
          ·rw[if_pos (by omega)]
           rw[List.getElem?_append_left (by simp;omega),List.getElem?_append_right (by simp;omega)] at hj
           obtain⟨u,u1,u2⟩:=hc.get hj
           refine⟨u,?_,u2⟩
           rw[← u1]
           congr 1
           simp;omega
          ·rw[if_neg (by omega)]
           rw[List.getElem?_append_right (by simp;omega),List.getElem?_drop] at hj
           refine m6 idx j row cl' hrow ?_
           rw[← hj]
           congr 1
           simp;omega
        ·rw[if_neg hii] at hi
         have hjl:j < ow'.sz:=by rw[← m4 r (List.mem_of_getElem? hi)];exact(List.getElem?_eq_some_iff.1 hj).1
         have hne:¬ (ow'.base+idx*ow'.sz+off≤ow'.base+i*ow'.sz+j∧ow'.base+i*ow'.sz+j < ow'.base+idx*ow'.sz+off+(a.eval y).cells.toList.length):=by
          rintro ⟨n1,n2⟩
          rcases Nat.lt_or_gt_of_ne hii with hlt | hgt
          ·have:=Nat.mul_le_mul_right ow'.sz (show idx+1≤i by omega)
           rw[Nat.add_mul] at this
           omega
          ·have:=Nat.mul_le_mul_right ow'.sz (show i+1≤idx by omega)
           rw[Nat.add_mul] at this
           omega
         rw[if_neg hne]
         exact m6 i j r cl' hi hj)
      refine .skip ?_ ⟨g,β,.undef _,m,k,fun _ _ h=>h,fun _ _ h=>.inl h,fun _ o h=>.inl ⟨o,h⟩⟩
      have hst:=qlh (P:=P) (w:=w) (hΓ.ty _ _ hq) (v:=a.eval y) (o:=ow'.base+idx*ow'.sz+off) m1 (by omega) (by omega) m5 hc.oneCell
      rw[had,← hosz] at hvx
      simp[execOp,ho,hvx,Instr.storeAt,Instr.sureAddr,hst]
    ·simp at hs
   ·simp at hs
  ·simp at hs
 ·simp at hs
end
end Go.Ev
