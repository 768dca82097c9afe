/- Soundness of the evaluator's new rows: literals, make, conversions of texts. No program occurs here; conditions: what each lemma names. -/
import Derived.Test.YteofbfalngmmeaaGreatDoorEvH
import Derived.IntWalk
set_option linter.unusedVariables false
set_option linter.unusedSimpArgs false
namespace Go.Ev
open Go
section
variable {P:Program} {Γ:Ctx} {g:Gh} {β:Nat→Option Nat} {w:World} {a:Act} {s:Fr} {α:Type} {r:α} {o:Oper} {B:Nat} {H Hb:List Entry} {Xf:Nat→List Cell}
theorem qqqb (hm:Mem g β B Xf Hb w){rows:List (List Cell)}{sz n:Nat}(hn:rows.length=n)(hrow:∀ row∈rows,row.length=sz){vs rest:List Value}(hv:RL g w rows.flatten vs){cap:Nat}
  (hcap:n≤cap) (hroom:cap*sz≤vs.length+rest.length) (t:TypeId) (hH:HLe (H++[⟨sz,rows,0,false⟩]) Hb) (hfree:g.own H.length=none):
  Post g β B Xf H (H++[⟨sz,rows,0,false⟩]) Hb w none (.av (.one (.vs H.length sz 0 n 0))) (.slice (some ⟨w.heap.size,0,none⟩) n cap) (w.alloc (.cells (vs++rest).toArray t)):=by
 obtain⟨e',h1,h2,h3,h4,h5⟩:=hH H.length ⟨sz,rows,0,false⟩ (by simp)
 obtain⟨m1,m2⟩:=hm.own_new hfree h1 (rest:=rest) (sz:=sz) h2 (by rw[h3];exact hrow) (by rw[h3];exact hv) t
 refine .mk (.mk1 (.vs _ _ _ _ _ _ _ _ (upd_same _ _ _) (Nat.zero_le _) (by simp) hcap (fun _=>⟨by simp,rfl,by simpa using hroom⟩) fun _=>rfl)) m1 (.weaken m2) (fun _ _ h=>h) (fun _ _ h=>.inl h) fun id o ho=>?_
 rcases qrc ho with h | h
 ·exact .inl h
 ·exact .inr (by rw[h];simp)
theorem qnm {κ:List (List Cell)→Option α}{t e:TypeId}{n:Nat}{ps:Array (Nat×Operand)}{q tq:Ty}(hΓ:CtxOk P Γ)(ho:o.op=.buildSlice t n ps)(hl:Looks g β w s a o.op.operands.toList)
    (ht : Γ.ty t = some tq) (hte : tq.kd = .slice e) (hq : Γ.ty e = some q) (hn : n * q.size ≤ 16777216)
    (h : (partsK Γ s (List.replicate n e) ps.toList fun qs =>
            match qifb (fun i => some (i * q.size, q.size)) (qdd n q.zero).flatten qs with
            | some cs => κ (chunks q.size n cs)
            | none => none) = some r) :
    ∃ rows vs, κ rows = some r ∧ rows.length = n ∧ (∀ row ∈ rows, row.length = q.size) ∧ RL g w rows.flatten vs ∧
      (execOp a.eval o).run P w = .ok (.value (.slice (some ⟨w.heap.size, 0, none⟩) n n)) (w.alloc (.cells vs.toArray e)) := by
  have hq' := hΓ.ty _ _ hq
  have hk := (hΓ.ty _ _ ht).kd
  rw [hte] at hk
  have hk : P.underlying t = some (.slice e) := hk
  have hop : ∀ p ∈ ps.toList, p.2 ∈ o.op.operands.toList := by
    intro p hp
    rw [ho]
    simp only [Op.operands]
    simpa using ⟨p.1, by simpa using hp⟩
  obtain ⟨qs, h, h2⟩ := qkw hl hop h
  have h2' : All2 (fun (q : Nat × List Cell) (p : Nat × Value) => q.1 = p.1 ∧ RL g w q.2 p.2.cells.toList) qs (ps.toList.map fun p => (p.1, a.eval p.2)) := by
    clear h
    generalize ps.toList = l at h2
    induction h2 with
    | nil => exact .nil
    | cons h _ ih => exact .cons h ih
  obtain ⟨z, hz, rz⟩ := hq'.run_zero (w := w)
  have rz' : RL g w q.zero z.cells.toList := rz.map fun c v hh => hh.r g w
  have hzl := qwh (n := n) rz' hq'.zero
  split at h
  · rename_i cs hcs
    obtain ⟨vs', e1, e2⟩ := qcmb (place' := fun i => some (i * q.size, q.size)) (fun i p hp => hp) h2' (vs := ((Array.range (n * q.size)).map fun i => z.cells[i % z.cells.size]!)) (by simpa using hzl) hcs
    have hlen : cs.length = n * q.size := by
      have h3 : ∀ {qs : List (Nat × List Cell)} {cs cs' : List Cell}, qifb (fun i => some (i * q.size, q.size)) cs qs = some cs' → cs'.length = cs.length := by
        intro qs
        induction qs with
        | nil => intro cs cs' h; simp only [qifb, Option.some.injEq] at h; rw [h]
        | cons p qs ih =>
          intro cs cs' h
          simp only [qifb] at h
          split at h
          · rename_i hh
            rw [ih h, splice]
            simp
            omega
          · simp at h
      rw [h3 hcs, qbf (sz := q.size) (by intro r hr; rw [qdd] at hr; rw [List.eq_of_mem_replicate hr, hq'.zero])]
      simp [qdd]
    obtain ⟨c1, c2, c3⟩ := qijb hlen
    refine ⟨_, vs'.toList, h, c1, c2, by rw [c3]; exact e2, ?_⟩
    have hps : (ps.map fun p => (p.1, a.eval p.2)).toList = ps.toList.map fun p => (p.1, a.eval p.2) := by simp
    simp only [execOp, ho, Instr.buildSlice, Sem.run_bind, qaj hk, Result.andThen_ok, hq'.run_sizeOf, if_neg (show ¬ n * q.size > 2 ^ 24 by omega)]
    by_cases h0 : n * q.size = 0
    · simp only [Sem.run_ite, if_pos h0, Sem.run_bind, Sem.run_pure, Result.andThen_ok]
      have e3 : ((Array.range (n * q.size)).map fun i => (#[] : Array Value)[i % (#[] : Array Value).size]!) = ((Array.range (n * q.size)).map fun i => z.cells[i % z.cells.size]!) := by rw [h0]; simp
      rw [e3, hps, e1]
      simp only [Sem.run_bind, qgy, Result.andThen_ok, Sem.run_pure, Array.toArray_toList]
    · simp only [Sem.run_ite, if_neg h0, Sem.run_bind, hz, Result.andThen_ok, Sem.run_pure]
      rw [hps, e1]
      simp only [Sem.run_bind, qgy, Result.andThen_ok, Sem.run_pure, Array.toArray_toList]
  · simp at h
theorem qbrd (hm:Mem g β B Xf Hb w){rows:List (List Cell)}{sz:Nat}(hrow:∀ row∈rows,row.length=sz){vs:List Value}(hv:RL g w rows.flatten vs)(hp:∀ row∈rows,∀ c∈row,Pur c)(t:TypeId):
  Post g β B Xf H H Hb w none (.av (.one (.lst true sz rows))) (.slice (some ⟨w.heap.size,0,none⟩) rows.length rows.length) (w.alloc (.cells vs.toArray t)):=by
 obtain⟨m1,k⟩:=hm.lst_new (.cells vs.toArray t)
 refine .mk (.mk1 ?_) m1 (.weaken k) (fun _ _ h=>h) (fun _ _ h=>.inl h) fun id o ho=>.inl ⟨o,ho⟩
 by_cases hne:rows=[]
 ·subst hne
  exact .nil _ _ _ _ fun _=>rfl
 ·refine .lst true sz rows w.heap.size 0 rows.length (fun i j=>vs.getD (i*sz+j) undef) hne (fun _=>rfl) (Nat.le_refl _) hrow hp (fun i j row c h1 h2=>⟨?_,.inr rfl⟩) fun i j row c h1 h2=>?_
  ·obtain⟨v,h3,h4⟩:=hv.get (qfk hrow h1 h2)
   rw[cell_of_block (qiz _ _ _),Nat.zero_add,List.getElem?_toArray,h3,List.getD_eq_getElem?_getD,h3]
   rfl
  ·obtain⟨v,h3,h4⟩:=hv.get (qfk hrow h1 h2)
   show R _ _ _ (vs.getD (i*sz+j) undef)
   rw[List.getD_eq_getElem?_getD,h3]
   exact h4.mono k.le k.keep
theorem qqs {t e:TypeId}{l c:Operand}{q tq:Ty}{n m:Int}(hΓ:CtxOk P Γ)(ho:o.op=.makeSlice t l c)(hl:Looks g β w s a o.op.operands.toList)
  (ht:Γ.ty t=some tq) (hte:tq.kd=.slice e) (hq:Γ.ty e=some q) (hn:opd Γ s 0 l=.av (.one (.sc (.int .i64 n)))) (hc:opd Γ s 0 c=.av (.one (.sc (.int .i64 m))))
  (hb:0≤n∧n≤m∧m*q.bytes≤bound∧m≤bound) (hm:Mem g β B Xf Hb w) (hH:HLe (H++[⟨q.size,qdd n.toNat q.zero,0,false⟩]) Hb) (hfree:g.own H.length=none):
  qea P a o w (Post g β B Xf H (H++[⟨q.size,qdd n.toNat q.zero,0,false⟩]) Hb w none (.av (.one (.vs H.length q.size 0 n.toNat 0)))):=by
 have hq':=hΓ.ty _ _ hq
 have hk:=(hΓ.ty _ _ ht).kd
 rw[hte] at hk
 have hk:P.underlying t=some (.slice e):=hk
 have h1:=qfg (Γ:=Γ) hl 0 (x:=l) (by simp[ho,Op.operands])
 have h2:=qfg (Γ:=Γ) hl 0 (x:=c) (by simp[ho,Op.operands])
 rw[hn] at h1
 rw[hc] at h2
 obtain⟨b0,b1,b2,b3⟩:=hb
 have hbnd:bound=35184372088832:=rfl
 obtain⟨i,hi,his,hib⟩:=hq'.run_typeInfo (w:=w)
 obtain⟨z,hz,rz⟩:=hq'.run_zero (w:=w)
 have rz':RL g w q.zero z.cells.toList:=rz.map fun c v hh=>hh.r g w
 have wrap:∀ x:Int,0≤x→x≤35184372088832→IntKind.i64.wrap x=x:=fun x h1 h2=>Go.IntWalk.i64_in x (by omega)
 have hzl:=qwh (n:=m.toNat) rz' hq'.zero
 have hzl2:RL g w (qdd n.toNat q.zero).flatten (((List.range (m.toNat*q.size)).map fun i=>(z.cells.toList.toArray)[i % z.cells.toList.toArray.size]!).take (n.toNat*q.size)):=by
  have h:=hzl.take (n.toNat*q.size)
  have e:(qdd m.toNat q.zero).flatten.take (n.toNat*q.size)=(qdd n.toNat q.zero).flatten:=by
   have:qdd m.toNat q.zero=qdd n.toNat q.zero++qdd (m.toNat - n.toNat) q.zero:=by
    unfold qdd
    rw[List.replicate_append_replicate,show n.toNat+(m.toNat - n.toNat)=m.toNat by omega]
   rw[this,List.flatten_append,List.take_left']
   rw[qbf (sz:=q.size) (by intro r hr;rw[qdd] at hr;rw[List.eq_of_mem_replicate hr,hq'.zero])]
   simp[qdd]
  rwa [e] at h
 have hp:=qqqb (H:=H) hm (rows:=qdd n.toNat q.zero) (sz:=q.size) (n:=n.toNat) (by simp[qdd]) (by intro r hr;rw[qdd] at hr;rw[List.eq_of_mem_replicate hr,hq'.zero]) hzl2
  (rest:=((List.range (m.toNat*q.size)).map fun i=>(z.cells.toList.toArray)[i % z.cells.toList.toArray.size]!).drop (n.toNat*q.size)) (cap:=m.toNat) (by omega) (by rw[← List.length_append,List.take_append_drop];simp) e hH hfree
 refine .value ?_ hp
 rw[List.take_append_drop]
 have hcells:((List.range (m.toNat*q.size)).map fun i=>(z.cells.toList.toArray)[i % z.cells.toList.toArray.size]!).toArray=(Array.range (m.toNat*q.size)).map fun i=>z.cells[i % z.cells.size]! :=by
  apply Array.toList_inj.1
  simp
 rw[hcells]
 have t1:¬ ((i.bytes:Int)*m > 2 ^ 48):=by
  rw[hib,Int.mul_comm];omega
 have t2:(decide (m < 0)||decide ((i.bytes:Int)*m > 2 ^ 48))=false:=by
  simp only[Bool.or_eq_false_iff,decide_eq_false_iff_not]
  exact⟨by omega,t1⟩
 simp only[execOp,ho,h1.sc,h2.sc,Instr.makeSlice,Sem.run_bind,qaj hk,Result.andThen_ok,asInt,qdv,Sem.run_pure,hi,wrap n (by omega) (by omega),wrap m (by omega) (by omega),Sem.run_ite]
 rw[if_neg (by simp only[t2];simp;omega)]
 simp only[Sem.run_bind,run_askRoom,Result.andThen_ok,hq'.run_sizeOf,Sem.run_ite]
 by_cases h0:m.toNat*q.size=0
 ·rw[if_pos h0]
  have e3:((Array.range (m.toNat*q.size)).map fun i=>(#[]:Array Value)[i % (#[]:Array Value).size]!)=((Array.range (m.toNat*q.size)).map fun i=>z.cells[i % z.cells.size]!):=by rw[h0];simp
  rw[e3]
  simp only[qgy,Result.andThen_ok,Sem.run_pure]
 ·rw[if_neg h0]
  simp only[Sem.run_bind,hz,Result.andThen_ok,Sem.run_pure,qgy]
end
end Go.Ev
