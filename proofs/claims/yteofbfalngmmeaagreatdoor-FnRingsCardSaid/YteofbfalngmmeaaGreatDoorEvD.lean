/- Soundness of the evaluator's operations that leave memory alone. No program occurs here; conditions: what each lemma names. -/
import Derived.Test.YteofbfalngmmeaaGreatDoorEvC
import Derived.Lib.SliceRun
import Derived.Laws.StructEq
import Derived.Laws.Strings
import Derived.Laws.Slices
import Derived.ChangeKeysEq
set_option linter.unusedVariables false
set_option linter.unusedSimpArgs false
namespace Go.Ev
open Go
structure CtxOk (P:Program)(Γ:Ctx):Prop where
 ty:∀ t r,Γ.ty t=some r→TyOk P t r
section
variable {P:Program} {Γ:Ctx} {g:Gh} {β:Nat→Option Nat} {w:World} {a:Act} {s:Fr}
theorem SlotR.av' {x:AV}{v:Value}(h:SlotR g β w (.av x) v):AVR g w x v:=by cases h;assumption
theorem SlotR.one {c:Cell}{v:Value}(h:SlotR g β w (.av (.one c)) v):R g w c v:=by cases h.av';assumption
theorem SlotR.agg {cs:List Cell}{v:Value}(h:SlotR g β w (.av (.agg cs)) v):∃ vs:List Value,v=.agg vs.toArray∧RL g w cs vs:=by
 cases h.av' with
 | agg _ vs h2=>exact⟨vs,rfl,h2⟩
theorem R.sc' {u v:Value}(h:R g w (.sc u) v):v=u:=by cases h;rfl
theorem SlotR.sc {u v:Value}(h:SlotR g β w (.av (.one (.sc u))) v):v=u:=h.one.sc'
theorem SlotR.tup' {xs:List AV}{v:Value}(h:SlotR g β w (.tup xs) v):∃ vs:List Value,v=.tuple vs.toArray∧AL g w xs vs:=by
 cases h with
 | tup xs vs h=>exact⟨vs,rfl,h⟩
theorem SlotR.loc' {t off:Nat}{v:Value}(h:SlotR g β w (.loc t off) v):∃ blk,β t=some blk∧v=.pointer (some ⟨blk,off,none⟩):=by
 cases h with
 | loc t off blk h=>exact⟨blk,h,rfl⟩
theorem SlotR.mkSc {u:Value}(h:u.oneCell'=true):SlotR g β w (.av (.one (.sc u))) u:=.av _ _ (.one _ _ (.sc _ h))
theorem SlotR.mk1 {c:Cell}{v:Value}(h:R g w c v):SlotR g β w (.av (.one c)) v:=.av _ _ (.one _ _ h)
theorem R.lst' {f:Bool}{sz:Nat}{rows:List (List Cell)}{v:Value}(h:R g w (.lst f sz rows) v):∃ ad cap,v=.slice ad rows.length cap∧rows.length≤cap:=by
 cases h with
 | nil full sz a cap h=>exact⟨a,cap,rfl,Nat.zero_le _⟩
 | lst _ _ _ b o cap val hne hf hc hsz hp=>exact⟨_,cap,rfl,hc⟩
theorem R.vs' {id sz off len ep:Nat}{v:Value}(h:R g w (.vs id sz off len ep) v):∃ ad cap,v=.slice ad len cap∧len≤cap:=by
 cases h with
 | vs _ _ _ _ _ a cap o ho hle hn hlc h=>exact⟨a,cap,rfl,hlc⟩
theorem qgbc {c:Cell}{v:Value}{n:Nat}(h:R g w c v)(hn:lenC c=some n):∃ ad cap,v=.slice ad n cap:=by
 cases c<;>simp only[lenC,Option.some.injEq,reduceCtorEq] at hn
 ·obtain⟨ad,cap,e,_⟩:=h.lst';exact⟨ad,cap,by rw[e,hn]⟩
 ·obtain⟨ad,cap,e,_⟩:=h.vs';exact⟨ad,cap,by rw[e,hn]⟩
def Looks (g:Gh)(β:Nat→Option Nat)(w:World)(s:Fr)(a:Act)(xs:List Operand):Prop:=∀ t,Operand.tmp t∈xs→SlotR g β w (s.slot t) (a.eval (.tmp t))
theorem qkvb (sz:Nat)(v:Value):SlotR g β w (qst sz v) v:=by
 unfold qst
 split
 ·exact .mk1 (.nil true sz none 0 fun _=>rfl)
 ·rename_i cs
  split
  ·rename_i h
   refine .av _ _ ?_
   have:=AVR.agg (g:=g) (w:=w) (cs.toList.map .sc) cs.toList ?_
   ·simpa using this
   ·have h':∀ v∈cs.toList,v.oneCell'=true:=List.all_eq_true.1 h
    generalize cs.toList=l at h'
    induction l with
    | nil=>exact All2.nil
    | cons v l ih=>exact All2.cons (.sc v (h' v (by simp))) (ih fun u hu=>h' u (by simp[hu]))
  ·exact .undef _
 ·exact .undef _
 ·rename_i h1 h2 h3
  refine .mkSc ?_
  cases v<;>first | rfl | (exact(h2 _ rfl).elim) | (exact(h3 _ rfl).elim)
theorem qfg {xs:List Operand}(h:Looks g β w s a xs)(t:TypeId){x:Operand}(hx:x∈xs):SlotR g β w (opd Γ s t x) (a.eval x):=by
 cases x with
 | tmp y=>exact h y hx
 | const v=>exact qkvb _ v
 | global g=>exact .undef _
 | func f=>exact .mk1 (R.fn f [] [] (fun _=>undef) (fun _=>undef) (by simp) (by simp))
theorem Looks.sub {xs ys:List Operand}(h:Looks g β w s a xs)(hs:∀ x∈ys,x∈xs):Looks g β w s a ys:=fun t ht=>h t (hs _ ht)
def Yl (P:Program)(a:Act)(w:World)(o:Oper)(g:Gh)(β:Nat→Option Nat)(v:Slot):Prop:=∃ v',(execOp a.eval o).run P w=.ok (.value v') w∧SlotR g β w v v'
theorem qcv (op:BinOp)(t:TypeId)(x y:Operand)(u v:Value)(hu:u.oneCell'=true)(hv:u≠.nilIface):(eqGuard op t x y u v).run P w=.ok () w:=by
 unfold eqGuard
 cases op<;>cases u<;>first | rfl | (simp[Value.oneCell'] at hu;done) | (exact absurd rfl hv) | (cases v<;>rfl)
theorem qugb {α:Type}{op:BinOp}{k:IntKind}{x y:Int}{t:TypeId}{κ:Value→Option α}{r:α}(h:qshc op k x y κ=some r):
    ∃ u, κ u = some r ∧ u.oneCell' = true ∧ (Go.binOp op t (.int k x) (.int k y)).run P w = .ok u w := by
  cases op <;> simp only [qshc, reduceCtorEq] at h <;> first
    | (refine ⟨_, h, rfl, ?_⟩; simp [Go.binOp, Op.intArith, Op.intCmp, bne]; done)
    | (refine ⟨_, h, rfl, ?_⟩; simp only [Go.binOp, ne_eq, not_true_eq_false, if_false]; rfl)
    | (split at h
       · exact absurd h (by simp)
       · rename_i hy
         exact ⟨_, h, rfl, by simp [Go.binOp, Op.intDiv, hy]⟩)
theorem qznb {α:Type}{op:BinOp}{x y:ByteArray}{t:TypeId}{κ:Value→Option α}{r:α}(h:qsdc op x y κ=some r):
  ∃ u,κ u=some r∧u.oneCell'=true∧(Go.binOp op t (.string x) (.string y)).run P w=.ok u w:=by
 cases op<;>simp only[qsdc,reduceCtorEq] at h
 case add=>
  unfold catS at h
  split at h
  ·rename_i hs
   refine⟨_,h,rfl,?_⟩
   have:¬ (IntKind.i64.max < ((x.size+y.size:Nat):Int)):=by
    have:IntKind.i64.max=9223372036854775807:=by decide
    omega
   simp[Go.binOp,Op.stringOp]
   simp at this
   omega
  ·simp at h
 all_goals exact⟨_,h,rfl,by simp[Go.binOp,Op.stringOp]⟩
theorem qhm {α β:Type}{f:α→Option β}{x:α}{xs:List α}{ys:List β}(h:mapO f (x::xs)=some ys):∃ y zs,ys=y::zs∧f x=some y∧mapO f xs=some zs:=by
 simp only[mapO] at h
 split at h
 ·rename_i y hy
  split at h
  ·rename_i zs hz
   simp only[Option.some.injEq] at h
   exact⟨y,zs,h.symm,hy,hz⟩
  ·simp at h
 ·simp at h
theorem qqy {α β:Type}{f:α→Option β}{xs:List α}:∀ {ys:List β},mapO f xs=some ys→ys.length=xs.length:=by
 induction xs with
 | nil=>intro ys h;simp[mapO] at h;subst h;rfl
 | cons x xs ih=>
  intro ys h
  obtain⟨y,zs,rfl,_,h2⟩:=qhm h
  simp[ih h2]
theorem qmp {t:TypeId}{q:Ty}{k:Kd}{c d:Cell}{u v:Value}(D:Nat)(hq:TyOk P t q)(hk:q.kd=k)(hc:R g w c u)(hd:R g w d v){b:Bool}(h:qmsb k c d=some b):
  (Op.equalIn (D+1) t u v).run P w=.ok b w:=by
 have hkd:=hq.kd
 rw[hk] at hkd
 unfold qmsb at h
 split at h
 ·rename_i x y
  simp only[Option.some.injEq] at h
  rw[hc.sc',hd.sc',← h]
  exact run_equalIn_string w D t x y hkd
 ·rename_i q k x k' y
  split at h
  ·rename_i hh
   obtain⟨rfl,rfl⟩:=hh
   simp only[Option.some.injEq] at h
   rw[hc.sc',hd.sc',← h]
   exact run_equalIn_int w D t _ _ x y hkd
  ·simp at h
 ·rename_i x y
  simp only[Option.some.injEq] at h
  rw[hc.sc',hd.sc',← h]
  exact run_equalIn_bool w D t x y hkd
 ·simp at h
theorem qiq {q:Ty}(h:q.kd.plain=true):q.isAgg=false:=by
 unfold Ty.isAgg
 cases hk:q.kd<;>rw[hk] at h<;>first | rfl | simp[Kd.plain] at h
theorem qvp {fs:List Field}{ks:List Kd}{cs ds:List Cell}{us vs:List Value}(d:Nat)
  (hty:All2 (fun (f:Field) k=>∃ q,TyOk P f.type q∧q.kd=k∧k.plain=true) fs ks) (hn:∀ f∈fs,f.name≠ "_") (o:Nat)
  (ho:fs.map (·.offset)=(List.range fs.length).map (o+·)) (hc:RL g w cs us) (hd:RL g w ds vs) {b:Bool}
  (h:qdk ks (cs.drop o) (ds.drop o)=some b):(Op.eqFields (d+1) us.toArray vs.toArray fs).run P w=.ok b w:=by
 induction hty generalizing o b with
 | nil=>
  cases h1:cs.drop o<;>cases h2:ds.drop o<;>rw[h1,h2] at h<;>simp only[qdk,reduceCtorEq,Option.some.injEq] at h
  subst h
  rfl
 | @cons f k fs ks hf ht ih=>
  have ho':f.offset=o∧fs.map (·.offset)=(List.range fs.length).map (o+1+·):=by
   rw[List.length_cons,List.range_succ_eq_map] at ho
   simp only[List.map_cons,List.map_map,List.cons.injEq] at ho
   refine⟨by simpa using ho.1,ho.2.trans ?_⟩
   apply List.map_congr_left
   intro x _
   simp;omega
  have hlt1:o < cs.length:=by
   rcases Nat.lt_or_ge o cs.length with h' | h'
   ·exact h'
   ·rw[List.drop_eq_nil_of_le h'] at h;simp[qdk] at h
  have hlt2:o < ds.length:=by
   rcases Nat.lt_or_ge o ds.length with h' | h'
   ·exact h'
   ·rw[List.drop_eq_nil_of_le h',List.drop_eq_getElem_cons hlt1] at h;simp[qdk] at h
  rw[List.drop_eq_getElem_cons hlt1,List.drop_eq_getElem_cons hlt2] at h
  simp only[qdk] at h
  obtain⟨u,hu,ru⟩:=hc.get (List.getElem?_eq_getElem hlt1)
  obtain⟨v,hv,rv⟩:=hd.get (List.getElem?_eq_getElem hlt2)
  obtain⟨q,hq,hk,hpl⟩:=hf
  have hagg:q.isAgg=false:=qiq (by rw[hk];exact hpl)
  have hp1:(part f.type us.toArray f.offset).run P w=.ok u w:=by
   simp[part,hq.run_isAgg,hagg,ho'.1,hu]
  have hp2:(part f.type vs.toArray f.offset).run P w=.ok v w:=by
   simp[part,hq.run_isAgg,hagg,ho'.1,hv]
  cases he:qmsb k cs[o] ds[o] with
  | none=>rw[he] at h;simp at h
  | some b1=>
   rw[he] at h
   simp only at h
   cases hr:qdk ks (cs.drop (o+1)) (ds.drop (o+1)) with
   | none=>rw[hr] at h;simp at h
   | some b2=>
    rw[hr] at h
    simp only[Option.some.injEq] at h
    have hih:=ih (fun f hf=>hn f (by simp[hf])) (o+1) ho'.2 hr
    have hone:=qmp d hq hk ru rv he
    simp only[Op.eqFields,if_pos (hn f (by simp)),Sem.run_bind,hp1,hp2,Result.andThen_ok,hone]
    cases b1 with
    | true=>simp[hih,← h]
    | false=>simp[← h]
theorem qox (hΓ:CtxOk P Γ){t:TypeId}{r:Ty}(hr:TyOk P t r){ks:List Kd}(h:qkq Γ r=some ks):
  ∃ fields:Array Field,P.underlying t=some (.struct fields)∧P.stoodInHeld t=false∧(∀ f∈fields.toList,f.name≠ "_")∧
   All2 (fun (f:Field) k=>∃ q,TyOk P f.type q∧q.kd=k∧k.plain=true) fields.toList ks∧fields.toList.map (·.offset)=(List.range fields.toList.length).map (0+·):=by
 unfold qkq at h
 have hk:=hr.kd
 split at h
 ·rename_i fs hfs
  rw[hfs] at hk
  obtain⟨fields,hu,hf,hn,hst,_⟩:=hk
  split at h
  ·rename_i hh
   refine⟨fields,hu,hst,hn,?_,?_⟩
   ·generalize fields.toList=l at hf
    clear hh hfs hn
    induction l generalizing fs ks with
    | nil=>subst hf;simp[mapO] at h;subst h;exact .nil
    | cons f l ih=>
     subst hf
     obtain⟨k,ks',rfl,h1,h2⟩:=qhm h
     refine .cons ?_ (ih _ h2 rfl)
     split at h1
     ·rename_i q hq
      split at h1
      ·rename_i hpl
       simp only[Option.some.injEq] at h1
       subst h1
       exact⟨q,hΓ.ty _ _ hq,rfl,hpl⟩
      ·simp at h1
     ·simp at h1
   ·have h1:=hh.1
    rw[← hf] at h1
    rw[List.map_map,List.length_map] at h1
    rw[show(fun f:Field=>f.offset)=((fun x:Nat×TypeId=>x.1) ∘ fun f=>(f.offset,f.type)) from rfl,h1]
    simp
  ·simp at h
 ·simp at h
theorem qus {e:TypeId}{q:Ty}{k:Kd}{cs ds:List Cell}{us vs:List Value}(d:Nat)(hq:TyOk P e q)(hk:q.kd=k)(hpl:k.plain=true)(hc:RL g w cs us)(hd:RL g w ds vs):
  ∀ (n o:Nat) {b:Bool},qdk (List.replicate n k) (cs.drop o) (ds.drop o)=some b→(Op.eqItems (d+1) e 1 us.toArray vs.toArray (List.range' o n)).run P w=.ok b w:=by
 intro n
 induction n with
 | zero=>
  intro o b h
  rw[List.replicate_zero] at h
  cases h1:cs.drop o<;>cases h2:ds.drop o<;>rw[h1,h2] at h<;>simp only[qdk,reduceCtorEq,Option.some.injEq] at h
  subst h
  rfl
 | succ n ih=>
  intro o b h
  rw[List.replicate_succ] at h
  have hlt1:o < cs.length:=by
   rcases Nat.lt_or_ge o cs.length with h' | h'
   ·exact h'
   ·rw[List.drop_eq_nil_of_le h'] at h;simp[qdk] at h
  have hlt2:o < ds.length:=by
   rcases Nat.lt_or_ge o ds.length with h' | h'
   ·exact h'
   ·rw[List.drop_eq_nil_of_le h',List.drop_eq_getElem_cons hlt1] at h;simp[qdk] at h
  rw[List.drop_eq_getElem_cons hlt1,List.drop_eq_getElem_cons hlt2] at h
  simp only[qdk] at h
  obtain⟨u,hu,ru⟩:=hc.get (List.getElem?_eq_getElem hlt1)
  obtain⟨v,hv,rv⟩:=hd.get (List.getElem?_eq_getElem hlt2)
  have hagg:q.isAgg=false:=qiq (by rw[hk];exact hpl)
  have hp1:(part e us.toArray (o*1)).run P w=.ok u w:=by
   simp[part,hq.run_isAgg,hagg,hu]
  have hp2:(part e vs.toArray (o*1)).run P w=.ok v w:=by
   simp[part,hq.run_isAgg,hagg,hv]
  cases he:qmsb k cs[o] ds[o] with
  | none=>rw[he] at h;simp at h
  | some b1=>
   rw[he] at h
   simp only at h
   cases hr:qdk (List.replicate n k) (cs.drop (o+1)) (ds.drop (o+1)) with
   | none=>rw[hr] at h;simp at h
   | some b2=>
    rw[hr] at h
    simp only[Option.some.injEq] at h
    have hih:=ih (o+1) hr
    have hone:=qmp d hq hk ru rv he
    rw[List.range'_succ]
    simp only[Op.eqItems,Sem.run_bind,hp1,hp2,Result.andThen_ok,hone]
    cases b1 with
    | true=>simp[hih,← h]
    | false=>simp[← h]
theorem qkob {t e:TypeId}{n:Nat}{q:Ty}(hu:P.underlying t=some (.array n e))(hq:TyOk P e q)(hpl:q.kd.plain=true):P.eqGuardType P.depth t=false:=by
 have hd:P.depth=(2*(P.types.size+Made.depth))+1+1:=rfl
 rw[hd]
 simp only[Program.eqGuardType,hu]
 have hkd:=hq.kd
 cases hk:q.kd<;>rw[hk] at hpl hkd<;>simp[Kd.plain] at hpl<;>simp only[KdOk] at hkd<;>simp[hkd,Program.eqGuardType]
theorem qvd (hΓ:CtxOk P Γ){t:TypeId}{r:Ty}(hr:TyOk P t r){ks:List Kd}(h:qbbb Γ r=some ks):
  ∃ (n:Nat) (e:TypeId) (q:Ty),P.underlying t=some (.array n e)∧TyOk P e q∧q.kd.plain=true∧ks=List.replicate n q.kd∧P.cellsOf e=1∧∃ i,P.info? e=some i:=by
 unfold qbbb at h
 have hk:=hr.kd
 split at h
 ·rename_i n e hn
  rw[hn] at hk
  split at h
  ·rename_i q hq
   split at h
   ·rename_i hpl
    simp only[Option.some.injEq] at h
    have hq':=hΓ.ty _ _ hq
    obtain⟨i,z,hi,hs,_⟩:=hq'.info
    have h1:=hq'.one (qiq hpl)
    exact⟨n,e,q,hk,hq',hpl,h.symm,by simp[Program.cellsOf,hi,hs,h1],i,hi⟩
   ·simp at h
  ·simp at h
 ·simp at h
theorem qvs {t:TypeId}{fields:Array Field}{ks:List Kd}(hu:P.underlying t=some (.struct fields))
  (hty:All2 (fun (f:Field) k=>∃ q,TyOk P f.type q∧q.kd=k∧k.plain=true) fields.toList ks):P.eqGuardType P.depth t=false:=by
 have hd:P.depth=(2*(P.types.size+Made.depth))+1+1:=rfl
 rw[hd]
 simp only[Program.eqGuardType,hu]
 rw[← Array.any_toList]
 generalize fields.toList=l at hty
 clear hu hd
 induction hty with
 | nil=>rfl
 | cons h _ ih=>
  obtain⟨q,hq,hk,hpl⟩:=h
  have hkd:=hq.kd
  simp only[List.any_cons,ih,Bool.or_false]
  rw[hk] at hkd
  rename_i f k _ _ _
  cases k<;>simp[Kd.plain] at hpl<;>simp only[KdOk] at hkd<;>simp[hkd,Program.eqGuardType]
theorem qtdb {α:Type}{κ:Slot→Option α}{r:α}(hΓ:CtxOk P Γ){o:Oper}{op:BinOp}{t t':TypeId}{x y:Operand}(ho:o.op=.binOp op t x y t')(hl:Looks g β w s a o.op.operands.toList)
  (h:binK Γ op t (opd Γ s t x) (opd Γ s t y) κ=some r):∃ v,κ v=some r∧Yl P a w o g β v:=by
 have hx:=qfg (Γ:=Γ) hl t (x:=x) (by simp[ho,Op.operands])
 have hy:=qfg (Γ:=Γ) hl t (x:=y) (by simp[ho,Op.operands])
 have hrun:∀ v',(do eqGuard op t x y (a.eval x) (a.eval y);Go.binOp op t (a.eval x) (a.eval y):Sem Value).run P w=.ok v' w→(execOp a.eval o).run P w=.ok (.value v') w:=by
  intro v' hv
  simp only[execOp,ho]
  simp only[Sem.run_bind] at hv ⊢
  rw[hv];rfl
 generalize opd Γ s t x=sx at h hx
 generalize opd Γ s t y=sy at h hy
 unfold binK at h
 split at h
 ·rename_i k u k' v
  rw[hx.sc,hy.sc] at hrun
  have hg:=qcv (P:=P) (w:=w) op t x y (.int k u) (.int k' v) rfl (by simp)
  split at h
  ·split at h
   ·rename_i hv
    refine⟨_,h,_,hrun (.int k (shlI k u v)) ?_,.mkSc rfl⟩
    simp only[Sem.run_bind,hg,Result.andThen_ok]
    simp[Go.binOp,Op.shift,shlI,show ¬ v < 0 by omega]
   ·simp at h
  ·split at h
   ·rename_i hv
    refine⟨_,h,_,hrun (.int k (shrI k u v)) ?_,.mkSc rfl⟩
    simp only[Sem.run_bind,hg,Result.andThen_ok]
    simp[Go.binOp,Op.shift,shrI,show ¬ v < 0 by omega]
   ·simp at h
  ·split at h
   ·rename_i hk
    subst hk
    obtain⟨z,h1,h2,h3⟩:=qugb (P:=P) (w:=w) (t:=t) h
    exact⟨_,h1,z,hrun z (by simp only[Sem.run_bind,hg,Result.andThen_ok];exact h3),.mkSc h2⟩
   ·simp at h
 ·rename_i u v
  rw[hx.sc,hy.sc] at hrun
  have hg:=qcv (P:=P) (w:=w) op t x y (.string u) (.string v) rfl (by simp)
  obtain⟨z,h1,h2,h3⟩:=qznb (P:=P) (w:=w) (t:=t) h
  exact⟨_,h1,z,hrun z (by simp only[Sem.run_bind,hg,Result.andThen_ok];exact h3),.mkSc h2⟩
 ·rename_i u v
  rw[hx.sc,hy.sc] at hrun
  have hg:=qcv (P:=P) (w:=w) op t x y (.bool u) (.bool v) rfl (by simp)
  split at h
  ·rename_i hq
   have hq:=(hΓ.ty _ _ hq).kd
   have he:(Op.equal t (.bool u) (.bool v)).run P w=.ok (u==v) w:=run_equalIn_bool w 9999 t u v hq
   split at h
   ·refine⟨_,h,.bool (u==v),hrun _ ?_,.mkSc rfl⟩
    simp only[Sem.run_bind,hg,Result.andThen_ok]
    simp[Go.binOp,he]
   ·refine⟨_,h,.bool (!(u==v)),hrun _ ?_,.mkSc rfl⟩
    simp only[Sem.run_bind,hg,Result.andThen_ok]
    simp[Go.binOp,he]
   ·simp at h
  ·simp at h
 ·rename_i xs ys
  obtain⟨us,eu,ru⟩:=hx.agg
  obtain⟨vs,ev,rv⟩:=hy.agg
  rw[eu,ev] at hrun
  split at h
  ·rename_i q hq
   split at h
   ·rename_i ks hks
    obtain⟨fields,hu,hst,hn,ht,hof⟩:=qox hΓ (hΓ.ty _ _ hq) hks
    have hg:=run_eqGuard_agg (P:=P) w op t x y us.toArray vs.toArray (qvs hu ht)
    have hfl:P.fieldsOf t=fields:=by simp[Program.fieldsOf,hu]
    have heq:∀ b,qdk ks xs ys=some b→(Op.equalIn 10000 t (.agg us.toArray) (.agg vs.toArray)).run P w=.ok b w:=by
     intro b hb
     have h1:=run_equalIn_struct (P:=P) w 9999 t us.toArray vs.toArray (by rw[hfl];exact hu) hst
     rw[h1,hfl]
     exact qvp 9998 ht hn 0 hof ru rv (by simpa using hb)
    split at h
    ·obtain⟨b,hb,h⟩:=Option.bind_eq_some_iff.1 h
     refine⟨_,h,.bool b,hrun _ ?_,.mkSc rfl⟩
     simp only[Sem.run_bind,hg,Result.andThen_ok,run_eql_struct,heq b hb]
    ·obtain⟨b,hb,h⟩:=Option.bind_eq_some_iff.1 h
     refine⟨_,h,.bool (!b),hrun _ ?_,.mkSc rfl⟩
     simp only[Sem.run_bind,hg,Result.andThen_ok,run_neq_struct,heq b hb]
    ·simp at h
   ·split at h
    ·rename_i ks hks
     obtain⟨n,e,q',hu,hq',hpl,rfl,hce,i,hi⟩:=qvd hΓ (hΓ.ty _ _ hq) hks
     have hg:=run_eqGuard_agg (P:=P) w op t x y us.toArray vs.toArray (qkob hu hq' hpl)
     have heq:∀ b,qdk (List.replicate n q'.kd) xs ys=some b→(Op.equalIn 10000 t (.agg us.toArray) (.agg vs.toArray)).run P w=.ok b w:=by
      intro b hb
      rw[run_equalIn_array (P:=P) w 9999 us.toArray vs.toArray hu hi,hce,List.range_eq_range']
      exact qus 9998 hq' rfl hpl ru rv n 0 (by simpa using hb)
     split at h
     ·obtain⟨b,hb,h⟩:=Option.bind_eq_some_iff.1 h
      refine⟨_,h,.bool b,hrun _ ?_,.mkSc rfl⟩
      simp only[Sem.run_bind,hg,Result.andThen_ok,run_eql_struct,heq b hb]
     ·obtain⟨b,hb,h⟩:=Option.bind_eq_some_iff.1 h
      refine⟨_,h,.bool (!b),hrun _ ?_,.mkSc rfl⟩
      simp only[Sem.run_bind,hg,Result.andThen_ok,run_neq_struct,heq b hb]
     ·simp at h
    ·simp at h
  ·simp at h
 ·simp at h
theorem qvc {α:Type}{c:Cell}{v:Value}{x y:Option α}{r:α}(h:nilC c x y=some r)(hr:R g w c v):∃ a n k,v=.slice a n k∧((x=some r)∨(y=some r∧a.isNone=false)):=by
 cases c<;>simp only[nilC] at h<;>try (simp at h;done)
 case lst full sz rows=>
  cases hr with
  | nil _ _ a cap _=>exact⟨_,_,_,rfl,.inl h⟩
  | lst _ _ _ b o cap val hne=>
   cases rows with
   | nil=>exact absurd rfl hne
   | cons _ _=>exact⟨_,_,_,rfl,.inr ⟨h,rfl⟩⟩
 case vs id sz off len ep=>
  cases hr with
  | vs _ _ _ _ _ a cap o ho hle hn hlc hh=>
   refine⟨_,_,_,rfl,?_⟩
   cases hl:(len==0) with
   | true=>rw[hl] at h;exact .inl h
   | false=>
    rw[hl] at h
    refine .inr ⟨h,?_⟩
    cases a with
    | none=>rw[hn rfl] at hl;simp at hl
    | some _=>rfl
theorem qalc {α:Type}{κ:Slot→Option α}{r:α}(hΓ:CtxOk P Γ){o:Oper}{op:BinOp}{t t':TypeId}{x:Operand}(ho:o.op=.binOp op t x (.const (.slice none 0 0)) t')(hl:Looks g β w s a o.op.operands.toList)
  (h:nilK Γ op t (opd Γ s t x) κ=some r):∃ v,κ v=some r∧Yl P a w o g β v:=by
 have hx:=qfg (Γ:=Γ) hl t (x:=x) (by simp[ho,Op.operands])
 have hrun:∀ v',(do eqGuard op t x (.const (.slice none 0 0)) (a.eval x) (.slice none 0 0);Go.binOp op t (a.eval x) (.slice none 0 0):Sem Value).run P w=.ok v' w→(execOp a.eval o).run P w=.ok (.value v') w:=by
  intro v' hv
  simp only[execOp,ho]
  simp only[Sem.run_bind] at hv ⊢
  have:a.eval (.const (.slice none 0 0))=.slice none 0 0:=rfl
  rw[this,hv];rfl
 unfold nilK at h
 split at h
 ·rename_i e _ _ _ _ hty
  have hk:=(hΓ.ty _ _ hty).kd
  have hk:P.underlying t=some (.slice e):=hk
  generalize opd Γ s t x=sx at h hx
  split at h
  ·rename_i c
   obtain⟨ad,n,k,ev,hh⟩:=qvc h hx.one
   rw[ev] at hrun
   have hg:=qcv (P:=P) (w:=w) .eql t x (.const (.slice none 0 0)) (.slice ad n k) (.slice none 0 0) rfl (by simp)
   have hb:(do eqGuard .eql t x (.const (.slice none 0 0)) (.slice ad n k) (.slice none 0 0);Go.binOp .eql t (.slice ad n k) (.slice none 0 0):Sem Value).run P w=.ok (.bool ad.isNone) w:=by
    simp only[Sem.run_bind,hg,Result.andThen_ok]
    exact Lib.run_eql_slice_nil w t e ad n k 0 0 hk
   rcases hh with hh | ⟨hh,hn⟩
   ·exact⟨_,hh,_,hrun _ hb,.anyb _⟩
   ·exact⟨_,hh,_,hrun _ hb,by rw[hn];exact .mkSc rfl⟩
  ·rename_i c
   obtain⟨ad,n,k,ev,hh⟩:=qvc h hx.one
   rw[ev] at hrun
   have hg:=qcv (P:=P) (w:=w) .neq t x (.const (.slice none 0 0)) (.slice ad n k) (.slice none 0 0) rfl (by simp)
   have hb:(do eqGuard .neq t x (.const (.slice none 0 0)) (.slice ad n k) (.slice none 0 0);Go.binOp .neq t (.slice ad n k) (.slice none 0 0):Sem Value).run P w=.ok (.bool (!ad.isNone)) w:=by
    simp only[Sem.run_bind,hg,Result.andThen_ok]
    have:=Lib.run_eql_slice_nil w t e ad n k 0 0 hk
    simp only[Go.binOp,Sem.run_bind] at this ⊢
    generalize (Op.equal t (.slice ad n k) (.slice none 0 0)).run P w=q at this ⊢
    cases q<;>simp_all [Result.andThen,Sem.run_pure]
   rcases hh with hh | ⟨hh,hn⟩
   ·exact⟨_,hh,_,hrun _ hb,.anyb _⟩
   ·exact⟨_,hh,_,hrun _ hb,by rw[hn];exact .mkSc rfl⟩
  ·simp at h
 ·simp at h
end
end Go.Ev
