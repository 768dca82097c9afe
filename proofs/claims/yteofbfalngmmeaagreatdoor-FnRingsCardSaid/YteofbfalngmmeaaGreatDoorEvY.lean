/- Tables of types: from computed facts to what the evaluator asks of a type. No program occurs here; conditions: what the theorems name. -/
import Derived.Test.YteofbfalngmmeaaGreatDoorEvS
import Derived.KernelRfl
namespace Go.Ev
open Go
inductive Tab (α:Type) where
 | leaf
 | node (v:Option α) (l r:Tab α)
def Tab.get {α:Type}:Tab α→Nat→Option α
 | .leaf,_=>none
 | .node v l r,n=>match n with
  | 0=>v
  | k+1=>cond (Nat.beq (k % 2) 0) (l.get (k / 2)) (r.get (k / 2))
def Tab.All {α:Type}(p:Nat→α→Prop):Tab α→(Nat→Nat)→Prop | .leaf,_=>True | .node v l r,e=>(∀ x,v=some x→p (e 0) x)∧l.All p (fun k=>e (2*k+1))∧r.All p (fun k=>e (2*k+2))
theorem oN {α:Type}{P:α→Prop}:∀ x,(none:Option α)=some x→P x:=fun _ h=>(nomatch h)
theorem oJ {α:Type}{P:α→Prop}{v:α}(k:P v):∀ x,some v=some x→P x:=fun _ h=>Option.some.inj h▸k
theorem Tab.All.get {α:Type}{p:Nat→α→Prop}{t:Tab α}:∀ {e:Nat→Nat} {n:Nat} {x:α},t.All p e→t.get n=some x→p (e n) x:=by
 induction t with
 | leaf=>intro e n x _ h;simp[Tab.get] at h
 | node v l r ihl ihr=>
  intro e n x ha h
  obtain⟨h1,h2,h3⟩:=ha
  cases n with
  | zero=>exact h1 x h
  | succ k=>
   simp only[Tab.get] at h
   have hd:=Nat.div_add_mod k 2
   have hm:=Nat.mod_lt k (show 0 < 2 by decide)
   cases hb:Nat.beq (k % 2) 0 with
   | true=>
    rw[hb] at h
    have hz:=Nat.eq_of_beq_eq_true hb
    have:=ihl h2 h
    rw[show 2*(k / 2)+1=k+1 by omega] at this
    exact this
   | false=>
    rw[hb] at h
    have hz:k % 2≠0:=fun hh=>by rw[hh] at hb;simp at hb
    have:=ihr h3 h
    rw[show 2*(k / 2)+2=k+1 by omega] at this
    exact this
def fiOf (f:Func)(rkd:List (Bool×List Kd))(locs:List Nat)(keep joins:List (Nat×List Nat))(deep:Bool)(mode:Mode)(lits:Bool:=false)(loose:Bool:=false)(bare:Bool:=false):FI:=⟨f.body.getD .skip,f.ntmps,f.results.toList,rkd,locs,keep,joins,deep,mode,lits,loose,bare⟩
def FiAt (P:Program)(f:FuncId)(q:FI):Prop:=(∀ args w,(callFunc f args).run P w=.ok (.enter f args) w)∧∃ fn,P.funcs[f]?=some fn∧fn.body=some q.code∧fn.ntmps=q.ntmps∧fn.results.toList=q.res∧∀ d∈q.locs,d < q.ntmps
theorem qaf {P:Program}{f:FuncId}{fn:Func}{rkd:List (Bool×List Kd)}{locs:List Nat}{keep joins:List (Nat×List Nat)}{deep:Bool}{mode:Mode}{lits loose bare:Bool}(hf:P.funcs[f]?=some fn)
  (hb:(fn.name != "runtime.NumGoroutine"&&fn.body.isSome&&locs.all fun d=>decide (d < fn.ntmps))=true):FiAt P f (fiOf fn rkd locs keep joins deep mode lits loose bare):=by
 simp only[Bool.and_eq_true,bne_iff_ne,List.all_eq_true,decide_eq_true_eq] at hb
 obtain⟨⟨h1,h2⟩,h3⟩:=hb
 obtain⟨c,hc⟩:=Option.isSome_iff_exists.1 h2
 refine⟨fun args w=>?_,fn,hf,?_,rfl,rfl,h3⟩
 ·simp[callFunc,hf,h1,hc]
 ·simp[fiOf,hc]
theorem ctxOk_of {P:Program}{Γ:Ctx}{t:Tab Ty}(h:Γ.ty=t.get)(ha:t.All (TyOk P) id):CtxOk P Γ:=
 ⟨fun n r hn=>ha.get (by rw[h] at hn;exact hn)⟩
theorem qydc {P:Program}{Γ:Ctx}{t:Tab FI}(h:Γ.fi=t.get)(ha:t.All (FiAt P) id):FiOk P Γ:=
 ⟨fun f q hq=>(ha.get (by rw[h] at hq;exact hq)).1,fun f q hq _=>(ha.get (by rw[h] at hq;exact hq)).2⟩
def fieldsOf:Option TypeDesc→Array Field | some (.struct fs)=>fs | _=>#[]
def qdkd (P:Program)(t:TypeId):Option (Nat×Nat×Option Value):=(P.info? t).map fun i=>(i.size,i.bytes,i.zero)
def qecc (P:Program)(t:TypeId)(fs:Array Field):Bool:=
 (fs.toList.all fun f=>f.name != "_")&&!P.stoodInHeld t&&fs.toList.all fun f=>match P.info? f.type with
  | some i=>i.size != 0
  | none=>false
theorem qbr {P:Program}{t:TypeId}{fs:List (Nat×TypeId)}(h1:P.underlying t=some (.struct (fieldsOf (P.underlying t))))(h2:((fieldsOf (P.underlying t)).toList.map fun f=>(f.offset,f.type))=fs)
  (h3:qecc P t (fieldsOf (P.underlying t))=true):KdOk P t (.struct fs):=by
 simp only[qecc,Bool.and_eq_true,List.all_eq_true,Bool.not_eq_true',bne_iff_ne] at h3
 refine⟨_,h1,h2,h3.1.1,h3.1.2,fun f hf=>?_⟩
 have:=h3.2 f hf
 split at this
 ·rename_i i hi
  exact⟨i,hi,by simpa using this⟩
 ·simp at this
theorem kd_bld {P:Program}{t e:TypeId}{n m:Nat}(h1:P.underlying t=some (.struct (fieldsOf (P.underlying t))))(h2:qdkd P t=some (n,m,some (.agg #[.pointer none,.slice none 0 0]))):KdOk P t (.bld e):=by
 unfold qdkd at h2
 cases h:P.info? t with
 | none=>rw[h] at h2;simp at h2
 | some i=>
  rw[h] at h2
  simp only[Option.map_some,Option.some.injEq,Prod.mk.injEq] at h2
  exact⟨⟨_,h1⟩,i,h,h2.2.2⟩
theorem qau {P:Program}{t:TypeId}{r:Ty}{z:Value}(hk:KdOk P t r.kd)(hi:qdkd P t=some (r.size,r.bytes,some z))(hz:All2 ZR r.zero z.cells.toList)(hc:r.cells.length=r.size)(hl:r.zero.length=r.size)
  (hp:0 < r.size) (ho:r.isAgg=false→r.size=1) (ha:aggV z=r.isAgg:=by rfl):TyOk P t r:=by
 unfold qdkd at hi
 cases h:P.info? t with
 | none=>rw[h] at hi;simp at hi
 | some i=>
  rw[h] at hi
  simp only[Option.map_some,Option.some.injEq,Prod.mk.injEq] at hi
  exact⟨hk,⟨i,z,h,hi.1,hi.2.1,hi.2.2,hz⟩,hc,hl,hp,ho,fun i' z' h1 h2=>by rw[h] at h1;simp only[Option.some.injEq] at h1;rw[← h1,hi.2.2] at h2;simp only[Option.some.injEq] at h2;rw[← h2];exact ha⟩
end Go.Ev
