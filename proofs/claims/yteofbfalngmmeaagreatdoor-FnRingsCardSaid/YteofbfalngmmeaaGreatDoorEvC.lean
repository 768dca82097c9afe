/- Running the model's small operations: types, reading and writing a run of cells, new blocks. No program occurs here; conditions: what each lemma names. -/
import Derived.Test.YteofbfalngmmeaaGreatDoorEvB
import Derived.Laws.Cells
namespace Go.Ev
open Go
inductive ZR:Cell→Value→Prop
 | sc (v:Value) (h:v.oneCell'=true):ZR (.sc v) v
 | nil (sz:Nat):ZR (.lst true sz []) (.slice none 0 0)
theorem ZR.r {c:Cell}{v:Value}(h:ZR c v)(g:Gh)(w:World):R g w c v:=by
 cases h with
 | sc v h=>exact .sc v h
 | nil sz=>exact .nil true sz none 0 fun _=>rfl
theorem All2.map {α β:Type}{r q:α→β→Prop}(hq:∀ a b,r a b→q a b){as:List α}{bs:List β}(h:All2 r as bs):All2 q as bs:=by
 induction h with
 | nil=>exact .nil
 | cons a _ ih=>exact .cons (hq _ _ a) ih
theorem All2.length {α β:Type}{r:α→β→Prop}{as:List α}{bs:List β}(h:All2 r as bs):bs.length=as.length:=by
 induction h with
 | nil=>rfl
 | cons _ _ ih=>simp[ih]
def KdOk (P:Program)(t:TypeId):Kd→Prop | .bool=>P.underlying t=some .bool | .int k=>P.underlying t=some (.int k) | .str=>P.underlying t=some .string | .slice e=>P.underlying t=some (.slice e) | .ptr e=>P.underlying t=some (.pointer e) | .func=>∃ a b c,P.underlying t=some (.func a b c) | .map k e=>P.underlying t=some (.map k e) | .bld _=>(∃ fields:Array Field,P.underlying t=some (.struct fields))∧∃ i,P.info? t=some i∧i.zero=some (.agg #[.pointer none,.slice none 0 0]) | .struct fs=>∃ fields:Array Field,P.underlying t=some (.struct fields)∧(fields.toList.map fun f=>(f.offset,f.type))=fs∧(∀ f∈fields.toList,f.name≠ "_")∧P.stoodInHeld t=false∧(∀ f∈fields.toList,∃ i,P.info? f.type=some i∧i.size≠0) | .array n e=>P.underlying t=some (.array n e)
def aggV:Value→Bool | .agg _=>true | _=>false
structure TyOk (P:Program)(t:TypeId)(r:Ty):Prop where
 kd:KdOk P t r.kd
 info:∃ i z,P.info? t=some i∧i.size=r.size∧i.bytes=r.bytes∧i.zero=some z∧All2 ZR r.zero z.cells.toList
 cells:r.cells.length=r.size
 zero:r.zero.length=r.size
 pos:0 < r.size
 one:r.isAgg=false→r.size=1
 zagg:∀ i z,P.info? t=some i→i.zero=some z→aggV z=r.isAgg
section
variable {P:Program} {w:World} {t:TypeId} {r:Ty}
theorem TyOk.desc (h:TyOk P t r):∃ d,P.underlying t=some d∧(r.isAgg=match d with | .struct _=>true | .array _ _=>true | _=>false):=by
 have hk:=h.kd
 unfold Ty.isAgg
 cases hr:r.kd<;>rw[hr] at hk<;>simp only[KdOk] at hk
 case func=>obtain⟨a,b,c,hk⟩:=hk;exact⟨_,hk,rfl⟩
 case struct fs=>obtain⟨f,hk,_⟩:=hk;exact⟨_,hk,rfl⟩
 case bld e=>obtain⟨⟨f,hk⟩,_⟩:=hk;exact⟨_,hk,rfl⟩
 all_goals exact⟨_,hk,rfl⟩
theorem qaj {d:TypeDesc}(h:P.underlying t=some d):(underlying t).run P w=.ok d w:=by
 simp[underlying,h]
theorem TyOk.run_typeInfo (h:TyOk P t r):∃ i,(typeInfo t).run P w=.ok i w∧i.size=r.size∧i.bytes=r.bytes:=by
 obtain⟨i,z,hi,hs,hb,_⟩:=h.info
 exact⟨i,by simp[typeInfo,hi],hs,hb⟩
theorem TyOk.run_sizeOf (h:TyOk P t r):(sizeOf t).run P w=.ok r.size w:=by
 obtain⟨i,z,hi,hs,hb,_⟩:=h.info
 simp[sizeOf,typeInfo,hi,hs]
theorem TyOk.run_isAgg (h:TyOk P t r):(isAgg t).run P w=.ok r.isAgg w:=by
 obtain⟨d,hd,e⟩:=h.desc
 rw[e]
 simp only[isAgg,Sem.run_bind,qaj hd,Result.andThen_ok]
 cases d<;>rfl
theorem TyOk.run_zero (h:TyOk P t r):∃ z,(zeroValue t).run P w=.ok z w∧All2 ZR r.zero z.cells.toList:=by
 obtain⟨i,z,hi,hs,hb,hz,ha⟩:=h.info
 exact⟨z,by simp[zeroValue,typeInfo,hi,hz],ha⟩
theorem TyOk.zero_int (h:TyOk P t r)(h0:r.zero=[.sc (.int .i64 0)])(ha:r.isAgg=false):∀ w,(zeroValue t).run P w=.ok (.int .i64 0) w:=by
 intro w
 obtain⟨i,z,hi,hs,hb,hz,hr⟩:=h.info
 have hg:=h.zagg i z hi hz
 rw[ha] at hg
 have hc:z.cells=#[z]:=by cases z<;>first | rfl | simp[aggV] at hg
 rw[h0,hc] at hr
 cases hr with
 | cons hr _=>cases hr with
  | sc=>simp[zeroValue,typeInfo,hi,hz]
end
theorem addr_add (b o n:Nat):(⟨b,o,none⟩:Addr).add n=⟨b,o+n,none⟩:=by
 unfold Addr.add
 by_cases h:n=0
 ·subst h;simp
 ·simp[h]
def vOf (agg:Bool)(vs:List Value):Value:=if agg then .agg vs.toArray else vs.headD undef
theorem qsa {P:Program}{w:World}{t:TypeId}{r:Ty}(h:TyOk P t r)(b o:Nat)(vs:List Value)(hl:vs.length=r.size)
  (hc:∀ (j:Nat) v,vs[j]?=some v→w.cell? ⟨b,o+j,none⟩=some v):(loadVar t ⟨b,o,none⟩).run P w=.ok (vOf r.isAgg vs) w:=by
 simp only[loadVar,Sem.run_bind,h.run_isAgg,Result.andThen_ok]
 cases ha:r.isAgg with
 | true=>
  simp only[if_true,Sem.run_bind,h.run_sizeOf,Result.andThen_ok,vOf]
  have:=run_loadCells_list (P:=P) (w:=w) ⟨b,o,none⟩ vs (fun j v hj=>by rw[addr_add];exact hc j v hj)
  rw[hl] at this
  rw[this]
  rfl
 | false=>
  simp only[Bool.false_eq_true,if_false,vOf]
  have h1:=h.one ha
  match vs,hl with
  | [v],_=>have:=hc 0 v rfl;simp at this;simp[run_load,this]
  | [],hl=>simp at hl;omega
  | _::_::_,hl=>simp at hl;omega
def setCells (w:World)(b o:Nat):List Value→World | []=>w | v::vs=>setCells (w.setCell ⟨b,o,none⟩ v) b (o+1) vs
def ow (c:Array Value)(o:Nat):List Value→Array Value | []=>c | v::vs=>ow (c.setIfInBounds o v) (o+1) vs
theorem qux (c:Array Value)(o:Nat)(vs:List Value):(ow c o vs).size=c.size:=by
 induction vs generalizing c o with
 | nil=>rfl
 | cons v vs ih=>simp[ow,ih]
theorem qdec (vs:List Value):∀ (c:Array Value) (o j:Nat),o+vs.length≤c.size→(ow c o vs)[j]?=if o≤j∧j < o+vs.length then vs[j - o]? else c[j]?:=by
 induction vs with
 | nil=>intro c o j _;simp[ow];omega
 | cons v vs ih=>
  intro c o j h
  simp only[List.length_cons] at h
  rw[ow,ih _ _ _ (by simp;omega)]
  simp only[List.length_cons,Array.getElem?_setIfInBounds]
  by_cases h1:j=o
  ·subst h1
   rw[if_neg (by omega),if_pos (by omega)]
   simp;omega
  ·by_cases h2:o+1≤j∧j < o+1+vs.length
   ·rw[if_pos h2,if_pos (by omega)]
    have:j - o=(j - (o+1))+1:=by omega
    rw[this];rfl
   ·rw[if_neg h2,if_neg (by omega),if_neg (by omega)]
theorem qpi {w:World}{b:Nat}{c:Array Value}{t:TypeId}{fz:Nat×Nat}(h:w.heap[b]?=some (.cells c t fz))(o:Nat)(v:Value):
  (w.setCell ⟨b,o,none⟩ v).heap[b]?=some (.cells (c.setIfInBounds o v) t fz):=by
 simp only[World.setCell,Array.getElem?_modify,if_true,h,Option.map_some]
 rfl
theorem qex (vs:List Value):∀ {w:World} {b:Nat} {c:Array Value} {t:TypeId} {fz:Nat×Nat} (_:w.heap[b]?=some (.cells c t fz)) (o:Nat),
  (setCells w b o vs).heap[b]?=some (.cells (ow c o vs) t fz):=by
 induction vs with
 | nil=>intro w b c t fz h o;exact h
 | cons v vs ih=>intro w b c t fz h o;exact ih (qpi h o v) (o+1)
theorem qbk (vs:List Value):∀ (w:World) (b o k:Nat),k≠b→(setCells w b o vs).heap[k]?=w.heap[k]?:=by
 induction vs with
 | nil=>intro w b o k _;rfl
 | cons v vs ih=>
  intro w b o k h
  rw[setCells,ih _ _ _ _ h]
  exact Go.RowKit.Below.heap_setCell _ _ _ _ h
theorem setCells_size (vs:List Value):∀ (w:World) (b o:Nat),(setCells w b o vs).heap.size=w.heap.size:=by
 induction vs with
 | nil=>intro w b o;rfl
 | cons v vs ih=>intro w b o;rw[setCells,ih];simp
theorem qen (vs:List Value):∀ (w:World) (b o:Nat),(setCells w b o vs).os=w.os∧(setCells w b o vs).tape=w.tape∧(setCells w b o vs).output=w.output:=by
 induction vs with
 | nil=>intro w b o;exact⟨rfl,rfl,rfl⟩
 | cons v vs ih=>intro w b o;rw[setCells];exact ih _ _ _
theorem cell_of_block {w:World}{b:Nat}{c:Array Value}{t:TypeId}{fz:Nat×Nat}(h:w.heap[b]?=some (.cells c t fz))(j:Nat):w.cell? ⟨b,j,none⟩=c[j]?:=by
 simp[World.cell?,h]
theorem qhz (P:Program)(b:Nat)(t:TypeId)(fz:Nat×Nat)(vs:List Value):∀ (i:Nat) (c:Array Value) (w:World) (o:Nat),w.heap[b]?=some (.cells c t fz)→o+i+vs.length≤c.size→
  (∀ j,j < c.size→w.frozen? ⟨b,j,none⟩=false)→(∀ v∈vs,v.oneCell'=true)→(storeCells ⟨b,o,none⟩ vs i).run P w=.ok () (setCells w b (o+i) vs):=by
 induction vs with
 | nil=>intro i c w o _ _ _ _;rfl
 | cons v vs ih=>
  intro i c w o h hs hf hv
  simp only[List.length_cons] at hs
  have hc:w.cell? ⟨b,o+i,none⟩=some c[o+i]:=by rw[cell_of_block h];simp
  have hrun:(store ((⟨b,o,none⟩:Addr).add i) v).run P w=.ok () (w.setCell ⟨b,o+i,none⟩ v):=by
   rw[run_store P w _ v .plain (hv v (by simp)),addr_add,hc,hf _ (by omega)]
   rfl
  simp only[storeCells,Sem.run_bind,hrun,Result.andThen_ok]
  have:=ih (i+1) _ (w.setCell ⟨b,o+i,none⟩ v) o (qpi h (o+i) v) (by simp;omega) (fun j hj=>by simp at hj ⊢;exact hf j hj) (fun u hu=>hv u (by simp[hu]))
  rw[this,setCells,Nat.add_assoc]
theorem qlh {P:Program}{w:World}{t:TypeId}{r:Ty}(h:TyOk P t r){b o:Nat}{c:Array Value}{e:TypeId}{fz:Nat×Nat}{v:Value}(hb:w.heap[b]?=some (.cells c e fz))
  (hl:v.cells.toList.length=r.size) (hs:o+r.size≤c.size) (hf:∀ j,j < c.size→w.frozen? ⟨b,j,none⟩=false) (hv:∀ u∈v.cells.toList,u.oneCell'=true):
  (storeVar t ⟨b,o,none⟩ v).run P w=.ok () (setCells w b o v.cells.toList):=by
 have hl':v.cells.size=r.size:=by simpa using hl
 simp only[storeVar,Sem.run_bind,h.run_sizeOf,Result.andThen_ok,hl',ne_eq,not_true_eq_false,if_false]
 have:=qhz P b e fz v.cells.toList 0 c w o hb (by rw[hl];omega) hf hv
 simpa using this
theorem qfb (vs:List Value):∀ (w:World) (b o:Nat) (a:Addr),(setCells w b o vs).frozen? a=w.frozen? a:=by
 induction vs with
 | nil=>intro w b o a;rfl
 | cons v vs ih=>intro w b o a;rw[setCells,ih];simp
theorem qiz (w:World)(c:Array Value)(t:TypeId):(w.alloc (.cells c t)).heap[w.heap.size]?=some (.cells c t (0,0)):=by
 show(w.heap.push _)[w.heap.size]?=_
 simp
theorem alloc_old (w:World)(o:Obj)(k:Nat)(h:k < w.heap.size):(w.alloc o).heap[k]?=w.heap[k]?:=Go.RowKit.Below.heap_alloc w o k h
theorem qih (w:World)(c:Array Value)(t:TypeId)(j:Nat):(w.alloc (.cells c t)).frozen? ⟨w.heap.size,j,none⟩=false:=by simp
theorem RL.oneCell {g:Gh}{w:World}{cs:List Cell}{vs:List Value}(h:RL g w cs vs):∀ v∈vs,v.oneCell'=true:=by
 induction h with
 | nil=>simp
 | cons a _ ih=>
  intro v hv
  rcases List.mem_cons.1 hv with rfl | hv
  ·exact a.oneCell
  ·exact ih v hv
theorem Go1.alloc (g:Gh)(w:World)(o:Obj)(g':Gh)(hl:g.Le g')(ho:∀ id o',g'.own id=some o'→(∃ id o0,g.own id=some o0∧o'.blk=o0.blk)∨o'.blk=w.heap.size)
  (hp:∀ b j,g'.prot b j→g.prot b j∨b=w.heap.size) (hk:∀ b j,g.prot b j→b < w.heap.size):Go1 g g' w (w.alloc o):=by
 refine⟨hl,fun b j hb=>?_,by simp,fun k hk _ _=>alloc_old w o k hk,fun id o' h=>?_,fun b j h=>?_,rfl,rfl,rfl⟩
 ·exact cell_of_heap (alloc_old w o b (hk b j hb)) j
 ·rcases ho id o' h with h | h
  ·exact .inl h
  ·exact .inr (by omega)
 ·rcases hp b j h with h | h
  ·exact .inl h
  ·exact .inr (.inl (by omega))
end Go.Ev
