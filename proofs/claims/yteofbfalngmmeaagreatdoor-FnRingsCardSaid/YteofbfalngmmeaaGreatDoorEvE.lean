/- Soundness of the evaluator's other operations that leave memory alone. No program occurs here; conditions: what each lemma names. -/
import Derived.Test.YteofbfalngmmeaaGreatDoorEvD
namespace Go.Ev
open Go
section
variable {P:Program} {Γ:Ctx} {g:Gh} {β:Nat→Option Nat} {w:World} {a:Act} {s:Fr} {α:Type} {r:α} {o:Oper}
theorem quy {κ:Slot→Fr→Option α}{x:Operand}(ho:o.op=.move x∨o.op=.assign x)(hl:Looks g β w s a o.op.operands.toList)
  (h:κ (opd Γ s o.type x) s=some r):∃ v,κ v s=some r∧Yl P a w o g β v:=by
 refine⟨_,h,a.eval x,?_,qfg hl _ (by rcases ho with ho | ho<;>simp[ho,Op.operands])⟩
 rcases ho with ho | ho<;>simp[execOp,ho]
theorem qqbb {κ:Slot→Fr→Option α}{c x y:Operand}(ho:o.op=.pick c x y)(hl:Looks g β w s a o.op.operands.toList)
  {b:Bool} (hc:opd Γ s 0 c=.av (.one (.sc (.bool b))))
  (h:cond b (κ (opd Γ s o.type x) s) (κ (opd Γ s o.type y) s)=some r):∃ v,κ v s=some r∧Yl P a w o g β v:=by
 have h1:=qfg (Γ:=Γ) hl 0 (x:=c) (by simp[ho,Op.operands])
 rw[hc] at h1
 have h2:=h1.sc
 cases b with
 | true=>
  refine⟨_,h,a.eval x,?_,qfg hl _ (by simp[ho,Op.operands])⟩
  simp[execOp,ho,h2,asBool]
 | false=>
  refine⟨_,h,a.eval y,?_,qfg hl _ (by simp[ho,Op.operands])⟩
  simp[execOp,ho,h2,asBool]
theorem qqfc {κ:Slot→Option α}{op:UnOp}{t:TypeId}{x:Operand}(ho:o.op=.unOp op t x)(hl:Looks g β w s a o.op.operands.toList)
  (h:(match (generalizing:=false) op,opd Γ s 0 x with
   | .not,.av (.one (.sc (.bool b)))=>κ (.av (.one (.sc (.bool (!b)))))
   | .neg,.av (.one (.sc (.int k n)))=>κ (.av (.one (.sc (.int k (k.wrap (0 - n))))))
   | _,_=>none)=some r):∃ v,κ v=some r∧Yl P a w o g β v:=by
 have h1:=qfg (Γ:=Γ) hl 0 (x:=x) (by simp[ho,Op.operands])
 split at h
 ·rename_i b hb
  rw[hb] at h1
  refine⟨_,h,.bool (!b),?_,.mkSc rfl⟩
  simp[execOp,ho,h1.sc,Op.unary]
 ·rename_i k n hb
  rw[hb] at h1
  refine⟨_,h,.int k (k.wrap (0 - n)),?_,.mkSc rfl⟩
  simp[execOp,ho,h1.sc,Op.unary,Op.intArith]
 ·simp at h
theorem qxc {κ:Slot→Option α}{x:Operand}{i:Nat}(ho:o.op=.extract x i)(hl:Looks g β w s a o.op.operands.toList)
  (h:(match opd Γ s 0 x with
   | .tup xs=>match xs[i]? with
    | some v=>κ (.av v)
    | none=>none
   | _=>none)=some r):∃ v,κ v=some r∧Yl P a w o g β v:=by
 have h1:=qfg (Γ:=Γ) hl 0 (x:=x) (by simp[ho,Op.operands])
 split at h
 ·rename_i xs hb
  rw[hb] at h1
  obtain⟨vs,e,hv⟩:=h1.tup'
  split at h
  ·rename_i v hi
   obtain⟨u,hu,ru⟩:=hv.get hi
   refine⟨_,h,u,?_,.av _ _ ru⟩
   simp[execOp,ho,e,Instr.extract,hu]
  ·simp at h
 ·simp at h
theorem qexc {row:List Cell}{off:Nat}{b:Bool}(h:cB row off=some b):row[off]?=some (.sc (.bool b)):=by
 unfold cB at h;split at h<;>simp_all
theorem qerc {k:IntKind}{row:List Cell}{off:Nat}{n:Int}(h:cI k row off=some n):row[off]?=some (.sc (.int k n)):=by
 unfold cI at h
 split at h
 ·split at h<;>simp_all
 ·simp at h
theorem qfoc {row:List Cell}{off:Nat}{b:ByteArray}(h:cS row off=some b):row[off]?=some (.sc (.string b)):=by
 unfold cS at h;split at h<;>simp_all
theorem qpab {kd:Kd}{row:List Cell}{off:Nat}{κ:Cell→Option α}(h:ldK kd row off κ=some r):∃ c,row[off]?=some c∧κ c=some r:=by
 unfold ldK at h
 split at h
 ·obtain⟨b,hb,h⟩:=Option.bind_eq_some_iff.1 h;exact⟨_,qexc hb,h⟩
 ·obtain⟨b,hb,h⟩:=Option.bind_eq_some_iff.1 h;exact⟨_,qerc hb,h⟩
 ·obtain⟨b,hb,h⟩:=Option.bind_eq_some_iff.1 h;exact⟨_,qfoc hb,h⟩
 ·obtain⟨b,hb,h⟩:=Option.bind_eq_some_iff.1 h;exact⟨_,hb,h⟩
theorem qkfc {ks:List Kd}{row:List Cell}{off:Nat}{κ:List Cell→Option α}(h:ldL ks row off κ=some r):
  ∃ cs,cs.length=ks.length∧(∀ j c,cs[j]?=some c→row[off+j]?=some c)∧κ cs=some r:=by
 induction ks generalizing off κ with
 | nil=>exact⟨[],rfl,by simp,h⟩
 | cons k ks ih=>
  obtain⟨c,hc,h⟩:=qpab h
  obtain⟨cs,h1,h2,h3⟩:=ih h
  refine⟨c::cs,by simp[h1],fun j d hd=>?_,h3⟩
  cases j with
  | zero=>simp at hd;subst hd;exact hc
  | succ j=>rw[show off+(j+1)=off+1+j by omega];exact h2 j d (by simpa using hd)
theorem qclb {t:TypeId}{q:Ty}(hq:TyOk P t q){row:List Cell}{off:Nat}{κ:AV→Option α}(h:ldT q row off κ=some r):
  ∃ cs x,cs.length=q.size∧(∀ j c,cs[j]?=some c→row[off+j]?=some c)∧κ x=some r∧
   (∀ g w vs,RL g w cs vs→AVR g w x (vOf q.isAgg vs)):=by
 unfold ldT at h
 cases ha:q.isAgg with
 | true=>
  rw[ha] at h
  simp only[if_true] at h
  obtain⟨cs,h1,h2,h3⟩:=qkfc h
  exact⟨cs,.agg cs,by rw[h1,hq.cells],h2,h3,fun g w vs hv=>by simpa[vOf] using AVR.agg cs vs hv⟩
 | false=>
  rw[ha] at h
  simp only[Bool.false_eq_true,if_false] at h
  obtain⟨c,h1,h2⟩:=qpab h
  refine⟨[c],.one c,by rw[hq.one ha];rfl,fun j d hd=>?_,h2,fun g w vs hv=>?_⟩
  ·cases j with
   | zero=>simp at hd;subst hd;exact h1
   | succ j=>simp at hd
  ·cases hv with
   | cons hh ht=>exact .one _ _ hh
theorem qpjb {t:TypeId}{q:Ty}(hq:TyOk P t q){cs ds:List Cell}{vs:List Value}{off:Nat}(hv:RL g w ds vs)(hl:cs.length=q.size)
  (hc:∀ j c,cs[j]?=some c→ds[off+j]?=some c):∃ us,RL g w cs us∧(part t vs.toArray off).run P w=.ok (vOf q.isAgg us) w:=by
 have hus:RL g w cs ((vs.drop off).take q.size):=by
  have hlen:off+q.size≤ds.length:=by
   have hpos:=hq.pos
   have:=hc (q.size - 1) (cs[q.size - 1]'(by omega)) (List.getElem?_eq_getElem (by omega))
   have:=(List.getElem?_eq_some_iff.1 this).1
   omega
  have hvl:=hv.length
  refine RL.of_get (by simp;omega) fun i c v h1 h2=>?_
  obtain⟨u,hu,ru⟩:=hv.get (hc i c h1)
  have hi:i < q.size:=by rw[← hl];exact(List.getElem?_eq_some_iff.1 h1).1
  rw[List.getElem?_take,if_pos hi,List.getElem?_drop,hu] at h2
  simp only[Option.some.injEq] at h2
  rwa [← h2]
 refine⟨_,hus,?_⟩
 simp only[part,Sem.run_bind,hq.run_isAgg,Result.andThen_ok]
 cases ha:q.isAgg with
 | true=>
  simp only[if_true,Sem.run_bind,hq.run_sizeOf,Result.andThen_ok,vOf]
  simp
 | false=>
  simp only[Bool.false_eq_true,if_false,vOf]
  have h1:=hq.one ha
  obtain⟨c,rfl⟩:∃ c,cs=[c]:=by
   match cs,hl with
   | [c],_=>exact⟨c,rfl⟩
   | [],hl=>simp at hl;omega
   | _::_::_,hl=>simp at hl;omega
  obtain⟨u,hu,ru⟩:=hv.get (hc 0 c rfl)
  simp only[Nat.add_zero] at hu
  have:(vs.drop off).take q.size=[u]:=by
   rw[h1,List.take_one,List.head?_drop,hu];rfl
  simp[this,hu]
theorem qlfb {κ:Slot→Option α}{t:TypeId}{x:Operand}{f:Nat}(hΓ:CtxOk P Γ)(ho:o.op=.field t x f)(hl:Looks g β w s a o.op.operands.toList)
  (h:(match Γ.ty t with
   | some ⟨.struct fs,_,_,_,_⟩=>
    match fs[f]?,opd Γ s t x with
    | some (o,ft),.av (.agg cs)=>match Γ.ty ft with
     | some r=>ldT r cs o fun v=>κ (.av v)
     | none=>none
    | _,_=>none
   | _=>none)=some r):∃ v,κ v=some r∧Yl P a w o g β v:=by
 have h1:=qfg (Γ:=Γ) hl t (x:=x) (by simp[ho,Op.operands])
 split at h
 ·rename_i fs sz by_ cl ze hty
  have hk:=(hΓ.ty _ _ hty).kd
  obtain⟨fields,hu,hf,_⟩:=hk
  split at h
  ·rename_i off ft cs hfs hcs
   rw[hcs] at h1
   obtain⟨vs,e,rv⟩:=h1.agg
   split at h
   ·rename_i q hq
    have hq':=hΓ.ty _ _ hq
    obtain⟨ds,y,h2,h3,h4,h5⟩:=qclb hq' h
    obtain⟨us,ru,hrun⟩:=qpjb hq' rv h2 h3
    refine⟨_,h4,_,?_,.av _ _ (h5 _ _ _ ru)⟩
    have hfd:∃ fd,fields[f]?=some fd∧fd.offset=off∧fd.type=ft:=by
     rw[← hf,List.getElem?_map] at hfs
     cases hff:fields.toList[f]? with
     | none=>rw[hff] at hfs;simp at hfs
     | some fd=>
      rw[hff] at hfs
      simp only[Option.map_some,Option.some.injEq,Prod.mk.injEq] at hfs
      exact⟨fd,by simpa using hff,hfs.1,hfs.2⟩
    obtain⟨fd,hf1,hf2,hf3⟩:=hfd
    simp only[execOp,ho,Instr.field,Sem.run_bind,qaj hu,Result.andThen_ok,hf1,e,asAgg,Sem.run_pure,hf2,hf3,hrun]
   ·simp at h
  ·simp at h
 ·simp at h
theorem qtx {x:Slot}{κ:Int→Option α}(h:intK x κ=some r):∃ n,x=.av (.one (.sc (.int .i64 n)))∧κ n=some r:=by
 unfold intK at h
 split at h
 ·exact⟨_,rfl,h⟩
 ·simp at h
theorem qdv (k:IntKind)(n:Int):(asIntOf (.int k n)).run P w=.ok (k,n) w:=rfl
theorem qkib {κ:Slot→Option α}{t:TypeId}{x i:Operand}(hΓ:CtxOk P Γ)(ho:o.op=.index t x i)(hl:Looks g β w s a o.op.operands.toList)
  (h:(match Γ.ty t with
  | some r=>
   intK (opd Γ s 0 i) fun i=>
    match r.kd,opd Γ s t x with
    | .str,.av (.one (.sc (.string b)))=>(bytS b i).bind fun n=>κ (.av (.one (.sc (.int .u8 n))))
    | .array n e,.av (.agg cs)=>match Γ.ty e with
     | some q=>if 0≤i∧i < n then ldT q cs (i.toNat*q.size) fun v=>κ (.av v) else none
     | none=>none
    | _,_=>none
  | none=>none)=some r):∃ v,κ v=some r∧Yl P a w o g β v:=by
 have h1:=qfg (Γ:=Γ) hl t (x:=x) (by simp[ho,Op.operands])
 have h2:=qfg (Γ:=Γ) hl 0 (x:=i) (by simp[ho,Op.operands])
 split at h
 ·rename_i q hq
  have hk:=(hΓ.ty _ _ hq).kd
  obtain⟨n,hn,h⟩:=qtx h
  rw[hn] at h2
  split at h
  ·rename_i b hkd hb
   rw[hb] at h1
   rw[hkd] at hk
   obtain⟨m,hm,h⟩:=Option.bind_eq_some_iff.1 h
   refine⟨_,h,.int .u8 m,?_,.mkSc rfl⟩
   unfold bytS at hm
   split at hm
   ·rename_i hi
    simp only[Option.some.injEq] at hm
    have hlt:n.toNat < b.size:=by omega
    simp only[execOp,ho,Instr.index,h1.sc,h2.sc,Sem.run_bind,qdv,Result.andThen_ok,qaj hk,if_pos hi.1,ByteArray.getElem?_lt' b _ hlt,Sem.run_pure]
    congr 2
    rw[← hm]
    have:b.data.toList.getD n.toNat 0=b[n.toNat]:=by
     rw[List.getD_eq_getElem?_getD,List.getElem?_eq_getElem (by simpa using hlt)]
     rfl
    rw[this]
   ·simp at hm
  ·rename_i m e cs hkd hb
   rw[hb] at h1
   rw[hkd] at hk
   obtain⟨vs,ev,rv⟩:=h1.agg
   split at h
   ·rename_i q' hq'
    have hq'':=hΓ.ty _ _ hq'
    split at h
    ·rename_i hi
     obtain⟨ds,y,e2,e3,e4,e5⟩:=qclb hq'' h
     obtain⟨us,ru,hrun⟩:=qpjb hq'' rv e2 e3
     refine⟨_,e4,_,?_,.av _ _ (e5 _ _ _ ru)⟩
     simp only[execOp,ho,Instr.index,ev,h2.sc,Sem.run_bind,qdv,Result.andThen_ok,qaj hk,if_pos hi,hq''.run_sizeOf,hrun,Sem.run_pure]
    ·simp at h
   ·simp at h
  ·simp at h
 ·simp at h
theorem qja {t:TypeId}{fs:List (Nat×TypeId)}{f:Nat}{off:Nat}{ft:TypeId}(hk:KdOk P t (.struct fs))(hf:fs[f]?=some (off,ft))(ad:Addr)(w:World):
  (Instr.fieldAt t (.pointer (some ad)) f).run P w=.ok (.pointer (some (ad.add off))) w:=by
 obtain⟨fields,hu,he,hn,hst,hsz⟩:=hk
 rw[← he,List.getElem?_map] at hf
 cases hff:fields.toList[f]? with
 | none=>rw[hff] at hf;simp at hf
 | some fd=>
  rw[hff] at hf
  simp only[Option.map_some,Option.some.injEq,Prod.mk.injEq] at hf
  obtain⟨i,hi,hi0⟩:=hsz fd (List.mem_of_getElem? hff)
  have hff':fields[f]?=some fd:=by simpa using hff
  simp[Instr.fieldAt,qaj hu,hff',Instr.sureAddr,fieldPlace,sizeOf,typeInfo,hi,hi0,hf.1]
theorem qyfc {c c':Cell}{n:Nat}{v:Value}(h:R g w c v)(hc:fldA c n=some c'):∃ ad,v=.pointer (some ad)∧R g w c' (.pointer (some (ad.add n))):=by
 unfold fldA at hc
 split at hc
 ·simp only[Option.some.injEq] at hc
  subst hc
  cases h with
  | ref row off b o val hp hcell hr=>
   refine⟨_,rfl,?_⟩
   rw[addr_add,Nat.add_assoc]
   exact .ref _ _ b o val hp hcell hr
 ·simp only[Option.some.injEq] at hc
  subst hc
  cases h with
  | ptr id sz idx off ep ad o ho hle h hk=>
   refine⟨_,rfl,.ptr _ _ _ _ _ _ o ho hle (fun e=>?_) hk⟩
   obtain⟨h1,h2⟩:=h e
   refine⟨h1,?_⟩
   rw[h2,addr_add,Nat.add_assoc]
 ·simp at hc
theorem qqm {κ:Slot→Option α}{t:TypeId}{x:Operand}{f:Nat}(hΓ:CtxOk P Γ)(ho:o.op=.fieldAddr t x f)(hl:Looks g β w s a o.op.operands.toList)
  (h:(match Γ.ty t with
  | some ⟨.struct fs,_,_,_,_⟩=>
   match fs[f]? with
   | some (o,_)=>
    match opd Γ s 0 x with
    | .loc b off=>κ (.loc b (off+o))
    | .av (.one c)=>(fldA c o).bind fun c=>κ (.av (.one c))
    | _=>none
   | none=>none
  | _=>none)=some r):∃ v,κ v=some r∧Yl P a w o g β v:=by
 have h1:=qfg (Γ:=Γ) hl 0 (x:=x) (by simp[ho,Op.operands])
 split at h
 ·rename_i fs sz by_ cl ze hty
  have hk:=(hΓ.ty _ _ hty).kd
  split at h
  ·rename_i off ft hfs
   split at h
   ·rename_i b o1 hb
    rw[hb] at h1
    obtain⟨blk,hb1,e⟩:=h1.loc'
    refine⟨_,h,.pointer (some ⟨blk,o1+off,none⟩),?_,.loc _ _ _ hb1⟩
    simp[execOp,ho,e,qja hk hfs,addr_add]
   ·rename_i c hb
    rw[hb] at h1
    have hc:=h1.one
    obtain⟨c',hc',h⟩:=Option.bind_eq_some_iff.1 h
    refine⟨_,h,?_⟩
    obtain⟨ad,e,rc⟩:=qyfc hc hc'
    exact⟨_,by simp[execOp,ho,e,qja hk hfs],.mk1 rc⟩
   ·simp at h
  ·simp at h
 ·simp at h
theorem idxA_R {t e:TypeId}{q:Ty}(hu:P.underlying t=some (.slice e))(hq:TyOk P e q){c c':Cell}{v:Value}{k:IntKind}{i:Int}(h:R g w c v)(hc:idxA q.size c i=some c'):
  ∃ v',(Instr.indexAt t v (.int k i)).run P w=.ok v' w∧R g w c' v':=by
 unfold idxA at hc
 split at hc
 ·rename_i f sz rows
  split at hc
  ·rename_i hsz
   split at hc
   ·rename_i hi
    simp only[Option.some.injEq] at hc
    subst hc
    cases h with
    | nil=>simp at hi;omega
    | lst _ _ _ b o cap val hne hf hcp hs hp hcell hr=>
     have hlt:i.toNat < rows.length:=by omega
     have hrow:rows[i.toNat]?=some rows[i.toNat]:=List.getElem?_eq_getElem hlt
     have hget:rows.getD i.toNat []=rows[i.toNat]:=by rw[List.getD_eq_getElem?_getD,hrow];rfl
     rw[hget]
     refine⟨.pointer (some ⟨b,o+i.toNat*sz,none⟩),?_,?_⟩
     ·simp only[Instr.indexAt,Sem.run_bind,qdv,Result.andThen_ok,qaj hu,Sem.run_pure,hq.run_sizeOf,Sem.run_ite,if_pos hi,← hsz,addr_add]
     ·have:=R.ref (g:=g) (w:=w) rows[i.toNat] 0 b (o+i.toNat*sz) (val i.toNat) (hp _ (List.getElem_mem hlt))
       (fun j c hj=>hcell _ j _ c hrow hj) (fun j c hj=>hr _ j _ c hrow hj)
      simpa using this
   ·simp at hc
  ·simp at hc
 ·rename_i id sz off len ep
  split at hc
  ·rename_i hsz
   split at hc
   ·rename_i hi
    simp only[Option.some.injEq] at hc
    subst hc
    cases h with
    | vs _ _ _ _ _ ad cap ow ho hle hn hlc hh hk=>
     cases ad with
     | none=>have:=hn rfl;omega
     | some ad=>
      refine⟨.pointer (some (ad.add (i.toNat*sz))),?_,?_⟩
      ·simp only[Instr.indexAt,Sem.run_bind,qdv,Result.andThen_ok,qaj hu,Sem.run_pure,hq.run_sizeOf,Sem.run_ite,if_pos hi,← hsz]
      ·refine .ptr _ _ _ _ _ _ ow ho hle (fun e=>?_) hk
       obtain⟨h1,h2,h3⟩:=hh e
       simp only[Option.some.injEq] at h1
       refine⟨h2,?_⟩
       rw[h1,addr_add,Nat.add_mul,Nat.add_assoc,Nat.add_assoc,Nat.add_zero]
   ·simp at hc
  ·simp at hc
 ·simp at hc
theorem qkd {t e:TypeId}{n:Nat}{q:Ty}(hu:P.underlying t=some (.array n e))(hq:TyOk P e q){ad:Addr}{k:IntKind}{i:Int}(hi:0≤i∧i < n):
  (Instr.indexAt t (.pointer (some ad)) (.int k i)).run P w=.ok (.pointer (some (ad.add (i.toNat*q.size)))) w:=by
 simp[Instr.indexAt,qdv,qaj hu,Instr.sureAddr,hq.run_sizeOf,hi.1,hi.2]
theorem qfab {i:Int}{κ:Nat→Option α}:∀ {n:Nat} {r:α},arrK i κ n=some r→∃ j,j < n∧i=(j:Int)∧κ j=some r
 | 0,_,h=>by simp[arrK] at h
 | n+1,_,h=>by
  unfold arrK at h
  split at h
  ·rename_i e
   exact⟨n,Nat.lt_succ_self n,e,h⟩
  ·obtain⟨j,h1,h2,h3⟩:=qfab h
   exact⟨j,Nat.lt_succ_of_lt h1,h2,h3⟩
theorem qqq {κ:Slot→Option α}{t:TypeId}{x i:Operand}(hΓ:CtxOk P Γ)(ho:o.op=.indexAddr t x i)(hl:Looks g β w s a o.op.operands.toList)
  (h:(match Γ.ty t with
  | some r=>
   intK (opd Γ s 0 i) fun i=>
    match r.kd,opd Γ s t x with
    | .slice e,.av (.one c)=>match Γ.ty e with
     | some q=>(idxA q.size c i).bind fun c=>κ (.av (.one c))
     | none=>none
    | .array n e,.loc b off=>match Γ.ty e with
     | some q=>arrK i (fun j=>κ (.loc b (off+j*q.size))) n
     | none=>none
    | .array n e,.av (.one c)=>match Γ.ty e with
     | some q=>if 0≤i∧i < n then (fldA c (i.toNat*q.size)).bind fun c=>κ (.av (.one c)) else none
     | none=>none
    | _,_=>none
  | none=>none)=some r):∃ v,κ v=some r∧Yl P a w o g β v:=by
 have h1:=qfg (Γ:=Γ) hl t (x:=x) (by simp[ho,Op.operands])
 have h2:=qfg (Γ:=Γ) hl 0 (x:=i) (by simp[ho,Op.operands])
 split at h
 ·rename_i q hq
  have hk:=(hΓ.ty _ _ hq).kd
  obtain⟨n,hn,h⟩:=qtx h
  rw[hn] at h2
  split at h
  ·rename_i e c hkd hc
   rw[hc] at h1
   rw[hkd] at hk
   split at h
   ·rename_i q' hq'
    obtain⟨c',hc',h⟩:=Option.bind_eq_some_iff.1 h
    obtain⟨v',hv',rv⟩:=idxA_R (k:=.i64) hk (hΓ.ty _ _ hq') h1.one hc'
    exact⟨_,h,v',by simp[execOp,ho,h2.sc,hv'],.mk1 rv⟩
   ·simp at h
  ·rename_i m e b off hkd hb
   rw[hb] at h1
   rw[hkd] at hk
   obtain⟨blk,hb1,eb⟩:=h1.loc'
   split at h
   ·rename_i q' hq'
    obtain⟨j,hj,hij,h'⟩:=qfab h
    subst hij
    refine⟨_,h',.pointer (some ⟨blk,off+j*q'.size,none⟩),?_,.loc _ _ _ hb1⟩
    have hi:(0:Int)≤(j:Int)∧(j:Int) < (m:Int):=⟨by omega,by omega⟩
    simp[execOp,ho,eb,h2.sc,qkd hk (hΓ.ty _ _ hq') hi,addr_add]
   ·simp at h
  ·rename_i m e c hkd hb
   rw[hb] at h1
   rw[hkd] at hk
   split at h
   ·rename_i q' hq'
    split at h
    ·rename_i hi
     obtain⟨c',hc',h⟩:=Option.bind_eq_some_iff.1 h
     obtain⟨ad,e,rc⟩:=qyfc h1.one hc'
     exact⟨_,h,_,by simp[execOp,ho,e,h2.sc,qkd hk (hΓ.ty _ _ hq') hi],.mk1 rc⟩
    ·simp at h
   ·simp at h
  ·simp at h
 ·simp at h
theorem qtj {κ:Slot→Option α}{x:Operand}(ho:o.op=.nilCheck x)(hl:Looks g β w s a o.op.operands.toList)
  (h:(match opd Γ s 0 x with
  | .loc t off=>κ (.loc t off)
  | .av (.one c)=>(ptrC c).bind fun c=>κ (.av (.one c))
  | _=>none)=some r):∃ v,κ v=some r∧Yl P a w o g β v:=by
 have h1:=qfg (Γ:=Γ) hl 0 (x:=x) (by simp[ho,Op.operands])
 split at h
 ·rename_i b o1 hb
  rw[hb] at h1
  obtain⟨blk,hb1,e⟩:=h1.loc'
  exact⟨_,h,_,by simp[execOp,ho,e],.loc _ _ _ hb1⟩
 ·rename_i c hb
  obtain⟨d,hd,h⟩:=Option.bind_eq_some_iff.1 h
  rw[hb] at h1
  have h2:=h1.one
  refine⟨_,h,a.eval x,?_,?_⟩
  ·generalize hv:a.eval x=v at h2
   cases h2<;>simp[ptrC] at hd<;>simp[execOp,ho,hv]
  ·have:d=c:=by cases c<;>simp[ptrC] at hd<;>exact hd.symm
   rw[this]
   exact .mk1 h2
 ·simp at h
theorem qkw {fs:List TypeId}{ps:List (Nat×Operand)}{κ:List (Nat×List Cell)→Option α}{xs:List Operand}(hl:Looks g β w s a xs)(hx:∀ p∈ps,p.2∈xs)
  (h:partsK Γ s fs ps κ=some r):∃ qs,κ qs=some r∧All2 (fun (q:Nat×List Cell) (p:Nat×Operand)=>q.1=p.1∧RL g w q.2 (a.eval p.2).cells.toList) qs ps:=by
 induction ps generalizing κ with
 | nil=>exact⟨[],h,.nil⟩
 | cons p ps ih=>
  obtain⟨i,x⟩:=p
  simp only[partsK] at h
  split at h
  ·rename_i v hv
   obtain⟨qs,h1,h2⟩:=ih (fun p hp=>hx p (by simp[hp])) h
   have hr:=qfg (Γ:=Γ) hl (fs.getD i 0) (hx (i,x) (by simp))
   rw[hv] at hr
   exact⟨_,h1,.cons ⟨rfl,hr.av'.cells⟩ h2⟩
  ·simp at h
theorem RL.splice {row cs:List Cell}{rv cv:List Value}{off:Nat}(h:RL g w row rv)(k:RL g w cs cv):RL g w (splice row off cs) (rv.take off++cv++rv.drop (off+cv.length)):=by
 unfold Ev.splice
 rw[k.length]
 exact((h.take off).append k).append (h.drop _)
theorem zip_ow (vs:List Value):∀ (j off:Nat) (c:Array Value),(vs.zipIdx j).foldl (fun cs (p:Value×Nat)=>cs.setIfInBounds (off+p.2) p.1) c=ow c (off+j) vs:=by
 induction vs with
 | nil=>intro j off c;rfl
 | cons v vs ih=>intro j off c;rw[List.zipIdx_cons,List.foldl_cons,ih];rfl
theorem qdib (c:Array Value)(off:Nat)(vs:List Value)(h:off+vs.length≤c.size):(ow c off vs).toList=c.toList.take off++vs++c.toList.drop (off+vs.length):=by
 apply List.ext_getElem?
 intro j
 have:=qdec vs c off j h
 rw[Array.getElem?_toList,this]
 by_cases h1:j < off
 ·rw[if_neg (by omega),List.getElem?_append_left (by simp;omega),List.getElem?_append_left (by simp;omega),List.getElem?_take,if_pos h1,Array.getElem?_toList]
 ·by_cases h2:j < off+vs.length
  ·rw[if_pos (by omega),List.getElem?_append_left (by simp;omega),List.getElem?_append_right (by simp;omega)]
   congr 1
   simp;omega
  ·rw[if_neg (by omega),List.getElem?_append_right (by simp;omega),List.getElem?_drop,Array.getElem?_toList]
   congr 1
   simp;omega
theorem qcmb {qs:List (Nat×List Cell)}{ps:List (Nat×Value)}{place place':Nat→Option (Nat×Nat)}(hp:∀ i p,place i=some p→place' i=some p)
  (hq:All2 (fun (q:Nat×List Cell) (p:Nat×Value)=>q.1=p.1∧RL g w q.2 p.2.cells.toList) qs ps):∀ {cs:List Cell} {vs:Array Value} {cs':List Cell},RL g w cs vs.toList→qifb place cs qs=some cs'→
  ∃ vs':Array Value,Instr.fill place' vs ps=some vs'∧RL g w cs' vs'.toList:=by
 induction hq with
 | nil=>
  intro cs vs cs' h1 h2
  simp only[qifb,Option.some.injEq] at h2
  subst h2
  exact⟨vs,rfl,h1⟩
 | @cons q p qs ps h1 h2 ih=>
  intro cs vs cs' h3 h4
  obtain⟨i,cl⟩:=q
  obtain⟨j,v⟩:=p
  obtain⟨e,hr⟩:=h1
  simp only at e hr
  subst e
  simp only[qifb] at h4
  split at h4
  ·rename_i off size hpl
   split at h4
   ·rename_i hh
    have hlen:=hr.length
    have hlen2:=h3.length
    have hv:v.cells.toList.length=size:=by rw[hlen];exact hh.1
    have hvs:off+v.cells.size≤vs.size:=by
     have e1:v.cells.size=size:=by simpa using hv
     have e2:vs.size=cs.length:=by simpa using hlen2
     omega
    have hsp:RL g w (splice cs off cl) (ow vs off v.cells.toList).toList:=by
     rw[qdib _ _ _ (by simpa using hvs)]
     exact h3.splice hr
    obtain⟨vs',e1,e2⟩:=ih hsp h4
    refine⟨vs',?_,e2⟩
    simp only[Instr.fill,hp _ _ hpl]
    have e3:v.cells.size=size:=by simpa using hv
    rw[if_neg (by simp[e3];omega)]
    rw[← e1]
    congr 1
    rw[← Array.foldl_toList,Array.toList_zipIdx]
    exact zip_ow v.cells.toList 0 off vs
   ·simp at h4
  ·simp at h4
theorem qqt {l:List Field}(h:∀ f∈l,∃ i,P.info? f.type=some i∧i.size≠0):
  (l.mapM fun f=>do pure (f.offset,← sizeOf f.type):Sem (List (Nat×Nat))).run P w=.ok (l.map fun f=>(f.offset,P.cellsOf f.type)) w:=by
 induction l with
 | nil=>rfl
 | cons f l ih=>
  obtain⟨i,hi,_⟩:=h f (by simp)
  rw[List.mapM_cons]
  have hs:(sizeOf f.type).run P w=.ok i.size w:=by simp[sizeOf,typeInfo,hi]
  simp only[Sem.run_bind,hs,Result.andThen_ok,Sem.run_pure,ih fun f hf=>h f (by simp[hf])]
  simp[Program.cellsOf,hi]
theorem TyOk.cellsOf {t:TypeId}{q:Ty}(h:TyOk P t q):P.cellsOf t=q.size:=by
 obtain⟨i,z,hi,hs,_⟩:=h.info
 simp[Program.cellsOf,hi,hs]
theorem qldb {κ:Slot→Option α}{t:TypeId}{ps:Array (Nat×Operand)}(hΓ:CtxOk P Γ)(ho:o.op=.build t ps)(hl:Looks g β w s a o.op.operands.toList)
  (h:(match Γ.ty t with
  | some r=>
   match r.kd with
   | .struct fs=>
    partsK Γ s (fs.map (·.2)) ps.toList fun q=>
     match qifb (fun i=>match fs[i]? with | some (o,ft)=>(match Γ.ty ft with | some f=>some (o,f.size) | none=>none) | none=>none) r.zero q with
     | some cs=>κ (.av (.agg cs))
     | none=>none
   | .array n e=>
    match Γ.ty e with
    | some f=>
     partsK Γ s (List.replicate n e) ps.toList fun q=>
      match qifb (fun i=>some (i*f.size,f.size)) r.zero q with
      | some cs=>κ (.av (.agg cs))
      | none=>none
    | none=>none
   | _=>none
  | none=>none)=some r):∃ v,κ v=some r∧Yl P a w o g β v:=by
 have hop:∀ p∈ps.toList,p.2∈o.op.operands.toList:=by
  intro p hp
  rw[ho]
  simp only[Op.operands]
  simpa using ⟨p.1,by simpa using hp⟩
 have hall:∀ {qs:List (Nat×List Cell)},All2 (fun (q:Nat×List Cell) (p:Nat×Operand)=>q.1=p.1∧RL g w q.2 (a.eval p.2).cells.toList) qs ps.toList→
   All2 (fun (q:Nat×List Cell) (p:Nat×Value)=>q.1=p.1∧RL g w q.2 p.2.cells.toList) qs (ps.toList.map fun p=>(p.1,a.eval p.2)):=by
  intro qs hq
  generalize ps.toList=l at hq
  induction hq with
  | nil=>exact .nil
  | cons h _ ih=>exact .cons h ih
 split at h
 ·rename_i q hq
  have hq':=hΓ.ty _ _ hq
  obtain⟨z,hz,rz⟩:=hq'.run_zero (w:=w)
  have rz':RL g w q.zero z.cells.toList:=rz.map fun c v hh=>hh.r g w
  have hk:=hq'.kd
  split at h
  ·rename_i fs hkd
   rw[hkd] at hk
   obtain⟨fields,hu,hf,hn,hst,hsz⟩:=hk
   obtain⟨qs,h,h2⟩:=qkw hl hop h
   split at h
   ·rename_i cs hcs
    obtain⟨vs',e1,e2⟩:=qcmb (place':=fun i=>(fields.map fun f=>(f.offset,P.cellsOf f.type))[i]?) (fun i p hp=>by
     split at hp
     ·rename_i off ft hfs
      split at hp
      ·rename_i f hft
       simp only[Option.some.injEq] at hp
       rw[← hf,List.getElem?_map] at hfs
       cases hff:fields.toList[i]? with
       | none=>rw[hff] at hfs;simp at hfs
       | some fd=>
        rw[hff] at hfs
        simp only[Option.map_some,Option.some.injEq,Prod.mk.injEq] at hfs
        have hff':fields[i]?=some fd:=by simpa using hff
        simp only[Array.getElem?_map,hff',Option.map_some]
        rw[hfs.2,hfs.1,(hΓ.ty _ _ hft).cellsOf,hp]
      ·simp at hp
     ·simp at hp) (hall h2) rz' hcs
    refine⟨_,h,.agg vs',?_,.av _ _ (by simpa using AVR.agg _ _ e2)⟩
    have hmap:(fields.mapM fun f=>do pure (f.offset,← sizeOf f.type):Sem (Array (Nat×Nat))).run P w=.ok (fields.map fun f=>(f.offset,P.cellsOf f.type)) w:=by
     rw[Array.mapM_eq_mapM_toList,Sem.run_map,qqt hsz,Result.andThen_ok]
     congr 1
     apply Array.toList_inj.1
     simp
    simp only[execOp,ho,Instr.build,Sem.run_bind,hz,Result.andThen_ok,qaj hu,hmap]
    have:(ps.map fun p=>(p.1,a.eval p.2)).toList=ps.toList.map fun p=>(p.1,a.eval p.2):=by simp
    simp only[this,e1]
    rfl
   ·simp at h
  ·rename_i n e hkd
   rw[hkd] at hk
   split at h
   ·rename_i f hf
    obtain⟨qs,h,h2⟩:=qkw hl hop h
    split at h
    ·rename_i cs hcs
     obtain⟨vs',e1,e2⟩:=qcmb (place':=fun i=>some (i*f.size,f.size)) (fun i p hp=>hp) (hall h2) rz' hcs
     refine⟨_,h,.agg vs',?_,.av _ _ (by simpa using AVR.agg _ _ e2)⟩
     simp only[execOp,ho,Instr.build,Sem.run_bind,hz,Result.andThen_ok,qaj hk,(hΓ.ty _ _ hf).run_sizeOf]
     have:(ps.map fun p=>(p.1,a.eval p.2)).toList=ps.toList.map fun p=>(p.1,a.eval p.2):=by simp
     simp only[this,e1]
     rfl
    ·simp at h
   ·simp at h
  ·simp at h
 ·simp at h
end
end Go.Ev
