/- Soundness of the evaluator's slicing, closures, conversions and small builtins. No program occurs here; conditions: what each lemma names. -/
import Derived.Test.YteofbfalngmmeaaGreatDoorEvE
set_option linter.unusedVariables false
set_option linter.unusedSimpArgs false
namespace Go.Ev
open Go
section
variable {P:Program} {Γ:Ctx} {g:Gh} {β:Nat→Option Nat} {w:World} {a:Act} {s:Fr} {α:Type} {r:α} {o:Oper}
def ofInt (n:Int):Value:=.int .i64 n
theorem run_sliceBound (n:Int)(y:Nat)(code:BoundsCode)(h:0≤n∧n≤y):(Instr.sliceBound (ofInt n) y code).run P w=.ok n.toNat w:=by
 simp[Instr.sliceBound,ofInt,qdv,h.1,h.2]
theorem qid (isSlice:Bool)(len cap:Nat)(lo hi mx:Option Int)(hs:mx.isSome=true→hi.isSome=true)(h0:0≤lo.getD 0)(h1:lo.getD 0≤hi.getD len)(h2:hi.getD len≤mx.getD cap)
  (h3:mx.getD cap≤cap):(Instr.sliceBounds isSlice len cap (lo.map ofInt) (hi.map ofInt) (mx.map ofInt)).run P w=.ok ((lo.getD 0).toNat,(hi.getD len).toNat,(mx.getD cap).toNat) w:=by
 have key:∀ (n:Int) (y:Nat) (code:BoundsCode),0≤n→n≤y→(Instr.sliceBound (ofInt n) y code).run P w=.ok n.toNat w:=fun n y code h1 h2=>run_sliceBound n y code ⟨h1,h2⟩
 cases mx with
 | none=>
  cases hi with
  | none=>
   cases lo with
   | none=>simp[Instr.sliceBounds]
   | some l=>
    simp at h0 h1 h2 ⊢
    simp[Instr.sliceBounds,key l len _ h0 h1]
  | some k=>
   simp at h1 h2 h0
   have hk:=key k cap
   cases lo with
   | none=>
    simp at h1 h0
    simp[Instr.sliceBounds,hk _ h1 h2]
   | some l=>
    simp at h0 h1
    simp[Instr.sliceBounds,hk _ (by omega) h2,key l k.toNat _ h0 (by omega)]
 | some m=>
  cases hi with
  | none=>simp at hs
  | some k=>
   simp at h1 h2 h0 h3
   have hk:=key k m.toNat
   cases lo with
   | none=>
    simp at h1 h0
    simp[Instr.sliceBounds,key m cap _ (by omega) h3,hk _ h1 (by omega)]
   | some l=>
    simp at h0 h1
    simp[Instr.sliceBounds,key m cap _ (by omega) h3,hk _ (by omega) (by omega),key l k.toNat _ h0 (by omega)]
theorem qio {x:Option Operand}{κ:Option Int→Option α}{xs:List Operand}(hl:Looks g β w s a xs)(hx:∀ y,x=some y→y∈xs)(h:optIntK Γ s x κ=some r):
  ∃ n:Option Int,κ n=some r∧x.map a.eval=n.map ofInt:=by
 cases x with
 | none=>exact⟨none,h,rfl⟩
 | some y=>
  obtain⟨n,hn,h⟩:=qtx h
  have h1:=qfg (Γ:=Γ) hl 0 (hx y rfl)
  rw[hn] at h1
  exact⟨some n,h,by simp[h1.sc,ofInt]⟩
theorem slcC_R {t e:TypeId}{q:Ty}(hu:P.underlying t=some (.slice e))(hq:TyOk P e q){c c':Cell}{v:Value}{lo hi mx:Option Int}(hs:mx.isSome=true→hi.isSome=true)(h:R g w c v)
  (hc:slcC q.size c (lo.getD 0) hi mx=some c'):∃ v',(Instr.sliceAt t v (lo.map ofInt) (hi.map ofInt) (mx.map ofInt)).run P w=.ok v' w∧R g w c' v':=by
 have run:∀ (ad:Option Addr) (len cap:Nat),0≤lo.getD 0→lo.getD 0≤hi.getD len→hi.getD len≤mx.getD cap→mx.getD cap≤cap→
   (Instr.sliceAt t (.slice ad len cap) (lo.map ofInt) (hi.map ofInt) (mx.map ofInt)).run P w=
    .ok (.slice (if (mx.getD cap).toNat=(lo.getD 0).toNat then ad else ad.map (·.add ((lo.getD 0).toNat*q.size))) ((hi.getD len).toNat - (lo.getD 0).toNat) ((mx.getD cap).toNat - (lo.getD 0).toNat)) w:=by
  intro ad len cap h0 h1 h2 h3
  simp only[Instr.sliceAt,Sem.run_bind,qaj hu,Result.andThen_ok,Instr.slice,qid true len cap lo hi mx hs h0 h1 h2 h3,hq.run_sizeOf,Sem.run_pure]
 unfold slcC at hc
 split at hc
 ·rename_i full sz rows
  dsimp only at hc
  split at hc
  ·rename_i hsz
   split at hc
   ·rename_i hb
    simp only[Option.some.injEq] at hc
    obtain⟨hb0,hb1,hb2,hb3⟩:=hb
    obtain⟨ad,cap,ev,hcap⟩:=h.lst'
    subst ev
    have hm:mx.getD rows.length≤mx.getD (cap:Int):=by cases mx<;>simp;omega
    have hm2:mx.getD (cap:Int)≤cap:=by cases mx<;>simp at hb3 ⊢;omega
    refine⟨_,run ad rows.length cap hb0 hb1 (by omega) hm2,?_⟩
    subst hc
    generalize hL:lo.getD 0=L at*
    generalize hHi:hi.getD (rows.length:Int)=Hh at*
    have hfull:qya full mx Hh rows.length=true→(mx.getD (cap:Int)).toNat - L.toNat=Hh.toNat - L.toNat:=by
     intro hf
     unfold qya at hf
     cases mx with
     | some m=>simp at hf ⊢;omega
     | none=>
      simp at hf
      have:cap=rows.length:=by
       cases h with
       | nil=>simp;have:=‹full=true→cap=0› hf.1;omega
       | lst=>exact ‹full=true→cap=rows.length› hf.1
      simp;omega
    by_cases hne:L.toNat < Hh.toNat
    ·have hmne:¬ (mx.getD (cap:Int)).toNat=L.toNat:=by omega
     rw[if_neg hmne]
     have hlen:((rows.drop L.toNat).take (Hh - L).toNat).length=Hh.toNat - L.toNat:=by simp;omega
     cases h with
     | nil=>have:(([]:List (List Cell)).length:Int)=0:=rfl;simp only[this] at*;cases mx<;>simp at hb3 hb2<;>omega
     | lst _ _ _ b o cap val hne' hf hcp hs' hp hcell hr=>
      have hszq:sz=q.size:=by
       rcases hsz with h1 | h1
       ·exact h1
       ·exact absurd h1 hne'
      simp only[Option.map_some,addr_add]
      rw[← hlen]
      have hget:∀ i row,((rows.drop L.toNat).take (Hh - L).toNat)[i]?=some row→rows[L.toNat+i]?=some row:=by
       intro i row hi
       rw[List.getElem?_take] at hi
       split at hi
       ·rwa [List.getElem?_drop] at hi
       ·simp at hi
      have hmem:∀ row∈(rows.drop L.toNat).take (Hh - L).toNat,row∈rows:=fun row hrow=>List.mem_of_mem_drop (List.mem_of_mem_take hrow)
      refine .lst _ _ _ b (o+L.toNat*q.size) _ (fun i j=>val (L.toNat+i) j) (fun hh=>by rw[hh] at hlen;simp at hlen;omega) (fun hf=>by rw[hlen];exact hfull hf) (by rw[hlen];omega)
       (fun row hrow=>by rw[← hszq];exact hs' row (hmem row hrow)) (fun row hrow=>hp row (hmem row hrow)) (fun i j row c h1 h2=>?_) (fun i j row c h1 h2=>hr _ j row c (hget i row h1) h2)
      have:=hcell _ j row c (hget i row h1) h2
      rw[hszq] at this
      rw[show o+L.toNat*q.size+i*q.size+j=o+(L.toNat+i)*q.size+j by rw[Nat.add_mul];omega]
      exact this
    ·have hz:(rows.drop L.toNat).take (Hh - L).toNat=[]:=by
      have:(Hh - L).toNat=0:=by omega
      rw[this];rfl
     rw[hz,show Hh.toNat - L.toNat=0 by omega]
     exact .nil _ _ _ _ fun hf=>by have:=hfull hf;omega
   ·simp at hc
  ·simp at hc
 ·rename_i id sz off len ep
  dsimp only at hc
  split at hc
  ·rename_i hsz
   split at hc
   ·rename_i hb
    obtain⟨hb0,hb1,hb2,hb3⟩:=hb
    obtain⟨ad,cap,ev,hcap⟩:=h.vs'
    subst ev
    have hm:mx.getD len≤mx.getD (cap:Int):=by cases mx<;>simp;omega
    have hm2:mx.getD (cap:Int)≤cap:=by cases mx<;>simp at hb3 ⊢;omega
    refine⟨_,run ad len cap hb0 hb1 (by omega) hm2,?_⟩
    generalize hL:lo.getD 0=L at*
    generalize hHi:hi.getD (len:Int)=Hh at*
    generalize hM:mx.getD (cap:Int)=M at*
    cases h with
    | vs _ _ _ _ _ ad cap ow ho hle hn hlc hh hkd=>
     split at hc
     ·rename_i hcase
      simp only[Option.some.injEq] at hc
      subst hc
      have had:(if M.toNat=L.toNat then ad else ad.map (·.add (L.toNat*q.size)))=ad.map (·.add (L.toNat*q.size)):=by
       split
       ·rename_i he
        have:L.toNat=0:=by
         rcases hcase with h1 | h1
         ·omega
         ·omega
        rw[this]
        cases ad<;>simp[Addr.add]
       ·rfl
      rw[had,show Hh.toNat - L.toNat=(Hh - L).toNat by omega]
      refine .vs _ _ _ _ _ _ _ ow ho hle (fun e=>?_) (by omega) (fun e=>?_) hkd
      ·cases ad with
       | none=>have:=hn rfl;omega
       | some ad=>simp at e
      ·obtain⟨h1,h2,h3⟩:=hh e
       refine⟨?_,h2,?_⟩
       ·rw[h1,Option.map_some,addr_add,← hsz,Nat.add_mul,Nat.add_assoc]
       ·refine Nat.le_trans (Nat.mul_le_mul_right _ ?_) h3
        omega
     ·simp only[Option.some.injEq] at hc
      subst hc
      rw[show Hh.toNat - L.toNat=0 by omega]
      exact .nil _ _ _ _ fun hf=>by simp at hf
   ·simp at hc
  ·simp at hc
 ·simp at hc
theorem qinb {κ:Slot→Option α}{t:TypeId}{x:Operand}{lo hi mx:Option Operand}(hΓ:CtxOk P Γ)(ho:o.op=.slice t x lo hi mx)(hl:Looks g β w s a o.op.operands.toList)
  (h:(match Γ.ty t with
  | some r=>
   optIntK Γ s lo fun lo=>optIntK Γ s hi fun hi=>optIntK Γ s mx fun mx=>
    match r.kd,opd Γ s t x,mx with
    | .str,.av (.one (.sc (.string b))),none=>(subS b (lo.getD 0) (hi.getD b.size)).bind fun z=>κ (.av (.one (.sc (.string z))))
    | .slice e,.av (.one c),mx=>
     match Γ.ty e with
     | some q=>if mx.isSome=true∧hi.isSome=false then none else (slcC q.size c (lo.getD 0) hi mx).bind fun z=>κ (.av (.one z))
     | none=>none
    | _,_,_=>none
  | none=>none)=some r):∃ v,κ v=some r∧Yl P a w o g β v:=by
 have h1:=qfg (Γ:=Γ) hl t (x:=x) (by simp[ho,Op.operands])
 split at h
 ·rename_i q hq
  have hk:=(hΓ.ty _ _ hq).kd
  obtain⟨l,h,hlo⟩:=qio hl (fun y hy=>by simp[ho,Op.operands,hy]) h
  obtain⟨hh,h,hhi⟩:=qio hl (fun y hy=>by simp[ho,Op.operands,hy]) h
  obtain⟨m,h,hmx⟩:=qio hl (fun y hy=>by simp[ho,Op.operands,hy]) h
  have hrun:∀ v',(Instr.sliceAt t (a.eval x) (l.map ofInt) (hh.map ofInt) (m.map ofInt)).run P w=.ok v' w→(execOp a.eval o).run P w=.ok (.value v') w:=by
   intro v' hv
   simp only[execOp,ho,hlo,hhi,hmx,Sem.run_bind,hv]
   rfl
  split at h
  ·rename_i b hkd hb
   rw[hb] at h1
   rw[hkd] at hk
   obtain⟨z,hz,h⟩:=Option.bind_eq_some_iff.1 h
   unfold subS at hz
   split at hz
   ·rename_i hc
    simp only[Option.some.injEq] at hz
    refine⟨_,h,.string z,hrun _ ?_,.mkSc rfl⟩
    have hk':P.underlying t=some .string:=hk
    have:=qid (P:=P) (w:=w) false b.size b.size l hh none (by simp) hc.1 hc.2.1 (by simpa using hc.2.2) (by simp)
    simp only[Option.map_none] at this
    rw[h1.sc]
    simp only[Instr.sliceAt,Sem.run_bind,qaj hk',Result.andThen_ok,Instr.slice,Option.map_none,Option.isSome_none,Bool.false_eq_true,if_false,this,Sem.run_pure,hz]
   ·simp at hz
  ·rename_i e c mx' hkd hb
   rw[hb] at h1
   rw[hkd] at hk
   split at h
   ·rename_i q' hq'
    split at h
    ·simp at h
    ·rename_i hc
     obtain⟨z,hz,h⟩:=Option.bind_eq_some_iff.1 h
     obtain⟨v',hv',rv⟩:=slcC_R hk (hΓ.ty _ _ hq') (fun h1=>by
      cases hh with
      | none=>simp[h1] at hc
      | some _=>rfl) h1.one hz
     exact⟨_,h,v',hrun _ hv',.mk1 rv⟩
   ·simp at h
  ·simp at h
 ·simp at h
theorem qyc {xs:List Operand}(hl:Looks g β w s a xs){ts:List TypeId}{ys:List Operand}{vs:List AV}(hy:∀ y∈ys,y∈xs)(h:qrjb (opds Γ s ts ys)=some vs):AL g w vs (ys.map a.eval):=by
 induction ys generalizing ts vs with
 | nil=>simp[opds,qrjb] at h;subst h;exact All2.nil
 | cons y ys ih=>
  simp only[opds] at h
  have h1:=qfg (Γ:=Γ) hl (ts.headD 0) (hy y (by simp))
  generalize opd Γ s (ts.headD 0) y=sl at h h1
  cases sl with
  | av v=>
   simp only[qrjb] at h
   split at h
   ·rename_i us hus
    simp only[Option.some.injEq] at h
    subst h
    exact All2.cons h1.av' (ih (fun y hy'=>hy y (by simp[hy'])) hus)
   ·simp at h
  | _=>simp[qrjb] at h
theorem qkc {xs:List Operand}(hl:Looks g β w s a xs){ys:List Operand}{vs:List AV}(hy:∀ y∈ys,y∈xs)(h:qrjb (ys.map (opd Γ s 0))=some vs):AL g w vs (ys.map a.eval):=by
 have:ys.map (opd Γ s 0)=opds Γ s [] ys:=by
  clear h hy
  induction ys with
  | nil=>rfl
  | cons y ys ih=>simp[opds,ih]
 rw[this] at h
 exact qyc hl hy h
theorem qeob {vs:List AV}{us:List Value}{cs:List Cell}(h:AL g w vs us)(hc:mapO (fun x=>match x with | .one c=>some c | .agg _=>none) vs=some cs):RL g w cs us:=by
 induction h generalizing cs with
 | nil=>simp[mapO] at hc;subst hc;exact All2.nil
 | cons h1 _ ih=>
  obtain⟨c,cs',rfl,h2,h3⟩:=qhm hc
  refine All2.cons ?_ (ih h3)
  split at h2
  ·simp only[Option.some.injEq] at h2
   subst h2
   cases h1 with
   | one c v h=>exact h
  ·simp at h2
theorem RL.fnR {f:FuncId}{first caps:List Cell}{fs cs:List Value}(hf:RL g w first fs)(hc:RL g w caps cs):R g w (.fn f first caps) (.func (.func f) fs.toArray cs.toArray):=by
 have key:∀ {xs:List Cell} {us:List Value},RL g w xs us→us=(List.range xs.length).map fun j=>us.getD j undef:=by
  intro xs us h
  apply List.ext_getElem?
  intro i
  rw[List.getElem?_map]
  by_cases hi:i < xs.length
  ·have:i < us.length:=by rw[h.length];exact hi
   rw[List.getElem?_range hi]
   simp[List.getElem?_eq_getElem this]
  ·rw[List.getElem?_eq_none (by rw[h.length];omega),List.getElem?_eq_none (by simp;omega)]
   rfl
 have e1:=key hf
 have e2:=key hc
 rw[e1,e2]
 refine .fn f first caps _ _ (fun j c hj=>?_) (fun j c hj=>?_)
 ·obtain⟨v,hv,rv⟩:=hf.get hj
  rwa [List.getD_eq_getElem?_getD,hv]
 ·obtain⟨v,hv,rv⟩:=hc.get hj
  rwa [List.getD_eq_getElem?_getD,hv]
theorem qtw {κ:Slot→Option α}{fn:Fn}{first captured:Array Operand}(ho:o.op=.makeFunc fn first captured)(hl:Looks g β w s a o.op.operands.toList)
  (h:(match (generalizing:=false) fn,qrjb (first.toList.map (opd Γ s 0)),qrjb (captured.toList.map (opd Γ s 0)) with
  | .func f,some a,some b=>match mapO (fun x=>match x with | .one c=>some c | .agg _=>none) a,mapO (fun x=>match x with | .one c=>some c | .agg _=>none) b with
   | some a,some b=>κ (.av (.one (.fn f a b)))
   | _,_=>none
  | _,_,_=>none)=some r):∃ v,κ v=some r∧Yl P a w o g β v:=by
 split at h
 ·rename_i f as bs ho hf hc
  have h1:=qkc hl (fun y hy=>by rw[ho];simp only[Op.operands];simp at hy ⊢;exact .inl hy) hf
  have h2:=qkc hl (fun y hy=>by rw[ho];simp only[Op.operands];simp at hy ⊢;exact .inr hy) hc
  split at h
  ·rename_i cs ds h3 h4
   refine⟨_,h,_,?_,.mk1 (RL.fnR (qeob h1 h3) (qeob h2 h4))⟩
   have e1:(first.toList.map a.eval).toArray=first.map a.eval:=by apply Array.toList_inj.1;simp
   have e2:(captured.toList.map a.eval).toArray=captured.map a.eval:=by apply Array.toList_inj.1;simp
   rw[e1,e2]
   simp[execOp,‹o.op=_›,Instr.makeFunc]
  ·simp at h
 ·simp at h
theorem qlic {xs:List Operand}(hl:Looks g β w s a xs){ts:List TypeId}{ys:List Operand}(hy:∀ y∈ys,y∈xs):All2 (SlotR g β w) (opds Γ s ts ys) (ys.map a.eval):=by
 induction ys generalizing ts with
 | nil=>exact All2.nil
 | cons y ys ih=>exact All2.cons (qfg hl _ (hy y (by simp))) (ih fun y hy'=>hy y (by simp[hy']))
theorem qbyb (c:Call)(ho:o.op=.call c):∀ y∈c.args.toList,y∈o.op.operands.toList:=by
 intro y hy
 rw[ho]
 simp only[Op.operands,Call.operands]
 simp at hy ⊢
 exact .inr hy
theorem qjdb {c:Call}{b:Builtin}(ho:o.op=.call c)(hc:c.callee=.builtin b)(v:Value)(w':World)(consts:Array Bool)
  (h:(builtin b c.argTypes o.type (c.args.map fun | .const _=>true | _=>false) (c.args.map a.eval)).run P w=.ok (.value v) w'):(execOp a.eval o).run P w=.ok (.value v) w':=by
 simp only[execOp,ho,resolve,hc,Sem.run_bind,Sem.run_pure,Result.andThen_ok,invoke]
 exact h
theorem qis (c:Call):c.args.map a.eval=(c.args.toList.map a.eval).toArray:=by apply Array.toList_inj.1;simp
theorem qjz {κ:Slot→Fr→Option α}{c:Call}{b:Builtin}(hΓ:CtxOk P Γ)(ho:o.op=.call c)(hc:c.callee=.builtin b)(hb:b=.len∨b=.max∨b=.min)(hl:Looks g β w s a o.op.operands.toList)
  (h:qfv Γ s b c.argTypes.toList (opds Γ s c.argTypes.toList c.args.toList) κ=some r):∃ v,κ v s=some r∧Yl P a w o g β v:=by
 have hop:=qlic (Γ:=Γ) hl (ts:=c.argTypes.toList) (qbyb c ho)
 have hrun:∀ v,(builtin b c.argTypes o.type (c.args.map fun | .const _=>true | _=>false) (c.args.map a.eval)).run P w=.ok (.value v) w→(execOp a.eval o).run P w=.ok (.value v) w:=
  fun v hv=>qjdb ho hc v w #[] hv
 rw[qis] at hrun
 generalize opds Γ s c.argTypes.toList c.args.toList=sl at h hop
 generalize c.args.toList.map a.eval=us at hrun hop
 generalize ht0:c.argTypes.toList=tsl at h
 unfold qfv at h
 split at h
 ·rename_i t ts x
  have ht:c.argTypes[0]?=some t:=by rw[← Array.getElem?_toList,ht0];rfl
  cases hop with
  | cons h1 h2=>
   cases h2
   split at h
   ·rename_i q hq
    have hk:=(hΓ.ty _ _ hq).kd
    split at h
    ·rename_i bs hkd
     rw[hkd] at hk
     have hk:P.underlying t=some .string:=hk
     refine⟨_,h,_,hrun (.int .i64 bs.size) ?_,.mkSc rfl⟩
     rw[h1.sc]
     simp[Go.builtin,Builtin.len_,ht,qaj hk,goInt]
    ·rename_i e cc hkd
     rw[hkd] at hk
     have hk:P.underlying t=some (.slice e):=hk
     obtain⟨n,hn,h⟩:=Option.bind_eq_some_iff.1 h
     obtain⟨ad,cap,ev⟩:=qgbc h1.one hn
     refine⟨_,h,_,hrun (.int .i64 n) ?_,.mkSc rfl⟩
     rw[ev]
     simp[Go.builtin,Builtin.len_,ht,qaj hk,goInt]
    ·rename_i n e _ hkd
     rw[hkd] at hk
     have hk:P.underlying t=some (.array n e):=hk
     refine⟨_,h,_,hrun (.int .i64 n) ?_,.mkSc rfl⟩
     simp[Go.builtin,Builtin.len_,ht,qaj hk,goInt]
    ·simp at h
   ·simp at h
 ·rcases hb with hb | hb | hb<;>simp at hb
 ·rename_i k u k' v
  cases hop with
  | cons h1 h2=>
   cases h2 with
   | cons h2 h3=>
    cases h3
    split at h
    ·rename_i hk
     subst hk
     refine⟨_,h,_,hrun (.int k (if u < v then v else u)) ?_,.mkSc rfl⟩
     rw[h1.sc,h2.sc]
     simp[Go.builtin,Builtin.max_,Builtin.max2]
    ·simp at h
 ·rename_i k u k' v
  cases hop with
  | cons h1 h2=>
   cases h2 with
   | cons h2 h3=>
    cases h3
    split at h
    ·rename_i hk
     subst hk
     refine⟨_,h,_,hrun (.int k (if v < u then v else u)) ?_,.mkSc rfl⟩
     rw[h1.sc,h2.sc]
     simp[Go.builtin,Builtin.min_,Builtin.min2]
    ·simp at h
 ·simp at h
theorem qgc {src dst:TypeId}{x:Operand}(hΓ:CtxOk P Γ)(ho:o.op=.convert src dst x)(hl:Looks g β w s a o.op.operands.toList){v:Slot}
  {q1 q2:Ty} (hs:Γ.ty src=some q1) (hd:Γ.ty dst=some q2)
  (h:(∃ k k' n,q2.kd=.int k∧opd Γ s src x=.av (.one (.sc (.int k' n)))∧v=.av (.one (.sc (.int k (k.wrap n)))))∨
   (∃ b,q2.kd=.str∧q1.kd=.str∧opd Γ s src x=.av (.one (.sc (.string b)))∧v=.av (.one (.sc (.string b))))):Yl P a w o g β v:=by
 have h1:=qfg (Γ:=Γ) hl src (x:=x) (by simp[ho,Op.operands])
 obtain⟨d,hd1,_⟩:=(hΓ.ty _ _ hs).desc
 have hk:=(hΓ.ty _ _ hd).kd
 rcases h with⟨k,k',n,hk2,hx,rfl⟩ | ⟨b,hk2,hk1,hx,rfl⟩
 ·rw[hk2] at hk
  rw[hx] at h1
  have hk:P.underlying dst=some (.int k):=hk
  refine⟨.int k (k.wrap n),?_,.mkSc rfl⟩
  simp only[execOp,ho,h1.sc,convert,Sem.run_bind,qaj hd1,qaj hk,Result.andThen_ok]
  rfl
 ·rw[hk2] at hk
  rw[hx] at h1
  have hk:P.underlying dst=some .string:=hk
  refine⟨.string b,?_,.mkSc rfl⟩
  simp only[execOp,ho,h1.sc,convert,Sem.run_bind,qaj hd1,qaj hk,Result.andThen_ok]
  rfl
end
end Go.Ev
