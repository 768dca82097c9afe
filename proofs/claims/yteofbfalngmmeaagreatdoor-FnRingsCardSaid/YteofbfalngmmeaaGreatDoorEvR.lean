/- Calls: how arguments are lent and results taken over. No program occurs here; conditions: what the theorems name. -/
import Derived.Test.YteofbfalngmmeaaGreatDoorEvQ
namespace Go.Ev
open Go
theorem qajb {α β:Type}{f:α→Option β}{xs:List α}{ys:List β}(h:mapO f xs=some ys){i:Nat}{y:β}(hy:ys[i]?=some y):∃ x,xs[i]?=some x∧f x=some y:=by
 induction xs generalizing ys i with
 | nil=>simp[mapO] at h;subst h;simp at hy
 | cons x xs ih=>
  obtain⟨y0,zs,rfl,h1,h2⟩:=qhm h
  cases i with
  | zero=>simp at hy;subst hy;exact⟨x,rfl,h1⟩
  | succ i=>exact ih h2 (by simpa using hy)
section
variable {P:Program} {Γ:Ctx} {g g0:Gh} {β:Nat→Option Nat} {w w0 w':World} {a:Act} {s s':Fr} {B N:Nat} {H Hb Hb':List Entry} {Xf:Nat→List Cell}
theorem qpub (cs:List Cell):normRow cs=cs.map norm:=by
 induction cs with
 | nil=>simp[normRow]
 | cons c cs ih=>simp[normRow,ih]
theorem qhn (rs:List (List Cell)):normRows rs=rs.map (·.map norm):=by
 induction rs with
 | nil=>simp[normRows]
 | cons c cs ih=>simp[normRows,ih,qpub]
theorem R.norm {c:Cell}{v:Value}(h:R g w c v):R g w (norm c) v:=by
 induction h with
 | sc v h=>simp only[Ev.norm];exact .sc v h
 | nil full sz a cap h=>simp only[Ev.norm,normRows];exact .nil _ _ _ _ (by simp)
 | lst full sz rows b o cap val hne hf hc hsz hp hcell hr ih=>
  simp only[Ev.norm,qhn]
  have hl:rows.length=(rows.map (·.map Ev.norm)).length:=by simp
  rw[hl] at hc ⊢
  refine .lst false sz _ b o cap val (by simpa using hne) (by simp) hc ?_ ?_ ?_ ?_
  ·intro row hrow
   obtain⟨r0,h0,rfl⟩:=List.mem_map.1 hrow
   simpa using hsz r0 h0
  ·intro row hrow c hc
   obtain⟨r0,h0,rfl⟩:=List.mem_map.1 hrow
   obtain⟨c0,h1,rfl⟩:=List.mem_map.1 hc
   have:=hp r0 h0 c0 h1
   have key:∀ {c:Cell},Pur c→Pur (Ev.norm c):=by
    intro c h
    induction h with
    | sc v=>simp only[Ev.norm];exact .sc v
    | lst f sz rows h ih=>
     simp only[Ev.norm,qhn]
     refine .lst _ _ _ fun row hrow c hc=>?_
     obtain⟨r0,h0,rfl⟩:=List.mem_map.1 hrow
     obtain⟨c0,h1,rfl⟩:=List.mem_map.1 hc
     exact ih r0 h0 c0 h1
   exact key this
  ·intro i j row c h1 h2
   simp only[List.getElem?_map,Option.map_eq_some_iff] at h1
   obtain⟨r0,h0,rfl⟩:=h1
   simp only[List.getElem?_map,Option.map_eq_some_iff] at h2
   obtain⟨c0,h3,rfl⟩:=h2
   exact hcell i j r0 c0 h0 h3
  ·intro i j row c h1 h2
   simp only[List.getElem?_map,Option.map_eq_some_iff] at h1
   obtain⟨r0,h0,rfl⟩:=h1
   simp only[List.getElem?_map,Option.map_eq_some_iff] at h2
   obtain⟨c0,h3,rfl⟩:=h2
   exact ih i j r0 c0 h0 h3
 | vs id sz off len ep a cap o ho hle hn hlc h hk=>simp only[Ev.norm];exact .vs id sz off len ep a cap o ho hle hn hlc h hk
 | ptr id sz idx off ep a o ho hle h hk=>simp only[Ev.norm];exact .ptr id sz idx off ep a o ho hle h hk
 | mp id ep b o ho hle h=>simp only[Ev.norm];exact .mp id ep b o ho hle h
 | bl T e id ep b o ho hle h=>simp only[Ev.norm];exact .bl T e id ep b o ho hle h
 | ref row off b o val hp hcell hr ih=>simp only[Ev.norm];exact .ref row off b o val hp hcell hr
 | fn f first caps fv cv hf hc ihf ihc=>simp only[Ev.norm];exact .fn f first caps fv cv hf hc
theorem Pur.norm {c:Cell}(h:Pur c):Pur (norm c):=by
 induction h with
 | sc v=>simp only[Ev.norm];exact .sc v
 | lst f sz rows h ih=>
  simp only[Ev.norm,qhn]
  refine .lst _ _ _ fun row hrow c hc=>?_
  obtain⟨r0,h0,rfl⟩:=List.mem_map.1 hrow
  obtain⟨c0,h1,rfl⟩:=List.mem_map.1 hc
  exact ih r0 h0 c0 h1
theorem qfbc {c c':Cell}{v:Value}{p:Nat→Nat→Prop}{own:Nat→Option Own}(hp:∀ b j,g.prot b j→p b j)(h:R g w c v)(hr:qeuc c=some c'):R ⟨own,p⟩ w c' v∧Pur c':=by
 obtain⟨c0,h0,rfl⟩:=Option.map_eq_some_iff.1 hr
 obtain⟨rfl,hpu⟩:=qwl h h0
 exact⟨(h.pure (g':=⟨own,p⟩) hp (fun _ _ _=>rfl) hpu).norm,hpu.norm⟩
theorem qlyb {chk:Bool}{p:Nat→Nat→Prop}(hh:HR g B Hb w)(hl:HLe H Hb)(hp:∀ b j,g.prot b j→p b j)
  (he:∀ id o e,g.own id=some o→Hb[id]?=some e→(chk=true→e.fr=true)→∀ j,o.base≤j→j < o.base+e.rows.length*o.sz→p o.blk j) (own:Nat→Option Own) (n:Nat):
  ∀ {c c':Cell} {v:Value},R g w c v→reify chk H n c=some c'→R ⟨own,p⟩ w c' v∧Pur c':=by
 induction n with
 | zero=>intro c c' v h hr;exact qfbc hp h hr
 | succ n ih=>
  intro c c' v h hr
  simp only[reify] at hr
  split at hr
  ·rename_i id sz off len ep
   split at hr
   ·rename_i e hen
    split at hr
    ·rename_i hc
     obtain⟨hfr,hlen⟩:=hc
     simp only[Option.map_eq_some_iff] at hr
     obtain⟨rows,hrows,rfl⟩:=hr
     cases h with
     | vs _ _ _ _ _ ad cap ow ho hle hn hlc hcur hk=>
      obtain⟨e',h1,h2,h3,h4,h5,h6⟩:=hh.at hl hen ho
      obtain⟨had,hos,hroom⟩:=hcur h6
      obtain⟨cc,t,fz,m1,m2,m3,m4,m5,m6⟩:=h5.mem (hk h6)
      have hl0:((e.rows.drop off).take len).length=len:=by simp;omega
      have hl1:rows.length=len:=by rw[qqy hrows,hl0]
      have hcell:∀ (i j:Nat) row cl,rows[i]?=some row→row[j]?=some cl→∃ x,cc[ow.base+off*sz+i*sz+j]?=some x∧R ⟨own,p⟩ w cl x∧Pur cl∧j < sz:=by
       intro i j row cl a1 a2
       obtain⟨row0,b1,b2⟩:=qajb hrows a1
       obtain⟨cl0,b3,b4⟩:=qajb b2 a2
       have b5:e.rows[off+i]?=some row0:=by
        rw[List.getElem?_take] at b1
        split at b1
        ·rwa [List.getElem?_drop] at b1
        ·simp at b1
       obtain⟨x,b6,b7⟩:=m6 (off+i) j row0 cl0 (by rw[h2];exact b5) b3
       have hj:j < ow.sz:=by rw[← m4 row0 (by rw[h2];exact List.mem_of_getElem? b5)];exact(List.getElem?_eq_some_iff.1 b3).1
       obtain⟨c1,c2⟩:=ih b7 b4
       refine⟨x,?_,c1,c2,by rw[← hos];exact hj⟩
       rw[← b6,hos]
       congr 1
       rw[Nat.add_mul];omega
      have hrowlen:∀ row∈rows,row.length=sz:=by
       intro row hrow
       obtain⟨i,hi⟩:=List.getElem?_of_mem hrow
       obtain⟨row0,b1,b2⟩:=qajb hrows hi
       rw[qqy b2,← hos]
       exact m4 row0 (by rw[h2];exact List.mem_of_mem_drop (List.mem_of_mem_take (List.mem_of_getElem? b1)))
      have hpur:∀ row∈rows,∀ c∈row,Pur c:=by
       intro row hrow c hc
       obtain⟨i,hi⟩:=List.getElem?_of_mem hrow
       obtain⟨j,hj⟩:=List.getElem?_of_mem hc
       exact(hcell i j row c hi hj).choose_spec.2.2.1
      refine⟨?_,.lst _ _ _ hpur⟩
      by_cases hne:rows=[]
      ·subst hne
       simp at hl1
       subst hl1
       exact .nil _ _ _ _ (by simp)
      ·subst had
       rw[← hl1] at hlc ⊢
       refine .lst false sz rows ow.blk (ow.base+off*sz) cap (fun i j=>(cc[ow.base+off*sz+i*sz+j]?).getD undef) hne (by simp) hlc hrowlen hpur (fun i j row cl a1 a2=>?_) (fun i j row cl a1 a2=>?_)
       ·obtain⟨x,b1,b2,b3,b4⟩:=hcell i j row cl a1 a2
        refine⟨by rw[cell_of_block m1,b1];rfl,he id ow e' ho h1 (fun hc=>h4 (hfr hc)) _ (by omega) ?_⟩
        have hi:=(List.getElem?_eq_some_iff.1 a1).1
        have k1:(off+(i+1))*sz≤e'.rows.length*sz:=Nat.mul_le_mul_right _ (by rw[h2];omega)
        simp only[Nat.add_mul,Nat.one_mul] at k1
        rw[hos]
        omega
       ·obtain⟨x,b1,b2,b3,b4⟩:=hcell i j row cl a1 a2
        simp only[b1,Option.getD_some]
        exact b2
    ·simp at hr
   ·simp at hr
  ·exact qfbc hp h hr
theorem qqib {chk:Bool}{p:Nat→Nat→Prop}(hh:HR g B Hb w)(hl:HLe H Hb)(hp:∀ b j,g.prot b j→p b j)
  (he:∀ id o e,g.own id=some o→Hb[id]?=some e→(chk=true→e.fr=true)→∀ j,o.base≤j→j < o.base+e.rows.length*o.sz→p o.blk j) (own:Nat→Option Own)
  {x y:AV} {v:Value} (h:AVR g w x v) (hr:qal chk H x=some y):AVR ⟨own,p⟩ w y v:=by
 cases h with
 | one c v h=>
  simp only[qal,Option.map_eq_some_iff] at hr
  obtain⟨c',h1,rfl⟩:=hr
  exact .one _ _ (qlyb hh hl hp he own _ h h1).1
 | agg cs vs h=>
  simp only[qal,Option.map_eq_some_iff] at hr
  obtain⟨cs',h1,rfl⟩:=hr
  refine .agg _ _ ?_
  induction h generalizing cs' with
  | nil=>simp[mapO] at h1;subst h1;exact All2.nil
  | cons a _ ih=>
   obtain⟨y0,zs,rfl,h2,h3⟩:=qhm h1
   exact All2.cons (qlyb hh hl hp he own _ a h2).1 (ih zs h3)
theorem qjj {chk:Bool}{p:Nat→Nat→Prop}(hh:HR g B Hb w)(hl:HLe H Hb)(hp:∀ b j,g.prot b j→p b j)
  (he:∀ id o e,g.own id=some o→Hb[id]?=some e→(chk=true→e.fr=true)→∀ j,o.base≤j→j < o.base+e.rows.length*o.sz→p o.blk j) (own:Nat→Option Own)
  {xs ys:List AV} {vs:List Value} (h:AL g w xs vs) (hr:mapO (qal chk H) xs=some ys):AL ⟨own,p⟩ w ys vs:=by
 induction h generalizing ys with
 | nil=>simp[mapO] at hr;subst hr;exact All2.nil
 | cons a _ ih=>
  obtain⟨y0,zs,rfl,h2,h3⟩:=qhm hr
  exact All2.cons (qqib hh hl hp he own a h2) (ih h3)
theorem qdhd {kd:Kd}{row:List Cell}{off:Nat}{d:Cell}(h:ldK kd row off some=some d):row[off]?=some d∧(kd.plain=true→∃ v,d=.sc v):=by
 unfold ldK at h
 split at h
 ·obtain⟨b,hb,h⟩:=Option.bind_eq_some_iff.1 h
  simp at h;subst h
  exact⟨qexc hb,fun _=>⟨_,rfl⟩⟩
 ·obtain⟨b,hb,h⟩:=Option.bind_eq_some_iff.1 h
  simp at h;subst h
  exact⟨qerc hb,fun _=>⟨_,rfl⟩⟩
 ·obtain⟨b,hb,h⟩:=Option.bind_eq_some_iff.1 h
  simp at h;subst h
  exact⟨qfoc hb,fun _=>⟨_,rfl⟩⟩
 ·obtain⟨b,hb,h⟩:=Option.bind_eq_some_iff.1 h
  simp at h;subst h
  refine⟨hb,fun hp=>?_⟩
  cases kd<;>simp[Kd.plain] at hp<;>simp_all
theorem ldK_id {kd:Kd}{c d:Cell}(h:ldK kd [c] 0 some=some d):d=c∧(kd.plain=true→∃ v,d=.sc v):=by
 obtain⟨h1,h2⟩:=qdhd h
 simp at h1
 exact⟨h1.symm,h2⟩
theorem ldL_at {ks:List Kd}{row:List Cell}{off:Nat}{ds:List Cell}(h:ldL ks row off some=some ds):
  ds.length=ks.length∧(∀ (j:Nat) d,ds[j]?=some d→row[off+j]?=some d)∧(ks.all Kd.plain=true→∀ d∈ds,∃ v,d=.sc v):=by
 induction ks generalizing off ds with
 | nil=>simp[ldL] at h;subst h;simp
 | cons k ks ih=>
  simp only[ldL] at h
  rw[qlr] at h
  obtain⟨c,hc,h⟩:=Option.bind_eq_some_iff.1 h
  rw[qrb] at h
  obtain⟨cs,hcs,h⟩:=Option.bind_eq_some_iff.1 h
  simp only[Option.some.injEq] at h
  subst h
  obtain⟨a1,a2⟩:=qdhd hc
  obtain⟨b1,b2,b3⟩:=ih hcs
  refine⟨by simp[b1],fun j d hj=>?_,fun hp d hd=>?_⟩
  ·cases j with
   | zero=>simp at hj;subst hj;exact a1
   | succ j=>rw[show off+(j+1)=off+1+j by omega];exact b2 j d (by simpa using hj)
  ·simp only[List.all_cons,Bool.and_eq_true] at hp
   rcases List.mem_cons.1 hd with rfl | hd
   ·exact a2 hp.1
   ·exact b3 hp.2 d hd
theorem qyrc {rk:List (Bool×List Kd)}{r ys:List AV}{i:Nat}(h:resL rk r i some=some ys)(hs:qab rk (r.drop i)=true):ys=r.drop i∧(scalars rk=true→∀ y∈ys,∀ c∈y.cells,∃ v,c=.sc v):=by
 induction rk generalizing i ys with
 | nil=>
  simp[resL] at h
  subst h
  cases hd:r.drop i with
  | nil=>simp
  | cons x xs=>rw[hd] at hs;simp[qab] at hs
 | cons k rk ih=>
  obtain⟨b,ks⟩:=k
  cases hd:r.drop i with
  | nil=>rw[hd] at hs;cases b<;>(try cases ks with | nil=>_ | cons _ t=>cases t)<;>simp[qab] at hs
  | cons x xs=>
   have hx:r[i]?=some x:=by
    have:=congrArg (fun l=>l[0]?) hd
    simpa using this
   have htl:r.drop (i+1)=xs:=by rw[← List.tail_drop,hd];rfl
   rw[hd] at hs
   cases b with
   | true=>
    cases x with
    | one c=>simp[qab] at hs
    | agg cs=>
     simp only[qab,Bool.and_eq_true,beq_iff_eq] at hs
     simp only[resL] at h
     rw[qrb] at h
     obtain⟨ds,hds,h⟩:=Option.bind_eq_some_iff.1 h
     rw[qbeb] at h
     obtain⟨zs,hzs,h⟩:=Option.bind_eq_some_iff.1 h
     simp only[Option.some.injEq] at h
     subst h
     have hc:qaa r i=cs:=by simp[qaa,hx,AV.cells]
     rw[hc] at hds
     obtain⟨a1,a2,a3⟩:=ldL_at hds
     obtain⟨b1,b2⟩:=ih hzs (by rw[htl];exact hs.2)
     have:ds=cs:=by
      apply List.ext_getElem?
      intro i
      by_cases hi:i < ds.length
      ·obtain⟨d,hd⟩:∃ d,ds[i]?=some d:=⟨_,List.getElem?_eq_getElem hi⟩
       rw[hd]
       have:=a2 i d hd
       rw[Nat.zero_add] at this
       exact this.symm
      ·rw[List.getElem?_eq_none (by omega),List.getElem?_eq_none (by omega)]
     subst this
     refine⟨by rw[b1,htl],fun hp y hy c hc=>?_⟩
     simp only[scalars,List.all_cons,Bool.and_eq_true] at hp
     rcases List.mem_cons.1 hy with rfl | hy
     ·exact a3 hp.1 c hc
     ·exact b2 hp.2 y hy c hc
   | false=>
    cases ks with
    | nil=>simp[qab] at hs
    | cons k ks=>
     cases ks with
     | cons _ _=>simp[qab] at hs
     | nil=>
      cases x with
      | agg cs=>simp[qab] at hs
      | one c=>
       simp only[qab] at hs
       simp only[resL,List.headD_cons] at h
       rw[qlr] at h
       obtain⟨d,hd',h⟩:=Option.bind_eq_some_iff.1 h
       rw[qbeb] at h
       obtain⟨zs,hzs,h⟩:=Option.bind_eq_some_iff.1 h
       simp only[Option.some.injEq] at h
       subst h
       have hc:qaa r i=[c]:=by simp[qaa,hx,AV.cells]
       rw[hc] at hd'
       obtain⟨b1,b2⟩:=ih hzs (by rw[htl];exact hs)
       obtain⟨a1,a2⟩:=ldK_id hd'
       subst a1
       refine⟨by rw[b1,htl],fun hp y hy c hc=>?_⟩
       simp only[scalars,List.all_cons,Bool.and_eq_true] at hp
       rcases List.mem_cons.1 hy with rfl | hy
       ·simp only[AV.cells,List.mem_singleton] at hc
        subst hc
        exact a2 hp.1.1
       ·exact b2 hp.2 y hy c hc
theorem qhob {rk:List (Bool×List Kd)}{xs ys:List AV}(h:resK rk xs some=some ys):ys=xs∧(scalars rk=true→∀ y∈ys,∀ c∈y.cells,∃ v,c=.sc v):=by
 unfold resK at h
 cases hs:qab rk xs with
 | false=>rw[hs] at h;simp at h
 | true=>
  rw[hs] at h
  exact qyrc (i:=0) h hs
theorem qth {xs:List AV}{v:Value}(h:SlotR g β w (qgj xs) v):∃ vs,AL g w xs vs∧∀ (g':Gh) (β':Nat→Option Nat) (w':World) (ys:List AV),AL g' w' ys vs→SlotR g' β' w' (qgj ys) v:=by
 cases xs with
 | nil=>
  cases h with
  | tup _ vs h=>
   cases h
   exact⟨[],All2.nil,fun g' β' w' ys hy=>by cases hy;exact .tup [] [] All2.nil⟩
 | cons x xs=>
  cases xs with
  | nil=>
   have h:=h.av'
   exact⟨[v],All2.cons h All2.nil,fun g' β' w' ys hy=>by cases hy with | cons a t=>cases t;exact .av _ _ a⟩
  | cons y xs=>
   cases h with
   | tup _ vs h=>
    refine⟨vs,h,fun g' β' w' ys hy=>?_⟩
    cases h with
    | cons _ h=>cases h with
     | cons _ h=>cases hy with
      | cons a hy=>cases hy with
       | cons b hy=>exact .tup _ _ (All2.cons a (All2.cons b hy))
end
end Go.Ev
