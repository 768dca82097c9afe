/- Soundness of the evaluator's operations that read memory. No program occurs here; conditions: what each lemma names. -/
import Derived.Test.YteofbfalngmmeaaGreatDoorEvF
namespace Go.Ev
open Go
def HLe (H Hb:List Entry):Prop:=∀ (id:Nat) (e:Entry),H[id]?=some e→∃ e':Entry,Hb[id]?=some e'∧e'.sz=e.sz∧e'.rows=e.rows∧e'.ep=e.ep∧(e.fr=true→e'.fr=true)
theorem HLe.refl (H:List Entry):HLe H H:=fun _ e h=>⟨e,h,rfl,rfl,rfl,fun h=>h⟩
theorem HLe.trans {a b c:List Entry}(h:HLe a b)(k:HLe b c):HLe a c:=by
 intro id e he
 obtain⟨e1,h1,h2,h3,h4,h5⟩:=h id e he
 obtain⟨e2,k1,k2,k3,k4,k5⟩:=k id e1 h1
 exact⟨e2,k1,k2.trans h2,k3.trans h3,k4.trans h4,fun x=>k5 (h5 x)⟩
theorem HLe.append (H K:List Entry):HLe H (H++K):=by
 intro id e he
 refine⟨e,?_,rfl,rfl,rfl,fun h=>h⟩
 rw[List.getElem?_append_left (List.getElem?_eq_some_iff.1 he).1]
 exact he
def Post (g:Gh)(β:Nat→Option Nat)(B:Nat)(Xf':Nat→List Cell)(H H' Hb':List Entry)(w:World)(made:Option Nat)(v:Slot)(v':Value)(w':World):Prop:=∃ g' β',SlotR g' β' w' v v'∧Mem g' β' B Xf' Hb' w'∧GoX (fun k=>∃ t,β t=some k) g g' w w'∧(∀ t b,β t=some b→β' t=some b)∧(∀ t b,β' t=some b→β t=some b∨(made=some t∧w.heap.size≤b))∧(∀ id o,g'.own id=some o→(∃ o0,g.own id=some o0)∨(H.length≤id∧id < H'.length)∨True)
def qea (P:Program)(a:Act)(o:Oper)(w:World)(Q:Value→World→Prop):Prop:=∀ Qx,o.wp P a w (fun a' w'=>∃ v',a'=a.put o.dst v'∧Q v' w') Qx
section
variable {P:Program} {Γ:Ctx} {g:Gh} {β:Nat→Option Nat} {w:World} {a:Act} {s:Fr} {α:Type} {r:α} {o:Oper} {B:Nat} {H Hb:List Entry} {Xf:Nat→List Cell}
theorem qea.value {Q:Value→World→Prop}{v:Value}{w':World}(h:(execOp a.eval o).run P w=.ok (.value v) w')(hQ:Q v w'):qea P a o w Q:=by
 intro Qx
 simp only[Oper.wp,h,Oper.upon]
 exact⟨v,rfl,hQ⟩
theorem qea.skip {Q:Value→World→Prop}{w':World}(h:(execOp a.eval o).run P w=.ok .skip w')(hQ:Q undef w'):qea P a o w Q:=by
 intro Qx
 simp only[Oper.wp,h,Oper.upon]
 exact⟨undef,rfl,hQ⟩
theorem qea.mono {Q Q':Value→World→Prop}(h:qea P a o w Q)(hq:∀ v w',Q v w'→Q' v w'):qea P a o w Q':=
 fun Qx=>Oper.wp_mono (fun _ _ ⟨v,e,q⟩=>⟨v,e,hq _ _ q⟩) (h Qx)
theorem Yl.runs {v:Slot}(h:Yl P a w o g β v)(hm:Mem g β B Xf Hb w):qea P a o w (Post g β B Xf H H Hb w none v):=by
 obtain⟨v',h1,h2⟩:=h
 exact .value h1 ⟨g,β,h2,hm,.refl _ g w,fun _ _ h=>h,fun _ _ h=>.inl h,fun _ o h=>.inl ⟨o,h⟩⟩
theorem qgt {id ep:Nat}{e:Entry}(h:entry? H id ep=some e):H[id]?=some e∧e.ep=ep:=by
 unfold entry? at h
 split at h
 ·split at h
  ·simp only[Option.some.injEq] at h;subst h;exact⟨by assumption,by assumption⟩
  ·simp at h
 ·simp at h
theorem HR.at (h:HR g B Hb w)(hl:HLe H Hb){id ep:Nat}{e:Entry}{o:Own}(he:entry? H id ep=some e)(ho:g.own id=some o):
  ∃ e',Hb[id]?=some e'∧e'.rows=e.rows∧e'.sz=e.sz∧(e.fr=true→e'.fr=true)∧EntR g w B e' o∧ep=o.ep:=by
 obtain⟨h1,h2⟩:=qgt he
 obtain⟨e',h3,h4,h5,h6,h7⟩:=hl id e h1
 obtain⟨e'',h8,h9⟩:=h.ent id o ho
 rw[h3] at h8
 simp only[Option.some.injEq] at h8
 subst h8
 exact⟨e',h3,h5,h4,h7,h9,by rw[← h9.ep,h6,h2]⟩
def qxnb (g:Gh)(w:World)(b o:Nat)(row:List Cell):Prop:=∀ (j:Nat) (c:Cell),row[j]?=some c→∃ v,w.cell? ⟨b,o+j,none⟩=some v∧R g w c v
theorem qxnb.list {b o:Nat}{row:List Cell}(h:qxnb g w b o row):∃ vs,RL g w row vs∧∀ (j:Nat) v,vs[j]?=some v→w.cell? ⟨b,o+j,none⟩=some v:=by
 induction row generalizing o with
 | nil=>exact⟨[],All2.nil,by simp⟩
 | cons c row ih=>
  obtain⟨v,h1,h2⟩:=h 0 c rfl
  obtain⟨vs,h3,h4⟩:=ih (o:=o+1) fun j c hj=>by
   rw[show o+1+j=o+(j+1) by omega]
   exact h (j+1) c (by simpa using hj)
  refine⟨v::vs,All2.cons h2 h3,fun j u hu=>?_⟩
  cases j with
  | zero=>simp at hu;subst hu;exact h1
  | succ j=>rw[show o+(j+1)=o+1+j by omega];exact h4 j u (by simpa using hu)
theorem qxnb.sub {b o off:Nat}{row cs:List Cell}(h:qxnb g w b o row)(hs:∀ (j:Nat) c,cs[j]?=some c→row[off+j]?=some c):qxnb g w b (o+off) cs:=by
 intro j c hj
 obtain⟨v,h1,h2⟩:=h (off+j) c (hs j c hj)
 exact⟨v,by rw[Nat.add_assoc];exact h1,h2⟩
theorem qljc (hh:HR g B Hb w)(hl:HLe H Hb){c:Cell}{v:Value}{row:List Cell}{off:Nat}(h:R g w c v)(hd:deref H c=some (row,off)):
  ∃ b o,v=.pointer (some ⟨b,o+off,none⟩)∧qxnb g w b o row:=by
 unfold deref at hd
 split at hd
 ·simp only[Option.some.injEq,Prod.mk.injEq] at hd
  obtain⟨rfl,rfl⟩:=hd
  cases h with
  | ref _ _ b o val hp hcell hr=>exact⟨b,o,rfl,fun j c hj=>⟨val j,(hcell j c hj).1,hr j c hj⟩⟩
 ·rename_i id sz idx off' ep
  split at hd
  ·rename_i e he
   split at hd
   ·rename_i row' hrow
    simp only[Option.some.injEq,Prod.mk.injEq] at hd
    obtain⟨rfl,rfl⟩:=hd
    cases h with
    | ptr _ _ _ _ _ ad ow ho hle h hk=>
     obtain⟨e',h1,h2,h3,h4,h5,h6⟩:=hh.at hl he ho
     obtain⟨hsz,had⟩:=h h6
     obtain⟨cc,t,fz,m1,m2,m3,m4,m5,m6⟩:=h5.mem (hk h6)
     refine⟨ow.blk,ow.base+idx*ow.sz,by rw[had,hsz],fun j c hj=>?_⟩
     obtain⟨v,n1,n2⟩:=m6 idx j row' c (by rw[h2];exact hrow) hj
     exact⟨v,by rw[cell_of_block m1];exact n1,n2⟩
   ·simp at hd
  ·simp at hd
 ·simp at hd
theorem qpbb {κ:AV→Option α}{t:TypeId}{x:Operand}{all:List Oper}(hΓ:CtxOk P Γ)(ho:o.op=.load t x)(hl:Looks g β w s a o.op.operands.toList)(hm:Mem g β B Xf Hb w)(hH:HLe s.H Hb)
  (hX:∀ b,qlqb all o=some b→Xf b=s.X.getD b [])
  (h:(match Γ.ty t with
  | some r=>atK s (qlqb all o) (opd Γ s 0 x) fun row off=>ldT r row off κ
  | none=>none)=some r):∃ v,κ v=some r∧Yl P a w o g β (.av v):=by
 have h1:=qfg (Γ:=Γ) hl 0 (x:=x) (by simp[ho,Op.operands])
 split at h
 ·rename_i q hq
  have hq':=hΓ.ty _ _ hq
  have key:∀ {b oo:Nat} {row:List Cell} {off:Nat},a.eval x=.pointer (some ⟨b,oo+off,none⟩)→qxnb g w b oo row→ldT q row off κ=some r→∃ v,κ v=some r∧Yl P a w o g β (.av v):=by
   intro b oo row off hv hr h
   obtain⟨cs,y,h2,h3,h4,h5⟩:=qclb hq' h
   obtain⟨vs,h6,h7⟩:=(hr.sub h3).list
   have hrun:=qsa (P:=P) (w:=w) hq' b (oo+off) vs (by rw[h6.length,h2]) h7
   refine⟨y,h4,_,?_,.av _ _ (h5 _ _ _ h6)⟩
   simp only[execOp,ho,hv,Instr.loadAt,Instr.sureAddr,Sem.run_bind,Sem.run_pure,Result.andThen_ok,hrun]
  unfold atK at h
  split at h
  ·rename_i b off hb
   split at h
   ·rename_i hroot
    rw[hb] at h1
    obtain⟨blk,hb1,e⟩:=h1.loc'
    have hbx:=hm.box b blk hb1
    rw[hX b hroot] at hbx
    obtain⟨c,tt,fz,m1,m2,m3⟩:=hbx.mem
    refine key (b:=blk) (oo:=0) (by rw[e];simp) (fun j cl hj=>?_) h
    obtain⟨v,hv,rv⟩:=m2.get hj
    exact⟨v,by rw[cell_of_block m1];simpa using hv,rv⟩
   ·simp at h
  ·rename_i c hc
   rw[hc] at h1
   obtain⟨p,hp,h⟩:=Option.bind_eq_some_iff.1 h
   obtain⟨b,oo,e,hr⟩:=qljc hm.heap hH h1.one (row:=p.1) (off:=p.2) hp
   exact key e hr h
  ·simp at h
 ·simp at h
theorem qfk {rows:List (List Cell)}{sz:Nat}(hs:∀ row∈rows,row.length=sz){i j:Nat}{row:List Cell}{c:Cell}(h1:rows[i]?=some row)(h2:row[j]?=some c):rows.flatten[i*sz+j]?=some c:=by
 induction rows generalizing i with
 | nil=>simp at h1
 | cons r0 rows ih=>
  have hr0:r0.length=sz:=hs r0 (by simp)
  cases i with
  | zero=>
   simp at h1
   subst h1
   have hj:=(List.getElem?_eq_some_iff.1 h2).1
   rw[List.flatten_cons,List.getElem?_append_left (by omega)]
   simpa using h2
  | succ i=>
   rw[List.flatten_cons,List.getElem?_append_right (by rw[hr0,Nat.add_mul];omega),hr0,show(i+1)*sz+j - sz=i*sz+j by rw[Nat.add_mul];omega]
   exact ih (fun row hr=>hs row (by simp[hr])) (by simpa using h1)
theorem qbf {rows:List (List Cell)}{sz:Nat}(hs:∀ row∈rows,row.length=sz):rows.flatten.length=rows.length*sz:=by
 induction rows with
 | nil=>simp
 | cons r0 rows ih=>rw[List.flatten_cons,List.length_append,hs r0 (by simp),ih fun row hr=>hs row (by simp[hr]),List.length_cons,Nat.add_mul];omega
theorem qnc {rows:List (List Cell)}{sz:Nat}(hs:∀ row∈rows,row.length=sz){n:Nat}{c:Cell}(h:rows.flatten[n]?=some c)(hz:0 < sz):
  ∃ row,rows[n / sz]?=some row∧row[n % sz]?=some c:=by
 induction rows generalizing n with
 | nil=>simp at h
 | cons r0 rows ih=>
  have hr0:r0.length=sz:=hs r0 (by simp)
  rw[List.flatten_cons] at h
  by_cases hn:n < sz
  ·rw[List.getElem?_append_left (by omega)] at h
   rw[Nat.div_eq_of_lt hn,Nat.mod_eq_of_lt hn]
   exact⟨r0,rfl,h⟩
  ·rw[List.getElem?_append_right (by omega),hr0] at h
   obtain⟨row,h1,h2⟩:=ih (fun row hr=>hs row (by simp[hr])) h
   have e1:n / sz=(n - sz) / sz+1:=by
    rw[Nat.div_eq_sub_div hz (by omega)]
   have e2:n % sz=(n - sz) % sz:=by rw[Nat.mod_eq_sub_mod (by omega)]
   rw[e1,e2]
   exact⟨row,by simpa using h1,h2⟩
theorem qejb (hh:HR g B Hb w)(hl:HLe H Hb){sz:Nat}{x:Cell}{v:Value}{rows:List (List Cell)}(h:R g w x v)(hr:rowsOf H sz x=some rows):
  ∃ ad cap,v=.slice ad rows.length cap∧rows.length≤cap∧(∀ row∈rows,row.length=sz)∧(rows=[]∨∃ b o,ad=some ⟨b,o,none⟩∧qxnb g w b o rows.flatten):=by
 unfold rowsOf at hr
 split at hr
 ·rename_i f sz' rows'
  obtain⟨ad,cap,e,hcap⟩:=h.lst'
  split at hr
  ·rename_i hsz
   simp only[Option.some.injEq] at hr
   subst hr
   refine⟨ad,cap,e,hcap,?_,?_⟩
   ·cases h with
    | nil=>simp
    | lst _ _ _ b o cap val hne hf hcp hs hp hcell hr=>rw[← hsz];exact hs
   ·by_cases hn:rows'=[]
    ·exact .inl hn
    ·refine .inr ?_
     cases h with
     | nil=>exact absurd rfl hn
     | lst _ _ _ b o cap' val hne hf hcp hs hp hcell hr=>
      simp only[Value.slice.injEq] at e
      refine⟨b,o,e.1.symm,fun n c hn=>?_⟩
      by_cases hz:0 < sz'
      ·obtain⟨row,h1,h2⟩:=qnc hs hn hz
       have h3:=hcell _ _ row c h1 h2
       refine⟨_,?_,hr _ _ row c h1 h2⟩
       rw[← h3.1]
       congr 2
       have:=Nat.div_add_mod n sz'
       rw[Nat.mul_comm] at this
       omega
      ·have hz:sz'=0:=by omega
       have:=qbf hs
       rw[hz,Nat.mul_zero] at this
       rw[List.length_eq_zero_iff.1 this] at hn
       simp at hn
  ·split at hr
   ·rename_i he
    simp only[Option.some.injEq] at hr
    subst hr
    have:rows'=[]:=by simpa using he
    subst this
    exact⟨ad,cap,e,hcap,by simp,.inl rfl⟩
   ·simp at hr
 ·rename_i id sz' off len ep
  split at hr
  ·rename_i hsz
   split at hr
   ·rename_i e he
    split at hr
    ·rename_i hlen
     simp only[Option.some.injEq] at hr
     subst hr
     cases h with
     | vs _ _ _ _ _ ad cap ow ho hle hn hlc h hk=>
      obtain⟨e',h1,h2,h3,h4,h5,h6⟩:=hh.at hl he ho
      obtain⟨had,hos,hroom⟩:=h h6
      obtain⟨cc,t,fz,m1,m2,m3,m4,m5,m6⟩:=h5.mem (hk h6)
      have hl2:((e.rows.drop off).take len).length=len:=by simp;omega
      have hsz2:∀ row∈(e.rows.drop off).take len,row.length=sz:=by
       intro row hrow
       rw[← hsz,← hos]
       exact m4 row (by rw[h2];exact List.mem_of_mem_drop (List.mem_of_mem_take hrow))
      refine⟨ad,cap,by rw[hl2],by rw[hl2];exact hlc,hsz2,?_⟩
      by_cases hz:0 < sz
      ·refine .inr ⟨ow.blk,ow.base+off*sz,by rw[had,hsz],fun n c hn'=>?_⟩
       obtain⟨row,n1,n2⟩:=qnc hsz2 hn' hz
       have n3:e.rows[off+n / sz]?=some row:=by
        rw[List.getElem?_take] at n1
        split at n1
        ·rwa [List.getElem?_drop] at n1
        ·simp at n1
       obtain⟨kv,k1,k2⟩:=m6 (off+n / sz) (n % sz) row c (by rw[h2];exact n3) n2
       refine⟨_,?_,k2⟩
       rw[cell_of_block m1,← k1,hos,hsz]
       congr 1
       have:=Nat.div_add_mod n sz
       rw[Nat.mul_comm] at this
       rw[Nat.add_mul]
       omega
      ·have hz:sz=0:=by omega
       have hfl:=qbf hsz2
       rw[hz,Nat.mul_zero] at hfl
       refine .inr ⟨ow.blk,ow.base+off*sz,by rw[had,hsz],fun n c hn'=>?_⟩
       rw[List.length_eq_zero_iff.1 hfl] at hn'
       simp at hn'
    ·simp at hr
   ·simp at hr
  ·simp at hr
 ·simp at hr
end
end Go.Ev
