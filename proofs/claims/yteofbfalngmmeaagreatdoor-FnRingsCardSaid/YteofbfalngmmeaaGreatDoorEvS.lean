/- Calls are sound if the functions called are. No program occurs here; conditions: what the theorems name. -/
import Derived.Test.YteofbfalngmmeaaGreatDoorEvR
set_option linter.unusedVariables false
set_option linter.unusedSimpArgs false
namespace Go.Ev
open Go
structure Frz (H H':List Entry):Prop where
 len:H'.length=H.length
 ent:∀ (id:Nat) (e:Entry),H[id]?=some e→∃ e':Entry,H'[id]?=some e'∧e'.sz=e.sz∧e'.rows=e.rows∧e'.ep=e.ep∧(e.fr=true→e'.fr=true)
theorem Frz.refl (H:List Entry):Frz H H:=⟨rfl,fun _ e h=>⟨e,h,rfl,rfl,rfl,fun h=>h⟩⟩
theorem Frz.trans {a b c:List Entry}(h:Frz a b)(k:Frz b c):Frz a c:=by
 refine⟨k.len.trans h.len,fun id e he=>?_⟩
 obtain⟨e1,h1,h2,h3,h4,h5⟩:=h.ent id e he
 obtain⟨e2,k1,k2,k3,k4,k5⟩:=k.ent id e1 h1
 exact⟨e2,k1,k2.trans h2,k3.trans h3,k4.trans h4,fun x=>k5 (h5 x)⟩
theorem Frz.set {H:List Entry}{id:Nat}{e:Entry}(h:H[id]?=some e):Frz H (H.set id ⟨e.sz,e.rows,e.ep,true⟩):=by
 refine⟨by simp,fun i e' he=>?_⟩
 by_cases hi:id=i
 ·subst hi
  rw[h] at he
  simp only[Option.some.injEq] at he
  subst he
  exact⟨⟨e.sz,e.rows,e.ep,true⟩,by simp[(List.getElem?_eq_some_iff.1 h).1],rfl,rfl,rfl,fun _=>rfl⟩
 ·exact⟨e',by rw[List.getElem?_set_ne hi];exact he,rfl,rfl,rfl,fun h=>h⟩
theorem Frz.foldl {α:Type}{f:List Entry→α→List Entry}(hf:∀ H x,Frz H (f H x))(xs:List α):∀ H,Frz H (xs.foldl f H):=by
 induction xs with
 | nil=>exact fun H=>.refl H
 | cons x xs ih=>exact fun H=>(hf H x).trans (ih _)
theorem qjcb (n:Nat):∀ (H:List Entry) (c:Cell),Frz H (qep n H c):=by
 induction n with
 | zero=>exact fun H c=>.refl H
 | succ n ih=>
  intro H c
  simp only[qep]
  split
  ·split
   ·rename_i e he
    exact(Frz.set he).trans (Frz.foldl (fun H row=>Frz.foldl (fun H c=>ih H c) row H) _ _)
   ·exact .refl H
  ·exact .refl H
theorem qctb (args:List AV)(H:List Entry):Frz H (args.foldl qdf H):=
 Frz.foldl (fun H x=>Frz.foldl (fun H c=>qjcb _ H c) _ H) _ _
theorem Frz.nil {H':List Entry}(h:Frz [] H'):H'=[]:=List.length_eq_zero_iff.1 h.len
theorem Frz.hle {H H':List Entry}(h:Frz H H'):HLe H H':=fun id e he=>h.ent id e he
section
variable {P:Program} {Γ:Ctx} {g g0:Gh} {β:Nat→Option Nat} {w w0 w':World} {a:Act} {s s':Fr} {B N:Nat} {H Hb Hb':List Entry} {Xf:Nat→List Cell}
def Gh.frz (g:Gh)(H:List Entry):Gh:=⟨g.own,fun b j=>g.prot b j∨∃ id o e,g.own id=some o∧H[id]?=some e∧e.fr=true∧b=o.blk∧o.base≤j∧j < o.base+e.rows.length*o.sz⟩
theorem Mem.frz (hm:Mem g β B Xf Hb w)(hz:Frz Hb Hb'):Mem (g.frz Hb') β B Xf Hb' w∧Go1 g (g.frz Hb') w w:=by
 have hle:g.Le (g.frz Hb'):=⟨fun _ _ h=>.inl h,fun id o h=>⟨o,h,Nat.le_refl _,fun _=>rfl⟩⟩
 have hk:Go1 g (g.frz Hb') w w:=⟨hle,.refl g w,Nat.le_refl _,fun _ _ _ _=>rfl,fun id o h=>.inl ⟨id,o,h,rfl⟩,fun b j h=>by
  rcases h with h | ⟨id,o,e,h1,_,_,h2,_⟩
  ·exact .inl h
  ·exact .inr (.inr ⟨id,o,h1,h2⟩),rfl,rfl,rfl⟩
 refine⟨hm.boxes hk ⟨fun id o ho=>?_,hm.heap.inj,fun b j h=>?_,hm.heap.bldKeep (fun id o h1 _=>⟨h1,fun e he=>by obtain⟨e',k1,_,k3,_,_⟩:=hz.ent id e he;exact⟨e',k1,k3⟩,fun _ h _=>h⟩) fun _ _ _ _=>rfl⟩,hk⟩
 ·obtain⟨e,h1,h2⟩:=hm.heap.ent id o ho
  obtain⟨e',k1,k2,k3,k4,k5⟩:=hz.ent id e h1
  refine⟨e',k1,h2.lo,k2.trans h2.sz,k4.trans h2.ep,h2.lt,fun hkd=>?_,fun h=>by rw[k3];exact h2.mp h,fun j hj=>?_⟩
  ·obtain⟨c,t,fz,m1,m2,m3,m4,m5,m6⟩:=h2.mem hkd
   refine⟨c,t,fz,m1,by rw[k3];exact m2,m3,by rw[k3];exact m4,m5,fun i j row cl a b=>?_⟩
   rw[k3] at a
   obtain⟨v,n1,n2⟩:=m6 i j row cl a b
   exact⟨v,n1,n2.mono hle (.refl g w)⟩
  ·rcases hj with hj | ⟨id',o',e'',a1,a2,a3,a4,a5,a6⟩
   ·obtain⟨b1,b2⟩:=h2.pr j hj
    exact⟨k5 b1,by rw[k3];exact b2⟩
   ·have:id'=id:=hm.heap.inj id' id o' o a1 ho a4.symm
    subst this
    have ho:g.own id'=some o:=ho
    rw[ho] at a1
    simp only[Option.some.injEq] at a1
    subst a1
    rw[k1] at a2
    simp only[Option.some.injEq] at a2
    subst a2
    exact⟨a3,a6⟩
 ·rcases h with h | ⟨id,o,e,h1,_,_,h2,_⟩
  ·exact hm.heap.plt b j h
  ·obtain⟨e',k1,k2⟩:=hm.heap.ent id o h1
   rw[h2];exact k2.lt
def lend (p:Nat→Nat→Prop):Gh:=⟨fun _=>none,p⟩
theorem qomb {p:Nat→Nat→Prop}(h:∀ b j,p b j→b < w.heap.size):HR (lend p) B [] w:=⟨by simp[lend],by simp[lend],h,by simp[lend]⟩
theorem qhb {p:Nat→Nat→Prop}{g1:Gh}(h:Go1 (lend p) g1 w w'){k:Nat}(hk:k < w.heap.size):w'.heap[k]?=w.heap[k]?:=
 h.frame k hk (fun h=>h) (by simp[lend])
theorem Mem.after_lend (hm:Mem g β B Xf Hb w){p:Nat→Nat→Prop}{g1:Gh}(h:Go1 (lend p) g1 w w'){q:Nat→Nat→Prop}(hq:∀ b j,q b j→w.heap.size≤b∧b < w'.heap.size):
  let g2:Gh:=⟨g.own,fun b j=>g.prot b j∨q b j⟩
  Mem g2 β B Xf Hb w'∧Go1 g g2 w w':=by
 intro g2
 have hle:g.Le g2:=⟨fun _ _ h=>.inl h,fun id o h=>⟨o,h,Nat.le_refl _,fun _=>rfl⟩⟩
 have hkeep:Keep g w w':=fun b o hb=>cell_of_heap (qhb h (hm.heap.plt b o hb)) o
 have hk:Go1 g g2 w w':=⟨hle,hkeep,h.size,fun k hk _ _=>qhb h hk,fun id o h=>.inl ⟨id,o,h,rfl⟩,fun b j hb=>by
  rcases hb with hb | hb
  ·exact .inl hb
  ·exact .inr (.inl (hq b j hb).1),h.os,h.tape,h.output⟩
 refine⟨hm.boxes hk ⟨fun id o ho=>?_,hm.heap.inj,fun b j hb=>?_,hm.heap.bldSame rfl fun id o ho=>by obtain⟨e,_,h2⟩:=hm.heap.ent id o ho;exact qhb h h2.lt⟩,hk⟩
 ·obtain⟨e,h1,h2⟩:=hm.heap.ent id o ho
  refine⟨e,h1,h2.keep hle hkeep (qhb h h2.lt) fun j hj=>?_⟩
  rcases hj with hj | hj
  ·exact hj
  ·have:=(hq _ _ hj).1
   have:=h2.lt
   omega
 ·rcases hb with hb | hb
  ·exact Nat.lt_of_lt_of_le (hm.heap.plt b j hb) h.size
  ·exact(hq b j hb).2
theorem AL.scalar {g':Gh}{xs:List AV}{vs:List Value}(h:AL g w xs vs)(hs:∀ y∈xs,∀ c∈y.cells,∃ v,c=.sc v):AL g' w' xs vs:=by
 have cell:∀ {c:Cell} {v:Value},R g w c v→(∃ v,c=.sc v)→R g' w' c v:=by
  intro c v h ⟨u,hu⟩
  subst hu
  cases h with
  | sc _ h=>exact .sc _ h
 induction h with
 | nil=>exact All2.nil
 | cons a _ ih=>
  rename_i x v xs vs ht
  refine All2.cons ?_ (ih fun y hy=>hs y (by simp[hy]))
  have h0:=hs x (by simp)
  cases a with
  | one c v h=>exact .one _ _ (cell h (h0 c (by simp[AV.cells])))
  | agg cs us h=>
   refine .agg _ _ ?_
   simp only[AV.cells] at h0
   clear ih ht hs
   induction h with
   | nil=>exact All2.nil
   | cons a _ ih=>exact All2.cons (cell a (h0 _ (by simp))) (ih fun c hc=>h0 c (by simp[hc]))
theorem HR.all (hh:HR g B Hb w):∀ id o e,g.own id=some o→Hb[id]?=some e→(false=true→e.fr=true)→∀ j,o.base≤j→j < o.base+e.rows.length*o.sz→o.blk < w.heap.size:=by
 intro id o e ho _ _ j _ _
 obtain⟨e',_,h⟩:=hh.ent id o ho
 exact h.lt
theorem qpkb {Ok:Nat→World→Prop}{f:FuncId}{ev:List AV→List Entry→Option Res}(hev:FnOk P Ok f ev){args xs:List AV}{vs:List Value}(h:qbc ev args H=some xs)
  (hs:∀ y∈xs,∀ c∈y.cells,∃ v,c=.sc v) (hOk:Ok B w) (hm:Mem g β B Xf Hb w) (hl:HLe H Hb) (hal:AL g w args vs):
  Calls P f vs.toArray w fun e w'=>∃ v',e=.returned v'∧Post g β B Xf H H Hb w none (qgj xs) v' w':=by
 unfold qbc at h
 split at h
 ·rename_i as has
  split at h
  ·rename_i r hr
   simp only[Option.some.injEq] at h
   subst h
   have hal2:AL (lend fun b _=>b < w.heap.size) w as vs:=qjj hm.heap hl hm.heap.plt hm.heap.all _ hal has
   refine Calls.mono (hev as [] r hr _ B w vs hOk (qomb fun _ _ h=>h) hm.size hal2) fun e w' ⟨v,e1,g1,k1,k2,k3⟩=>⟨v,e1,?_⟩
   obtain⟨m1,m2⟩:=hm.after_lend k1 (q:=fun _ _=>False) (by simp)
   obtain⟨us,n1,n2⟩:=qth k3
   exact .mk (n2 _ _ _ _ (n1.scalar hs)) m1 (.weaken m2) (fun _ _ h=>h) (fun _ _ h=>.inl h) fun _ _ _=>.inr (.inr trivial)
  ·simp at h
 ·simp at h
theorem qftc {Ok:Nat→World→Prop}{f:FuncId}{ev:List AV→List Entry→Option Res}(hev:FnOk P Ok f ev){args xs:List AV}{H':List Entry}{vs:List Value}(h:callL ev args H=some (xs,H'))
  (hOk:Ok B w) (hm:Mem g β B Xf Hb w) (hH:(Hb=H∧Hb'=H')∨(H=[]∧Hb'=Hb)) (hal:AL g w args vs):
  Calls P f vs.toArray w fun e w'=>∃ v',e=.returned v'∧Post g β B Xf H H' Hb' w none (qgj xs) v' w':=by
 unfold callL at h
 have hz:=qctb args H
 generalize args.foldl qdf H=H1 at h hz
 have hzb:Frz Hb Hb'∧HLe H1 Hb':=by
  simp only at h
  split at h
  ·split at h
   ·split at h
    ·simp only[Option.some.injEq,Prod.mk.injEq] at h
     rcases hH with⟨h1,h2⟩ | ⟨h1,h2⟩
     ·rw[h1,h2,← h.2];exact⟨hz,.refl _⟩
     ·subst h1
      rw[h2,hz.nil]
      exact⟨.refl _,fun id e he=>by simp at he⟩
    ·simp at h
   ·simp at h
  ·simp at h
 obtain⟨hm1,go1⟩:=hm.frz hzb.1
 have hal1:=hal.mono go1.le go1.keep
 simp only at h
 split at h
 ·rename_i as has
  split at h
  ·rename_i r hr
   split at h
   ·rename_i ys hys
    simp only[Option.some.injEq,Prod.mk.injEq] at h
    obtain⟨rfl,rfl⟩:=h
    have hal2:AL (lend (g.frz Hb').prot) w as vs:=qjj hm1.heap hzb.2 (fun _ _ h=>h) (fun id o e ho he hfr j h1 h2=>.inr ⟨id,o,e,ho,he,hfr rfl,rfl,h1,h2⟩) _ hal1 has
    refine Calls.mono (hev as [] r hr _ B w vs hOk (qomb hm1.heap.plt) hm.size hal2) fun e w' ⟨v,e1,g1,k1,k2,k3⟩=>⟨v,e1,?_⟩
    obtain⟨m1,m2⟩:=hm1.after_lend k1 (q:=fun b _=>w.heap.size≤b∧b < w'.heap.size) (fun _ _ h=>h)
    obtain⟨us,n1,n2⟩:=qth k3
    have hres:=qjj (p:=fun b j=>(g.frz Hb').prot b j∨(w.heap.size≤b∧b < w'.heap.size)) k2 (.refl _) (fun b j hb=>by
     rcases k1.prot b j hb with h | h | ⟨id,o0,h,_⟩
     ·exact .inl h
     ·exact .inr ⟨h,k2.plt b j hb⟩
     ·simp[lend] at h) (fun id o e ho he _ j _ _=>by
     obtain⟨e',_,h'⟩:=k2.ent id o ho
     rcases k1.blk id o ho with⟨_,o0,h,_⟩ | h
     ·simp[lend] at h
     ·exact .inr ⟨h,h'.lt⟩) (g.frz Hb').own n1 hys
    exact .mk (n2 _ _ _ _ hres) m1 (.weaken (go1.trans m2)) (fun _ _ h=>h) (fun _ _ h=>.inl h) fun _ _ _=>.inr (.inr trivial)
   ·simp at h
  ·simp at h
 ·simp at h
def Gh.join (g g1:Gh)(L n:Nat):Gh:=⟨fun id=>if id < L then g.own id else g1.own (id - L),fun b j=>g.prot b j∨(n≤b∧g1.prot b j)⟩
theorem qnsb {g1:Gh}{L n:Nat}{c:Cell}{v:Value}(h:R g1 w' c v)(hc:noMem c=true):R (g.join g1 L n) w' (qhr L 1 c) v:=by
 cases h with
 | sc v h=>exact .sc v h
 | nil full sz a cap h=>exact .nil full sz a cap h
 | lst full sz rows b o cap val hne=>simp[noMem] at hc;exact absurd hc hne
 | vs id sz off len ep a cap o ho hle hn hlc h hk=>
  refine .vs (id+L) sz off len ep a cap o ?_ hle hn hlc h hk
  show(if id+L < L then g.own (id+L) else g1.own (id+L - L))=some o
  rw[if_neg (by omega),Nat.add_sub_cancel]
  exact ho
 | ptr id sz idx off ep a o ho hle h=>simp[noMem] at hc
 | ref row off b o val hp hcell hr=>simp[noMem] at hc
 | fn f first caps fv cv hf hcc=>simp[noMem] at hc
 | mp=>simp[noMem] at hc
 | bl=>simp[noMem] at hc
theorem qobc {g1:Gh}{L n:Nat}{cs:List Cell}{vs:List Value}(h:RL g1 w' cs vs)(hc:cs.all noMem=true):RL (g.join g1 L n) w' (cs.map (qhr L 1)) vs:=by
 induction h with
 | nil=>exact All2.nil
 | cons a _ ih=>
  simp only[List.all_cons,Bool.and_eq_true] at hc
  exact All2.cons (qnsb a hc.1) (ih hc.2)
def qrz (L:Nat)(x:AV):AV:=match x with
 | .one c=>.one (qhr L 1 c)
 | .agg cs=>.agg (cs.map (qhr L 1))
theorem qplc {g1:Gh}{L n:Nat}{xs:List AV}{vs:List Value}(h:AL g1 w' xs vs)(hc:(xs.all fun x=>x.cells.all noMem)=true):AL (g.join g1 L n) w' (xs.map (qrz L)) vs:=by
 induction h with
 | nil=>exact All2.nil
 | cons a _ ih=>
  simp only[List.all_cons,Bool.and_eq_true] at hc
  refine All2.cons ?_ (ih hc.2)
  cases a with
  | one c v h=>exact .one _ _ (qnsb h (by simpa[AV.cells] using hc.1))
  | agg cs vs h=>exact .agg _ _ (qobc h hc.1)
theorem qiac {ev:List AV→List Entry→Option Res}{args xs:List AV}{H':List Entry}(h:qfd ev args H=some (xs,H')):
  ∃ as r,mapO (qal false H) args=some as∧ev as []=some r∧qsec r=true∧xs=r.1.map (qrz H.length)∧H'=H++(clean (qhs r) r.2).map (qim H.length):=by
 unfold qfd at h
 split at h
 ·rename_i as has
  split at h
  ·rename_i r hr
   split at h
   ·rename_i hc
    simp only[Option.some.injEq,Prod.mk.injEq] at h
    exact⟨as,r,has,hr,hc,h.1.symm,h.2.symm⟩
   ·simp at h
  ·simp at h
 ·simp at h
def okS (S:List Nat):Cell→Bool | .sc _=>true | .lst _ _ rows=>rows.isEmpty | .vs id _ _ _ _=>S.contains id | _=>false
theorem qso {S T:List Nat}{c:Cell}(h:okS S c=true)(k:∀ j∈S,j∈T):okS T c=true:=by
 cases c<;>first | exact h | skip
 simp only[okS,List.contains_iff_mem] at h ⊢
 exact k _ h
theorem qmcb {E:List Entry}:∀ (n:Nat) (c:Cell),okD E n c=true→okS (qfn E n c) c=true∧∀ j∈qfn E n c,∃ e,E[j]?=some e∧∀ row∈e.rows,∀ d∈row,okS (qfn E n c) d=true:=by
 intro n
 induction n with
 | zero=>
  intro c h
  cases c<;>first | (simp[okD] at h;done) | exact⟨h,by simp[qfn]⟩
 | succ n ih=>
  intro c h
  cases c with
  | vs id sz off len ep=>
   simp only[okD] at h
   split at h
   ·rename_i e he
    have hsub:∀ row∈e.rows,∀ d∈row,∀ j∈qfn E n d,j∈qfn E (n+1) (.vs id sz off len ep):=by
     intro row hr d hd j hj
     simp only[qfn,he,List.mem_cons,List.mem_flatMap]
     exact .inr ⟨row,hr,d,hd,hj⟩
    have hd':∀ row∈e.rows,∀ d∈row,okD E n d=true:=fun row hr d hd=>List.all_eq_true.1 (List.all_eq_true.1 h row hr) d hd
    refine⟨by simp[okS,qfn],fun j hj=>?_⟩
    have hj':=hj
    simp only[qfn,he,List.mem_cons,List.mem_flatMap] at hj'
    rcases hj' with rfl | ⟨row,hr,d,hd,hj'⟩
    ·exact⟨e,he,fun row hr d hd=>qso (ih d (hd' row hr d hd)).1 (hsub row hr d hd)⟩
    ·obtain⟨e',h1,h2⟩:=(ih d (hd' row hr d hd)).2 j hj'
     exact⟨e',h1,fun row' hr' d' hd'=>qso (h2 row' hr' d' hd') (hsub row hr d hd)⟩
   ·simp at h
  | sc v=>exact⟨rfl,by simp[qfn]⟩
  | lst f sz rows=>exact⟨h,by simp[qfn]⟩
  | ptr id sz idx off ep=>simp[okD] at h
  | ref row off=>simp[okD] at h
  | fn f first caps=>simp[okD] at h
  | mp=>simp[okD] at h
  | bl=>simp[okD] at h
def okL (S:List Nat)(E:List Entry):Prop:=∀ j∈S,∃ e,E[j]?=some e∧∀ row∈e.rows,∀ d∈row,okS S d=true
theorem qglb {r:Res}(h:qsec r=true):((r.1.all fun x=>x.cells.all (okS (qhs r)))=true)∧okL (qhs r) r.2:=by
 simp only[qsec,List.all_eq_true] at h
 have hsub:∀ x∈r.1,∀ c∈x.cells,∀ j∈qfn r.2 4194306 c,j∈qhs r:=fun x hx c hc j hj=>List.mem_flatMap.2 ⟨x,hx,List.mem_flatMap.2 ⟨c,hc,hj⟩⟩
 constructor
 ·simp only[List.all_eq_true]
  exact fun x hx c hc=>qso (qmcb 4194306 c (h x hx c hc)).1 (hsub x hx c hc)
 ·intro j hj
  obtain⟨x,hx,hj⟩:=List.mem_flatMap.1 hj
  obtain⟨c,hc,hj⟩:=List.mem_flatMap.1 hj
  obtain⟨e,h1,h2⟩:=(qmcb 4194306 c (h x hx c hc)).2 j hj
  exact⟨e,h1,fun row hr d hd=>qso (h2 row hr d hd) (hsub x hx c hc)⟩
def Own.list (o:Own):Own:=if o.kd=0 then o else ⟨o.blk,o.base,o.sz,o.room,o.ep,3⟩
theorem Own.list_eq (o:Own):o.list.blk=o.blk∧o.list.base=o.base∧o.list.sz=o.sz∧o.list.room=o.room∧o.list.ep=o.ep∧(o.list.kd=0↔o.kd=0)∧(o.list.kd=0∨o.list.kd=3):=by
 unfold Own.list
 split<;>simp_all
def qeec (g:Gh)(S:List Nat):Gh:=⟨fun id=>if S.contains id then (g.own id).map Own.list else none,g.prot⟩
theorem qhp {g:Gh}{S:List Nat}{id:Nat}{o:Own}(h:(qeec g S).own id=some o):∃ o0,g.own id=some o0∧o=o0.list∧id∈S:=by
 have h:(if S.contains id then (g.own id).map Own.list else none)=some o:=h
 split at h
 ·rename_i hk
  obtain⟨o0,h1,h2⟩:=Option.map_eq_some_iff.1 h
  exact⟨o0,h1,h2.symm,List.contains_iff_mem.1 hk⟩
 ·simp at h
theorem qnjc {g:Gh}{S:List Nat}{c:Cell}{v:Value}(h:R g w' c v)(hc:okS S c=true):R (qeec g S) w' c v:=by
 cases h with
 | sc v h=>exact .sc v h
 | nil full sz a cap h=>exact .nil full sz a cap h
 | lst full sz rows b o cap val hne=>simp[okS] at hc;exact absurd hc hne
 | vs id sz off len ep a cap o ho hle hn hlc h hk=>
  obtain⟨e1,e2,e3,e4,e5,e6,_⟩:=o.list_eq
  refine .vs id sz off len ep a cap o.list ?_ (by rw[e5];exact hle) hn hlc (by rw[e1,e2,e3,e4,e5];exact h) (by rw[e5];exact fun x=>e6.2 (hk x))
  simp only[okS] at hc
  show(if S.contains id then (g.own id).map Own.list else none)=some o.list
  rw[if_pos hc,ho]
  rfl
 | ptr id sz idx off ep a o ho hle h=>simp[okS] at hc
 | ref row off b o val hp hcell hr=>simp[okS] at hc
 | fn f first caps fv cv hf hcc=>simp[okS] at hc
 | mp=>simp[okS] at hc
 | bl=>simp[okS] at hc
theorem qtjc {g:Gh}{S:List Nat}{cs:List Cell}{vs:List Value}(h:RL g w' cs vs)(hc:cs.all (okS S)=true):RL (qeec g S) w' cs vs:=by
 induction h with
 | nil=>exact All2.nil
 | cons a _ ih=>
  simp only[List.all_cons,Bool.and_eq_true] at hc
  exact All2.cons (qnjc a hc.1) (ih hc.2)
theorem qvxc {g:Gh}{S:List Nat}{xs:List AV}{vs:List Value}(h:AL g w' xs vs)(hc:(xs.all fun x=>x.cells.all (okS S))=true):AL (qeec g S) w' xs vs:=by
 induction h with
 | nil=>exact All2.nil
 | cons a _ ih=>
  simp only[List.all_cons,Bool.and_eq_true] at hc
  refine All2.cons ?_ (ih hc.2)
  cases a with
  | one c v h=>exact .one _ _ (qnjc h (by simpa[AV.cells] using hc.1))
  | agg cs vs h=>exact .agg _ _ (qtjc h hc.1)
theorem qfgb {S:List Nat}{c:Cell}(h:okS S c=true):noMem c=true:=by
 cases c<;>first | rfl | exact h | simp[okS] at h
theorem qxg {S:List Nat}{E:List Entry}{id:Nat}{e:Entry}(h:E[id]?=some e)(hk:id∈S):(clean S E)[id]?=some e:=by
 simp[clean,h,hk]
theorem qlgb {S:List Nat}{E:List Entry}(h:okL S E):((clean S E).all fun e=>e.rows.all fun row=>row.all noMem)=true:=by
 simp only[List.all_eq_true]
 intro e he row hr c hc
 obtain⟨i,hi⟩:=List.mem_iff_getElem?.1 he
 simp only[clean,List.getElem?_mapIdx,Option.map_eq_some_iff] at hi
 obtain⟨e0,h1,h2⟩:=hi
 cases hS:S.contains i with
 | false=>rw[hS] at h2;subst h2;simp at hr
 | true=>
  rw[hS] at h2
  obtain rfl:e0=e:=h2
  obtain⟨e1,h3,h4⟩:=h i (List.contains_iff_mem.1 hS)
  rw[h1] at h3
  simp only[Option.some.injEq] at h3
  subst h3
  exact qfgb (h4 row hr c hc)
theorem qvrc {g:Gh}{S:List Nat}{E:List Entry}(h:HR g B E w')(hc:okL S E):HR (qeec g S) B (clean S E) w':=by
 refine⟨fun id o ho=>?_,fun i j o o' hi hj hb=>?_,h.plt,fun id o ho hk=>?_⟩
 ·obtain⟨o0,h1,rfl,hS⟩:=qhp ho
  obtain⟨e1,e2,e3,e4,e5,e6,e7⟩:=o0.list_eq
  obtain⟨e,he,hcl⟩:=hc id hS
  obtain⟨e',h2,h3⟩:=h.ent id o0 h1
  rw[he] at h2
  simp only[Option.some.injEq] at h2
  subst h2
  refine⟨e,qxg he hS,by rw[e1];exact h3.lo,by rw[e3];exact h3.sz,by rw[e5];exact h3.ep,by rw[e1];exact h3.lt,fun hk=>?_,fun hk=>by omega,by rw[e1,e2,e3];exact h3.pr⟩
  obtain⟨c,t,fz,m1,m2,m3,m4,m5,m6⟩:=h3.mem (e6.1 hk)
  rw[e1,e2,e3,e4]
  refine⟨c,t,fz,m1,m2,m3,m4,m5,fun i j row cl a b=>?_⟩
  obtain⟨x,p1,p2⟩:=m6 i j row cl a b
  exact⟨x,p1,qnjc p2 (hcl row (List.mem_of_getElem? a) cl (List.mem_of_getElem? b))⟩
 ·obtain⟨o0,h1,rfl,_⟩:=qhp hi
  obtain⟨o1,h2,rfl,_⟩:=qhp hj
  rw[o0.list_eq.1,o1.list_eq.1] at hb
  exact h.inj i j o0 o1 h1 h2 hb
 ·obtain⟨o0,h1,rfl,_⟩:=qhp ho
  have:=o0.list_eq.2.2.2.2.2.2
  omega
theorem qnyc {g g1:Gh}{S:List Nat}{p:Nat→Nat→Prop}(h:Go1 (lend p) g1 w w'):Go1 (lend p) (qeec g1 S) w w':=
 ⟨⟨h.le.prot,fun id o ho=>by simp[lend] at ho⟩,h.keep,h.size,h.frame,fun id o ho=>by obtain⟨o0,h1,rfl,_⟩:=qhp ho;rw[o0.list_eq.1];exact h.blk id o0 h1,h.prot,h.os,h.tape,h.output⟩
theorem qlwc {Ok:Nat→World→Prop}{f:FuncId}{ev:List AV→List Entry→Option Res}(hev:FnOk P Ok f ev){args xs:List AV}{H':List Entry}{vs:List Value}(h:qfd ev args H=some (xs,H'))
  (hOk:Ok B w) (hm:Mem g β B Xf H w) (hal:AL g w args vs):
  Calls P f vs.toArray w fun e w'=>∃ v',e=.returned v'∧Post g β B Xf H H' H' w none (qgj xs) v' w':=by
 obtain⟨as,⟨r1,r2⟩,has,hr,hc,rfl,rfl⟩:=qiac h
 have hc:=qglb hc
 have hal2:AL (lend fun b _=>b < w.heap.size) w as vs:=qjj hm.heap (.refl _) hm.heap.plt hm.heap.all _ hal has
 refine Calls.mono (hev as [] (r1,r2) hr _ B w vs hOk (qomb fun _ _ h=>h) hm.size hal2) fun e w' ⟨v,e1,g1,k1,k2,k3⟩=>⟨v,e1,?_⟩
 obtain⟨us,n1,n2⟩:=qth k3
 have n1:=qvxc (S:=qhs (r1,r2)) n1 hc.1
 have k1:=qnyc (g:=g) (S:=qhs (r1,r2)) k1
 have k2:=qvrc (S:=qhs (r1,r2)) k2 hc.2
 clear k3
 have hkd4:∀ id o,(qeec g1 (qhs (r1,r2))).own id=some o→o.kd=0∨o.kd=3:=fun id o ho=>by
  obtain⟨o0,_,rfl,_⟩:=qhp ho
  exact o0.list_eq.2.2.2.2.2.2
 generalize hgg:qeec g1 (qhs (r1,r2))=gk at n1 k1 k2 hkd4
 clear hgg
 have hc1:(r1.all fun x=>x.cells.all noMem)=true:=by
  rw[List.all_eq_true]
  intro x hx
  rw[List.all_eq_true]
  intro c hc'
  exact qfgb (List.all_eq_true.1 (List.all_eq_true.1 hc.1 x hx) c hc')
 have hc2:=qlgb hc.2
 generalize hr2:clean (qhs (r1,r2)) r2=r3 at hc2 k2
 have hnew:∀ id o,gk.own id=some o→w.heap.size≤o.blk:=by
  intro id o ho
  rcases k1.blk id o ho with⟨_,o0,h,_⟩ | h
  ·simp[lend] at h
  ·exact h
 have hold:∀ id o,g.own id=some o→id < H.length∧o.blk < w.heap.size:=by
  intro id o ho
  obtain⟨e,h1,h2⟩:=hm.heap.ent id o ho
  exact⟨(List.getElem?_eq_some_iff.1 h1).1,h2.lt⟩
 have hown:∀ id o,(g.join gk H.length w.heap.size).own id=some o→(id < H.length∧g.own id=some o)∨(H.length≤id∧gk.own (id - H.length)=some o):=by
  intro id o h
  by_cases hlt:id < H.length
  ·have h:(if id < H.length then g.own id else gk.own (id - H.length))=some o:=h
   rw[if_pos hlt] at h;exact .inl ⟨hlt,h⟩
  ·have h:(if id < H.length then g.own id else gk.own (id - H.length))=some o:=h
   rw[if_neg hlt] at h;exact .inr ⟨by omega,h⟩
 have hle:g.Le (g.join gk H.length w.heap.size):=by
  refine⟨fun _ _ h=>.inl h,fun id o h=>⟨o,?_,Nat.le_refl _,fun _=>rfl⟩⟩
  show(if id < H.length then g.own id else gk.own (id - H.length))=some o
  rw[if_pos (hold id o h).1];exact h
 have hkeep:Keep g w w':=fun b o hb=>cell_of_heap (qhb k1 (hm.heap.plt b o hb)) o
 have hk:Go1 g (g.join gk H.length w.heap.size) w w':=by
  refine⟨hle,hkeep,k1.size,fun k hk _ _=>qhb k1 hk,fun id o h=>?_,fun b j hb=>?_,k1.os,k1.tape,k1.output⟩
  ·rcases hown id o h with⟨_,h⟩ | ⟨_,h⟩
   ·exact .inl ⟨id,o,h,rfl⟩
   ·exact .inr (hnew _ _ h)
  ·rcases hb with hb | hb
   ·exact .inl hb
   ·exact .inr (.inl hb.1)
 have hm2:Mem (g.join gk H.length w.heap.size) β B Xf (H++r3.map (qim H.length)) w':=by
  refine hm.boxes hk ⟨fun id o ho=>?_,fun i j o o' hi hj hb=>?_,fun b j hb=>?_,fun id o ho hk4=>?_⟩
  ·rcases hown id o ho with⟨hlt,h⟩ | ⟨hlt,h⟩
   ·obtain⟨e,h1,h2⟩:=hm.heap.ent id o h
    refine⟨e,by rw[List.getElem?_append_left hlt];exact h1,h2.keep hle hkeep (qhb k1 h2.lt) fun j hj=>?_⟩
    rcases hj with hj | hj
    ·exact hj
    ·have:=h2.lt
     have:=hj.1
     omega
   ·obtain⟨e,h1,h2⟩:=k2.ent _ o h
    refine⟨qim H.length e,by rw[List.getElem?_append_right hlt,List.getElem?_map,h1];rfl,h2.lo,h2.sz,h2.ep,h2.lt,fun hkd=>?_,fun hkd=>by have:=hkd4 _ _ h;omega,fun j hj=>?_⟩
    ·obtain⟨c,t,fz,m1,m2,m3,m4,m5,m6⟩:=h2.mem hkd
     refine⟨c,t,fz,m1,by simpa[qim] using m2,m3,fun row hrow=>?_,m5,fun i j row cl a b=>?_⟩
     ·simp only[qim,List.mem_map] at hrow
      obtain⟨row0,hr0,rfl⟩:=hrow
      simpa using m4 row0 hr0
     ·simp only[qim,List.getElem?_map,Option.map_eq_some_iff] at a
      obtain⟨row0,hr0,rfl⟩:=a
      simp only[List.getElem?_map,Option.map_eq_some_iff] at b
      obtain⟨cl0,hc0,rfl⟩:=b
      obtain⟨x,p1,p2⟩:=m6 i j row0 cl0 hr0 hc0
      refine⟨x,p1,qnsb p2 ?_⟩
      have q1:=List.all_eq_true.1 hc2 e (List.mem_of_getElem? h1)
      have q2:=List.all_eq_true.1 q1 row0 (List.mem_of_getElem? hr0)
      exact List.all_eq_true.1 q2 cl0 (List.mem_of_getElem? hc0)
    ·rcases hj with hj | hj
     ·have:=hm.heap.plt _ _ hj
      have:=hnew _ _ h
      omega
     ·obtain⟨q1,q2⟩:=h2.pr j hj.2
      exact⟨q1,by simpa[qim] using q2⟩
  ·rcases hown i o hi with⟨l1,h1⟩ | ⟨l1,h1⟩<;>rcases hown j o' hj with⟨l2,h2⟩ | ⟨l2,h2⟩
   ·exact hm.heap.inj i j o o' h1 h2 hb
   ·have:=(hold _ _ h1).2
    have:=hnew _ _ h2
    omega
   ·have:=(hold _ _ h2).2
    have:=hnew _ _ h1
    omega
   ·have:=k2.inj _ _ o o' h1 h2 hb
    omega
  ·rcases hb with hb | hb
   ·exact Nat.lt_of_lt_of_le (hm.heap.plt b j hb) k1.size
   ·exact k2.plt b j hb.2
  ·rcases hown id o ho with⟨hlt,h⟩ | ⟨hlt,h⟩
   ·have hh:∀ i o1,g.own i=some o1→w'.heap[o1.blk]?=w.heap[o1.blk]?:=fun i o1 h1=>qhb k1 (hold i o1 h1).2
    refine(hm.heap.bld id o h hk4).keep (fun e he=>⟨e,by rw[List.getElem?_append_left hlt];exact he,rfl⟩) (fun o2 h1 _=>?_) (hh id o h) fun o2 h1 _=>hh _ o2 h1
    show(if id+1 < H.length then g.own (id+1) else gk.own (id+1 - H.length))=some o2
    rw[if_pos (hold _ _ h1).1]
    exact h1
   ·have:=hkd4 _ _ h
    omega
 exact .mk (n2 _ _ _ _ (qplc n1 hc1)) hm2 (.weaken hk) (fun _ _ h=>h) (fun _ _ h=>.inl h) fun _ _ _=>.inr (.inr trivial)
theorem qknc {Ok:Nat→World→Prop}{f:FuncId}{ev:List AV→List Entry→Option Res}(hev:FnOk P Ok f ev){args:List AV}{r:Res}{vs:List Value}(h:ev args H=some r)
  (hOk:Ok B w) (hm:Mem g β B Xf H w) (hal:AL g w args vs):
  Calls P f vs.toArray w fun e w'=>∃ v',e=.returned v'∧Post g β B Xf H r.2 r.2 w none (qgj r.1) v' w':=by
 refine Calls.mono (hev args H r h g B w vs hOk hm.heap hm.size hal) fun e w' ⟨v,e1,g1,k1,k2,k3⟩=>⟨v,e1,?_⟩
 exact .mk (k3.mono (.refl _) (fun _ _ h=>by simp at h) (.refl _ _)) (hm.boxes k1 k2) (.weaken k1) (fun _ _ h=>h) (fun _ _ h=>.inl h) fun _ _ _=>.inr (.inr trivial)
theorem qjrc {Ok:Nat→World→Prop}(ev:FuncId→List AV→List Entry→Option Res)(hev:∀ f,FnOk P Ok f (ev f)):qlx P Γ ev Ok:=by
 intro f args H H' v h g β w B Xf Hb Hb' vs hOk hm hal hH
 unfold callK at h
 split at h
 ·rename_i fi hfi
  split at h
  ·rename_i hmode
   rcases hH with⟨h1,h2⟩ | ⟨⟨q,h1,h2⟩,_⟩
   ·subst h1;subst h2
    obtain⟨r,hr,h⟩:=Option.bind_eq_some_iff.1 h
    rw[qdg] at h
    obtain⟨ys,hy,h⟩:=Option.bind_eq_some_iff.1 h
    simp only[Option.some.injEq,Prod.mk.injEq] at h
    obtain⟨rfl,rfl⟩:=h
    obtain⟨rfl,_⟩:=qhob hy
    exact qknc (hev f) hr hOk hm hal
   ·rw[hfi] at h1
    simp only[Option.some.injEq] at h1
    subst h1
    rw[hmode] at h2
    simp at h2
  ·split at h
   ·rename_i hsc
    obtain⟨r,hr,h⟩:=Option.bind_eq_some_iff.1 h
    rw[qdg] at h
    obtain⟨ys,hy,h⟩:=Option.bind_eq_some_iff.1 h
    simp only[Option.some.injEq,Prod.mk.injEq] at h
    obtain⟨rfl,rfl⟩:=h
    obtain⟨rfl,hs⟩:=qhob hy
    rcases hH with⟨h1,h2⟩ | ⟨_,h1,_,h2⟩
    ·subst h1;subst h2
     exact qpkb (hev f) hr (hs hsc) hOk hm (.refl _) hal
    ·subst h1
     rw[h2]
     exact qpkb (hev f) hr (hs hsc) hOk hm (fun id e he=>by simp at he) hal
   ·obtain⟨r,hr,h⟩:=Option.bind_eq_some_iff.1 h
    rw[qdg] at h
    obtain⟨ys,hy,h⟩:=Option.bind_eq_some_iff.1 h
    simp only[Option.some.injEq,Prod.mk.injEq] at h
    obtain⟨rfl,rfl⟩:=h
    obtain⟨rfl,hs⟩:=qhob hy
    refine qftc (hev f) hr hOk hm ?_ hal
    rcases hH with h | ⟨_,h1,_,h2⟩
    ·exact .inl h
    ·exact .inr ⟨h1,h2⟩
  ·rename_i hmode
   rcases hH with⟨h1,h2⟩ | ⟨⟨q,h1,h2⟩,_⟩
   ·subst h1;subst h2
    obtain⟨r,hr,h⟩:=Option.bind_eq_some_iff.1 h
    rw[qdg] at h
    obtain⟨ys,hy,h⟩:=Option.bind_eq_some_iff.1 h
    simp only[Option.some.injEq,Prod.mk.injEq] at h
    obtain⟨rfl,rfl⟩:=h
    obtain⟨rfl,_⟩:=qhob hy
    exact qlwc (hev f) hr hOk hm hal
   ·rw[hfi] at h1
    simp only[Option.some.injEq] at h1
    subst h1
    rw[hmode] at h2
    simp at h2
 ·simp at h
theorem ev_ok {Ok:Nat→World→Prop}(hmix:P.follows .mixedOrders=true)(hΓ:CtxOk P Γ)(hF:FiOk P Γ)(hS:Stable Ok)(hprim:∀ f p,Γ.prim f=some p→FnOk P Ok f p)(k:Nat)(f:FuncId):FnOk P Ok f (evF Γ k f):=
 evF_ok hmix hΓ hF hS hprim (fun ev h=>qjrc ev h) k f
end
end Go.Ev
