/- Regions whose operations may run in many orders. No program occurs here; conditions: what the theorems name. -/
import Derived.Test.YteofbfalngmmeaaGreatDoorEvO
namespace Go.Ev
open Go
theorem qojb {γ:Type}{val:Nat→γ}{wr:Nat→Prop}{n:Nat}(hst:∀ i,i < n→¬ wr i→val (i+1)=val i){m k:Nat}(hm:m≤n)(hk:k≤n)(h:∀ i,i < n→wr i→(i < m↔i < k)):val m=val k:=by
 have up:∀ d m,m+d≤n→(∀ i,m≤i→i < m+d→¬ wr i)→val m=val (m+d):=by
  intro d
  induction d with
  | zero=>intro m _ _;rfl
  | succ d ih=>
   intro m hn hw
   rw[ih m (by omega) (fun i h1 h2=>hw i h1 (by omega)),← Nat.add_assoc,hst (m+d) (by omega) (hw _ (by omega) (by omega))]
 rcases Nat.le_total m k with hle | hle
 ·obtain⟨d,rfl⟩:=Nat.exists_eq_add_of_le hle
  exact up d m hk fun i h1 h2 hw=>by have:=(h i (by omega) hw).2 h2;omega
 ·obtain⟨d,rfl⟩:=Nat.exists_eq_add_of_le hle
  exact(up d k hm fun i h1 h2 hw=>by have:=(h i (by omega) hw).1 h2;omega).symm
section
variable {P:Program} {Γ:Ctx} {g g0:Gh} {β:Nat→Option Nat} {w w0:World} {a:Act} {s s':Fr} {o:Oper} {B N:Nat} {H:List Entry} {α:Type}
theorem trace {fi:FI}{ev:FuncId→List AV→List Entry→Option Res}{all:List Oper}{κ:Fr→Option α}{r:α}(l:List Oper):∀ (fl:List Bool) (s:Fr),qss Γ fi ev all fl l s κ=some r→
  ∃ st:Nat→Fr,st 0=s∧(∀ (i:Nat) o,l[i]?=some o→Way Γ fi ev all (fl.getD i false) o (st i) (fun _=>True) (st (i+1)))∧κ (st l.length)=some r:=by
 induction l with
 | nil=>intro fl s h;exact⟨fun _=>s,rfl,by simp,by simpa[qss] using h⟩
 | cons o l ih=>
  intro fl s h
  obtain⟨s1,hw,h⟩:=qzt h
  obtain⟨st,h1,h2,h3⟩:=ih _ _ h
  refine⟨fun k=>match k with | 0=>s | k+1=>st k,rfl,fun i o' hi=>?_,h3⟩
  cases i with
  | zero=>
   simp only[List.getElem?_cons_zero,Option.some.injEq] at hi
   subst hi
   rw[← h1] at hw
   cases fl<;>exact hw
  | succ i=>
   have:=h2 i o' (by simpa using hi)
   cases fl with
   | nil=>simpa using this
   | cons b fl=>simpa using this
theorem qhjb {x:Option Tmp}{t:Nat}:2*t∈optN 0 x↔x=some t:=by
 cases x with
 | none=>simp[optN]
 | some y=>
  simp only[optN,List.mem_singleton,Option.some.injEq]
  refine⟨fun h=>?_,fun h=>by subst h;rfl⟩
  have h:(2*t+0:Nat)=2*(y:Nat)+0:=h
  exact(Nat.eq_of_mul_eq_mul_left (by decide:0 < 2) (Nat.add_right_cancel h)).symm
theorem qgyb {x:Option Tmp}{t:Nat}:2*t+1∈optN 1 x↔x=some t:=by
 cases x with
 | none=>simp[optN]
 | some y=>
  simp only[optN,List.mem_singleton,Option.some.injEq]
  refine⟨fun h=>?_,fun h=>by subst h;rfl⟩
  have h:(2*t+1:Nat)=2*(y:Nat)+1:=h
  exact(Nat.eq_of_mul_eq_mul_left (by decide:0 < 2) (Nat.add_right_cancel h)).symm
theorem qtkb {x:Option Tmp}{t:Nat}:2*t+1∉optN 0 x:=by
 intro h
 cases x with
 | none=>simp[optN] at h
 | some y=>
  simp only[optN,List.mem_singleton] at h
  have h:(2*t+1:Nat)=2*(y:Nat)+0:=h
  omega
theorem qopb {x:Option Tmp}{t:Nat}:2*t∉optN 1 x:=by
 intro h
 cases x with
 | none=>simp[optN] at h
 | some y=>
  simp only[optN,List.mem_singleton] at h
  have h:(2*t+0:Nat)=2*(y:Nat)+1:=h
  omega
theorem qfy {fi:FI}{all:List Oper}{t:Nat}:2*t∈qcl fi all o↔o.dst=some t:=by
 simp only[qcl,List.mem_append,qhjb,qopb,or_false]
theorem qel {fi:FI}{all:List Oper}{b:Nat}:2*b+1∈qcl fi all o↔touch fi all o=some b:=by
 simp only[qcl,List.mem_append,qgyb,qtkb,false_or]
theorem qyw {all:List Oper}{t:Nat}(h:Operand.tmp t∈o.op.operands.toList):2*t∈readsOf all o:=by
 simp only[readsOf,List.mem_append]
 refine .inl (.inl ?_)
 simp only[tmpsOf,List.mem_filterMap]
 exact⟨_,h,rfl⟩
theorem qfc {all:List Oper}{t gi:Nat}{want:Bool}(h:o.guard=some (gi,want))(hg:gslot all gi=some t):2*t∈readsOf all o:=by
 simp only[readsOf,List.mem_append,h,hg]
 exact .inl (.inr (qhjb.2 rfl))
theorem qvf {all:List Oper}{b:Nat}(h:qlqb all o=some b):2*b+1∈readsOf all o:=by
 simp only[readsOf,List.mem_append,h]
 exact .inr (qgyb.2 rfl)
theorem qakb {xs ys:List Nat}{x:Nat}(h:x∈xs)(k:x∈ys):meets xs ys=true:=by
 simp only[meets,List.any_eq_true]
 exact⟨x,h,by simpa using k⟩
theorem qxa {fi:FI}{ev:FuncId→List AV→List Entry→Option Res}{all:List Oper}{v:Slot}(h:qrt Γ fi ev all true o s pair=some (v,s')):
  ∃ s1,evOp Γ fi ev all o (s.setH []) pair=some (v,s1)∧s1.H=[]∧s'=s1.setH s.H:=by
 simp only[qrt,cond_true] at h
 rw[qij] at h
 obtain⟨⟨v1,s1⟩,h1,h2⟩:=Option.bind_eq_some_iff.1 h
 dsimp only at h2
 split at h2
 ·rename_i hH
  simp only[Ev.pair,Option.some.injEq,Prod.mk.injEq] at h2
  obtain⟨rfl,rfl⟩:=h2
  exact⟨s1,h1,hH,rfl⟩
 ·simp at h2
theorem qehb {fi:FI}{ev:FuncId→List AV→List Entry→Option Res}{all:List Oper}{t:TypeId}{x:Operand}(ho:o.op=.load t x):Leaf (fun _ s'=>s'.H=s.H) (evOp Γ fi ev all o s pair):=by
 unfold evOp
 simp only[ho]
 split
 ·exact .atK fun r o=>.ldT fun q=>.pair rfl
 ·exact .none
theorem qyib {fi:FI}{ev:FuncId→List AV→List Entry→Option Res}{all:List Oper}{a b:TypeId}{x:Operand}(ho:o.op=.convert a b x):Leaf (fun _ s'=>s'.H=s.H) (evOp Γ fi ev all o s pair):=by
 unfold evOp
 simp only[ho]
 unfold qhxc
 split
 ·split
  ·exact .pair rfl
  ·exact .pair rfl
  ·split
   ·exact .bind fun _=>.pair rfl
   ·exact .none
  ·exact .none
 ·exact .none
def Reads (o:Oper):Prop:=(∃ t x,o.op=.load t x)∨∃ a b x,o.op=.convert a b x
structure Stays (fi:FI)(all:List Oper)(free:Bool)(o:Oper)(s s':Fr):Prop where
 tlen:s'.T.length=s.T.length
 xlen:s'.X.length=s.X.length
 slot:∀ t,o.dst≠some t→s'.slot t=s.slot t
 box:∀ b,touch fi all o≠some b→s'.X.getD b []=s.X.getD b []
 heap:(free=true∨Reads o)→s'.H=s.H
theorem qhh {d:Option Tmp}{v:Slot}{t:Nat}(h:d≠some t):(s.put d v).slot t=s.slot t:=by
 rw[qazb,if_neg fun hh=>h hh.1]
theorem qrd {fi:FI}{ev:FuncId→List AV→List Entry→Option Res}{all:List Oper}{free:Bool}{v:Slot}(h:qrt Γ fi ev all free o s pair=some (v,s')):Stays fi all free o s (s'.put o.dst v):=by
 cases free with
 | true=>
  obtain⟨s1,h1,h2,rfl⟩:=qxa h
  have ht:=qntb v s1 h1
  exact⟨by rw[qfdc];exact congrArg List.length ht.tmp,by rw[qym];exact ht.len,fun t hd=>by rw[qhh hd];simp only[Fr.slot,Fr.setH];rw[ht.tmp];rfl,
   fun b hb=>by rw[qym];exact ht.box b hb,fun _=>by rw[qssb];rfl⟩
 | false=>
  have h:evOp Γ fi ev all o s pair=some (v,s'):=h
  have ht:=qntb v s' h
  refine⟨by rw[qfdc];exact congrArg List.length ht.tmp,by rw[qym];exact ht.len,fun t hd=>by rw[qhh hd];simp only[Fr.slot];rw[ht.tmp],
   fun b hb=>by rw[qym];exact ht.box b hb,fun hh=>?_⟩
  rw[qssb]
  rcases hh with hh | ⟨t,x,ho⟩ | ⟨t,u,x,ho⟩
  ·simp at hh
  ·exact qehb ho v s' h
  ·exact qyib ho v s' h
theorem Way.stays {fi:FI}{ev:FuncId→List AV→List Entry→Option Res}{all:List Oper}{free fr:Bool}{R:Slot→Prop}(h:Way Γ fi ev all free o s R s')(hR:∀ v,R v→free=fr∨Reads o):Stays fi all fr o s s':=by
 have key:∀ {s1:Fr},Stays fi all free o s s1→(free=fr∨Reads o)→Stays fi all fr o s s1:=fun k hh=>by
  rcases hh with rfl | hh
  ·exact k
  ·exact⟨k.tlen,k.xlen,k.slot,k.box,fun _=>k.heap (.inr hh)⟩
 cases h with
 | plain hg v s' h hr=>exact key (qrd h) (hR v hr)
 | done gi want t hg ht hs v s' h hr=>exact key (qrd h) (hR v hr)
 | other=>exact⟨by rw[qfdc],by rw[qym],fun t hd=>qhh hd,fun b _=>by rw[qym],fun _=>qssb _ _⟩
 | skip=>exact⟨by rw[qfdc],by rw[qym],fun t hd=>qhh hd,fun b _=>by rw[qym],fun _=>qssb _ _⟩
theorem Way.mono {fi:FI}{ev:FuncId→List AV→List Entry→Option Res}{all:List Oper}{free:Bool}{R R':Slot→Prop}(h:Way Γ fi ev all free o s R s')(k:∀ v,R v→R' v):Way Γ fi ev all free o s R' s':=by
 cases h with
 | plain hg v s' h hr=>exact .plain hg v s' h (k v hr)
 | done gi want t hg ht hs v s' h hr=>exact .done gi want t hg ht hs v s' h (k v hr)
 | other gi want b t hg ht hs hb=>exact .other gi want b t hg ht hs hb
 | skip gi want t hg ht hs=>exact .skip gi want t hg ht hs
theorem qjhb {fi:FI}{ev:FuncId→List AV→List Entry→Option Res}{all l:List Oper}{p:Plan}{i:Nat}{hs:List (Nat×List Entry)}{ld:List (Nat×Oper×Fr×Slot)}{κ:Fr→Option α}{r:α}(h:qgh Γ fi ev all p i (o::l) s hs ld κ=some r):
  ∃ s' ld',Way Γ fi ev all (qlpb Γ fi p all i o) o s (fun v=>∀ x∈addL Γ fi p all i o s v ld,x∈ld') s'∧(∀ x∈ld,x∈ld')∧qgh Γ fi ev all p (i+1) l s' (addH p i s hs) ld' κ=some r:=by
 have sub:∀ v,∀ x∈ld,x∈addL Γ fi p all i o s v ld:=fun v x hx=>by
  unfold addL
  cases qlu Γ fi p all i o
  ·exact hx
  ·exact List.mem_cons_of_mem _ hx
 simp only[qgh] at h
 split at h
 ·rename_i hg
  rw[qhg] at h
  obtain⟨⟨v,s'⟩,h1,h2⟩:=Option.bind_eq_some_iff.1 h
  exact⟨_,_,.plain hg v s' h1 fun _ h=>h,sub v,h2⟩
 ·rename_i gi want hg
  split at h
  ·simp at h
  ·rename_i t ht
   split at h
   ·rename_i b hs
    have hput:s.put (some t) (.av (.one (.sc (.bool b))))=s:=by rw[← hs,qrcb]
    rcases qcx h with⟨hb,h2⟩ | ⟨hb,h2⟩
    ·clear h
     subst hb
     rcases qcx h2 with⟨hw,h3⟩ | ⟨hw,h3⟩
     ·subst hw
      rw[qhg,hput] at h3
      obtain⟨⟨v,s'⟩,h1,h2⟩:=Option.bind_eq_some_iff.1 h3
      exact⟨_,_,.done gi true t hg ht hs v s' h1 fun _ h=>h,sub v,h2⟩
     ·subst hw
      rw[hput] at h3
      exact⟨_,ld,.other gi false true t hg ht hs (by simp),fun _ h=>h,h3⟩
    ·clear h
     subst hb
     rcases qcx h2 with⟨hw,h3⟩ | ⟨hw,h3⟩
     ·subst hw
      rw[hput] at h3
      exact⟨_,ld,.other gi true false t hg ht hs (by simp),fun _ h=>h,h3⟩
     ·subst hw
      rw[qhg,hput] at h3
      obtain⟨⟨v,s'⟩,h1,h2⟩:=Option.bind_eq_some_iff.1 h3
      exact⟨_,_,.done gi false t hg ht hs v s' h1 fun _ h=>h,sub v,h2⟩
   ·rename_i hs
    exact⟨_,ld,.skip gi want t hg ht hs,fun _ h=>h,h⟩
   ·simp at h
theorem traceL {fi:FI}{ev:FuncId→List AV→List Entry→Option Res}{all:List Oper}{p:Plan}{κ:Fr→Option α}{r:α}(l:List Oper):∀ (i:Nat) (s:Fr) (hs:List (Nat×List Entry)) (ld:List (Nat×Oper×Fr×Slot)),qgh Γ fi ev all p i l s hs ld κ=some r→
  ∃ (st:Nat→Fr) (hs':List (Nat×List Entry)) (ld':List (Nat×Oper×Fr×Slot)),st 0=s∧
   (∀ (j:Nat) o,l[j]?=some o→Way Γ fi ev all (qlpb Γ fi p all (i+j) o) o (st j) (fun v=>qlu Γ fi p all (i+j) o=true→(i+j,o,st j,v)∈ld') (st (j+1)))∧
   (∀ (j:Nat),j < l.length→p.eff.getD (i+j) 0=2→(i+j,(st j).H)∈hs')∧(i+l.length,(st l.length).H)∈hs'∧(∀ x∈hs,x∈hs')∧(∀ x∈ld,x∈ld')∧chkL Γ fi ev all p hs' ld' (κ (st l.length))=some r:=by
 induction l with
 | nil=>
  intro i s hs ld h
  exact⟨fun _=>s,(i,s.H)::hs,ld,rfl,by simp,fun j hj=>absurd hj (Nat.not_lt_zero _),by simp,fun x hx=>List.mem_cons_of_mem _ hx,fun x hx=>hx,by simpa[qgh] using h⟩
 | cons o l ih=>
  intro i s hs ld h
  obtain⟨s1,ld1,hw,h1,h⟩:=qjhb h
  obtain⟨st,hs',ld',e0,k1,k2,k3,k4,k5,k6⟩:=ih _ _ _ _ h
  have e:∀ j,i+1+j=i+(j+1):=fun j=>by omega
  refine⟨fun k=>match k with | 0=>s | k+1=>st k,hs',ld',rfl,fun j o' hj=>?_,fun j hj he=>?_,?_,fun x hx=>k4 x ?_,fun x hx=>k5 x (h1 x hx),k6⟩
  ·cases j with
   | zero=>
    simp only[List.getElem?_cons_zero,Option.some.injEq] at hj
    subst hj
    rw[← e0] at hw
    refine hw.mono fun v hv hl=>k5 _ (hv _ ?_)
    have hl:qlu Γ fi p all i o=true:=hl
    unfold addL
    rw[hl]
    exact List.mem_cons_self
   | succ j=>
    have:=k1 j o' (by simpa using hj)
    rw[e j] at this
    exact this
  ·cases j with
   | zero=>
    refine k4 _ ?_
    have he:p.eff.getD i 0=2:=he
    unfold addH
    rw[he]
    exact List.mem_cons_self
   | succ j=>
    have:=k2 j (by simpa using hj) (by rw[e j];exact he)
    rw[e j] at this
    exact this
  ·have:=k3
   rw[e l.length] at this
   exact this
  ·unfold addH
   cases p.eff.getD i 0==2
   ·exact hx
   ·exact List.mem_cons_of_mem _ hx
theorem eqC_eq {a b:Cell}(h:eqC a b=true):a=b:=by
 unfold eqC at h
 simpa using h
theorem qzoc {fi:FI}{ev:FuncId→List AV→List Entry→Option Res}{all:List Oper}{p:Plan}{i:Nat}{v:Slot}{k:Option α}{r:α}:∀ {hs:List (Nat×List Entry)},chkH Γ fi ev all p i o s v hs k=some r→
  k=some r∧∀ x∈hs,qsbc p all.length i x.1=true→∃ s2,evOp Γ fi ev all o (s.setH x.2) pair=some (v,s2):=by
 intro hs
 induction hs with
 | nil=>intro h;exact⟨h,by simp⟩
 | cons x hs ih=>
  obtain⟨m,H⟩:=x
  intro h
  rw[chkH] at h
  rcases qcx h with⟨hn,h2⟩ | ⟨hn,h2⟩
  ·rw[qij] at h2
   obtain⟨⟨v',s'⟩,h3,h4⟩:=Option.bind_eq_some_iff.1 h2
   dsimp only at h4
   split at h4
   ·rename_i a b
    rcases qcx h4 with⟨he,h5⟩ | ⟨_,h5⟩
    ·obtain⟨k1,k2⟩:=ih h5
     refine⟨k1,fun x hx hnx=>?_⟩
     rcases List.mem_cons.1 hx with rfl | hx
     ·rw[eqC_eq he]
      exact⟨s',h3⟩
     ·exact k2 x hx hnx
    ·simp at h5
   ·simp at h4
  ·obtain⟨k1,k2⟩:=ih h2
   refine⟨k1,fun x hx hnx=>?_⟩
   rcases List.mem_cons.1 hx with rfl | hx
   ·rw[hn] at hnx
    simp at hnx
   ·exact k2 x hx hnx
theorem qacd {fi:FI}{ev:FuncId→List AV→List Entry→Option Res}{all:List Oper}{p:Plan}{hs:List (Nat×List Entry)}{k:Option α}{r:α}:∀ {ld:List (Nat×Oper×Fr×Slot)},chkL Γ fi ev all p hs ld k=some r→
  k=some r∧∀ y∈ld,∀ x∈hs,qsbc p all.length y.1 x.1=true→∃ s2,evOp Γ fi ev all y.2.1 (y.2.2.1.setH x.2) pair=some (y.2.2.2,s2):=by
 intro ld
 induction ld with
 | nil=>intro h;exact⟨h,by simp⟩
 | cons y ld ih=>
  obtain⟨i,o,s,v⟩:=y
  intro h
  rw[chkL] at h
  obtain⟨h1,h2⟩:=qzoc h
  obtain⟨h3,h4⟩:=ih h1
  refine⟨h3,fun y hy=>?_⟩
  rcases List.mem_cons.1 hy with rfl | hy
  ·exact h2
  ·exact h4 y hy
end
end Go.Ev
