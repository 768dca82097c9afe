/- Regions whose operations may run in many orders. No program occurs here; conditions: what the theorems name. -/
import Derived.Test.YteenbnljpddleaaGreatDoorEvO
namespace Go.Ev
open Go
theorem qakc {γ:Type}{val:Nat→γ}{wr:Nat→Prop}{n:Nat}(hst:∀ i,i < n→¬ wr i→val (i+1)=val i){m k:Nat}(hm:m≤n)(hk:k≤n)(h:∀ i,i < n→wr i→(i < m↔i < k)):val m=val k:=by
 have up:∀ d m,m+d≤n→(∀ i,m≤i→i < m+d→¬ wr i)→val m=val (m+d):=by
  intro d
  induction d with
  | zero=>intro m _ _;rfl
  | succ d ih=>
   intro m hn hw
   rw[ih m (by omega) (fun i h1 h2=>hw i h1 (by omega)),← Nat.add_assoc,hst (m+d) (by omega) (hw _ (by omega) (by omega))]
 rcases Nat.le_total m k with hle | hle
 ·obtain⟨d,rfl⟩:=Nat.exists_eq_add_of_le hle
  exact up d m hk fun i h1 h2 hw=>by have:=(h i (by omega) hw).2 h2;omega
 ·obtain⟨d,rfl⟩:=Nat.exists_eq_add_of_le hle
  exact(up d k hm fun i h1 h2 hw=>by have:=(h i (by omega) hw).1 h2;omega).symm
section
variable {P:Program} {Γ:Ctx} {g g0:Gh} {β:Nat→Option Nat} {w w0:World} {a:Act} {s s':Fr} {o:Oper} {B N:Nat} {H:List Entry} {α:Type}
theorem trace {fi:FI}{ev:FuncId→List AV→List Entry→Option Res}{all:List Oper}{κ:Fr→Option α}{r:α}(l:List Oper):∀ (fl:List Bool) (s:Fr),qvh Γ fi ev all fl l s κ=some r→
  ∃ st:Nat→Fr,st 0=s∧(∀ (i:Nat) o,l[i]?=some o→Way Γ fi ev all (fl.getD i false) o (st i) (st (i+1)))∧κ (st l.length)=some r:=by
 induction l with
 | nil=>intro fl s h;exact⟨fun _=>s,rfl,by simp,by simpa[qvh] using h⟩
 | cons o l ih=>
  intro fl s h
  obtain⟨s1,hw,h⟩:=qcxb h
  obtain⟨st,h1,h2,h3⟩:=ih _ _ h
  refine⟨fun k=>match k with | 0=>s | k+1=>st k,rfl,fun i o' hi=>?_,h3⟩
  cases i with
  | zero=>
   simp only[List.getElem?_cons_zero,Option.some.injEq] at hi
   subst hi
   rw[← h1] at hw
   cases fl<;>exact hw
  | succ i=>
   have:=h2 i o' (by simpa using hi)
   cases fl with
   | nil=>simpa using this
   | cons b fl=>simpa using this
theorem qmjb {x:Option Tmp}{t:Nat}:2*t∈optN 0 x↔x=some t:=by
 cases x with
 | none=>simp[optN]
 | some y=>
  simp only[optN,List.mem_singleton,Option.some.injEq]
  refine⟨fun h=>?_,fun h=>by subst h;rfl⟩
  have h:(2*t+0:Nat)=2*(y:Nat)+0:=h
  exact(Nat.eq_of_mul_eq_mul_left (by decide:0 < 2) (Nat.add_right_cancel h)).symm
theorem qirb {x:Option Tmp}{t:Nat}:2*t+1∈optN 1 x↔x=some t:=by
 cases x with
 | none=>simp[optN]
 | some y=>
  simp only[optN,List.mem_singleton,Option.some.injEq]
  refine⟨fun h=>?_,fun h=>by subst h;rfl⟩
  have h:(2*t+1:Nat)=2*(y:Nat)+1:=h
  exact(Nat.eq_of_mul_eq_mul_left (by decide:0 < 2) (Nat.add_right_cancel h)).symm
theorem qdsc {x:Option Tmp}{t:Nat}:2*t+1∉optN 0 x:=by
 intro h
 cases x with
 | none=>simp[optN] at h
 | some y=>
  simp only[optN,List.mem_singleton] at h
  have h:(2*t+1:Nat)=2*(y:Nat)+0:=h
  omega
theorem quob {x:Option Tmp}{t:Nat}:2*t∉optN 1 x:=by
 intro h
 cases x with
 | none=>simp[optN] at h
 | some y=>
  simp only[optN,List.mem_singleton] at h
  have h:(2*t+0:Nat)=2*(y:Nat)+1:=h
  omega
theorem qgl {fi:FI}{all:List Oper}{t:Nat}:2*t∈qcu fi all o↔o.dst=some t:=by
 simp only[qcu,List.mem_append,qmjb,quob,or_false]
theorem qeo {fi:FI}{all:List Oper}{b:Nat}:2*b+1∈qcu fi all o↔touch fi all o=some b:=by
 simp only[qcu,List.mem_append,qirb,qdsc,false_or]
theorem qawb {all:List Oper}{t:Nat}(h:Operand.tmp t∈o.op.operands.toList):2*t∈readsOf all o:=by
 simp only[readsOf,List.mem_append]
 refine .inl (.inl ?_)
 simp only[tmpsOf,List.mem_filterMap]
 exact⟨_,h,rfl⟩
theorem qfj {all:List Oper}{t gi:Nat}{want:Bool}(h:o.guard=some (gi,want))(hg:gslot all gi=some t):2*t∈readsOf all o:=by
 simp only[readsOf,List.mem_append,h,hg]
 exact .inl (.inr (qmjb.2 rfl))
theorem qbgb {all:List Oper}{b:Nat}(h:qayc all o=some b):2*b+1∈readsOf all o:=by
 simp only[readsOf,List.mem_append,h]
 exact .inr (qirb.2 rfl)
theorem qgkb {xs ys:List Nat}{x:Nat}(h:x∈xs)(k:x∈ys):meets xs ys=true:=by
 simp only[meets,List.any_eq_true]
 exact⟨x,h,by simpa using k⟩
theorem qaxb {fi:FI}{ev:FuncId→List AV→List Entry→Option Res}{all:List Oper}{v:Slot}(h:qedb Γ fi ev all true o s pair=some (v,s')):
  ∃ s1,evOp Γ fi ev all o (s.setH []) pair=some (v,s1)∧s1.H=[]∧s'=s1.setH s.H:=by
 simp only[qedb,cond_true] at h
 rw[qlu] at h
 obtain⟨⟨v1,s1⟩,h1,h2⟩:=Option.bind_eq_some_iff.1 h
 dsimp only at h2
 split at h2
 ·rename_i hH
  simp only[Ev.pair,Option.some.injEq,Prod.mk.injEq] at h2
  obtain⟨rfl,rfl⟩:=h2
  exact⟨s1,h1,hH,rfl⟩
 ·simp at h2
theorem qjpc {fi:FI}{ev:FuncId→List AV→List Entry→Option Res}{all:List Oper}{t:TypeId}{x:Operand}(ho:o.op=.load t x):Leaf (fun _ s'=>s'.H=s.H) (evOp Γ fi ev all o s pair):=by
 unfold evOp
 simp only[ho]
 split
 ·exact .atK fun r o=>.ldT fun q=>.pair rfl
 ·exact .none
theorem qctc {fi:FI}{ev:FuncId→List AV→List Entry→Option Res}{all:List Oper}{a b:TypeId}{x:Operand}(ho:o.op=.convert a b x):Leaf (fun _ s'=>s'.H=s.H) (evOp Γ fi ev all o s pair):=by
 unfold evOp
 simp only[ho]
 unfold qykc
 split
 ·split
  ·exact .pair rfl
  ·exact .pair rfl
  ·split
   ·exact .bind fun _=>.pair rfl
   ·exact .none
  ·exact .none
 ·exact .none
def Reads (o:Oper):Prop:=(∃ t x,o.op=.load t x)∨∃ a b x,o.op=.convert a b x
structure Stays (fi:FI)(all:List Oper)(free:Bool)(o:Oper)(s s':Fr):Prop where
 tlen:s'.T.length=s.T.length
 xlen:s'.X.length=s.X.length
 slot:∀ t,o.dst≠some t→s'.slot t=s.slot t
 box:∀ b,touch fi all o≠some b→s'.X.getD b []=s.X.getD b []
 heap:(free=true∨Reads o)→s'.H=s.H
theorem qic {d:Option Tmp}{v:Slot}{t:Nat}(h:d≠some t):(s.put d v).slot t=s.slot t:=by
 rw[qhpb,if_neg fun hh=>h hh.1]
theorem quj {fi:FI}{ev:FuncId→List AV→List Entry→Option Res}{all:List Oper}{free:Bool}{v:Slot}(h:qedb Γ fi ev all free o s pair=some (v,s')):Stays fi all free o s (s'.put o.dst v):=by
 cases free with
 | true=>
  obtain⟨s1,h1,h2,rfl⟩:=qaxb h
  have ht:=qaoc v s1 h1
  exact⟨by rw[qszc];exact congrArg List.length ht.tmp,by rw[qbzb];exact ht.len,fun t hd=>by rw[qic hd];simp only[Fr.slot,Fr.setH];rw[ht.tmp];rfl,
   fun b hb=>by rw[qbzb];exact ht.box b hb,fun _=>by rw[qcqc];rfl⟩
 | false=>
  have h:evOp Γ fi ev all o s pair=some (v,s'):=h
  have ht:=qaoc v s' h
  refine⟨by rw[qszc];exact congrArg List.length ht.tmp,by rw[qbzb];exact ht.len,fun t hd=>by rw[qic hd];simp only[Fr.slot];rw[ht.tmp],
   fun b hb=>by rw[qbzb];exact ht.box b hb,fun hh=>?_⟩
  rw[qcqc]
  rcases hh with hh | ⟨t,x,ho⟩ | ⟨t,u,x,ho⟩
  ·simp at hh
  ·exact qjpc ho v s' h
  ·exact qctc ho v s' h
theorem Way.stays {fi:FI}{ev:FuncId→List AV→List Entry→Option Res}{all:List Oper}{free:Bool}(h:Way Γ fi ev all free o s s'):Stays fi all free o s s':=by
 cases h with
 | plain hg v s' h=>exact quj h
 | done gi want t hg ht hs v s' h=>exact quj h
 | other=>exact⟨by rw[qszc],by rw[qbzb],fun t hd=>qic hd,fun b _=>by rw[qbzb],fun _=>qcqc _ _⟩
 | skip=>exact⟨by rw[qszc],by rw[qbzb],fun t hd=>qic hd,fun b _=>by rw[qbzb],fun _=>qcqc _ _⟩
end
end Go.Ev
