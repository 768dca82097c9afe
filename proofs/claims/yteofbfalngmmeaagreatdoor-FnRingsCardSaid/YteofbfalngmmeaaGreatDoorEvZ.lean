/- More rounds tell the same; what a function comes to with enough rounds ('lim'), and that this is sound. No program occurs here; conditions: what the theorems name. -/
import Derived.Test.YteofbfalngmmeaaGreatDoorEvY
namespace Go.Ev
open Go
def Le {α:Type}(x y:Option α):Prop:=∀ r,x=some r→y=some r
theorem Le.refl {α:Type}(x:Option α):Le x x:=fun _ h=>h
theorem Le.bind {α β:Type}{x y:Option α}{f g:α→Option β}(h:Le x y)(k:∀ a,Le (f a) (g a)):Le (x.bind f) (y.bind g):=by
 intro r e
 obtain⟨a,h1,h2⟩:=Option.bind_eq_some_iff.1 e
 rw[h a h1]
 exact k a r h2
theorem Le.cond {α:Type}{c:Bool}{x y x' y':Option α}(h:Le x x')(k:Le y y'):Le (cond c x y) (cond c x' y'):=by cases c<;>assumption
section
variable {α:Type} {Γ:Ctx} {fi:FI} {ev ev':FuncId→List AV→List Entry→Option Res} {all:List Oper} {o:Oper} {s:Fr}
theorem qnob {p q:List AV→List Entry→Option Res}(h:∀ a H,Le (p a H) (q a H))(args:List AV)(H:List Entry):Le (qbc p args H) (qbc q args H):=by
 intro r e
 unfold qbc at*
 split at e
 ·split at e
  ·rename_i r' h'
   simp only[h _ _ _ h']
   exact e
  ·simp at e
 ·simp at e
theorem qrtb {p q:List AV→List Entry→Option Res}(h:∀ a H,Le (p a H) (q a H))(args:List AV)(H:List Entry):Le (callL p args H) (callL q args H):=by
 intro r e
 unfold callL at*
 dsimp only at*
 split at e
 ·rename_i h0
  split at e
  ·rename_i r' h'
   simp only[h _ _ _ h']
   exact e
  ·simp at e
 ·simp at e
theorem qovb {p q:List AV→List Entry→Option Res}(h:∀ a H,Le (p a H) (q a H))(args:List AV)(H:List Entry):Le (qfd p args H) (qfd q args H):=by
 intro r e
 unfold qfd at*
 split at e
 ·split at e
  ·rename_i r' h'
   simp only[h _ _ _ h']
   exact e
  ·simp at e
 ·simp at e
theorem qmhb (hev:∀ f args H,Le (ev f args H) (ev' f args H))(f:FuncId)(args:List AV)(H:List Entry){κ κ':Slot→List Entry→Option α}(hκ:∀ v H,Le (κ v H) (κ' v H)):
  Le (callK Γ ev f args H κ) (callK Γ ev' f args H κ'):=by
 have key:∀ rk r (k k':List AV→Option α),(∀ xs,Le (k xs) (k' xs))→Le (resK rk r k) (resK rk r k'):=by
  intro rk r k k' h
  rw[qdg,qdg (κ:=k')]
  exact .bind (.refl _) h
 unfold callK
 split
 ·split
  ·exact .bind (hev f args H) fun a=>key _ _ _ _ fun xs=>hκ _ _
  ·split
   ·exact .bind (qnob (hev f) args H) fun a=>key _ _ _ _ fun xs=>hκ _ _
   ·exact .bind (qrtb (hev f) args H) fun a=>key _ _ _ _ fun xs=>hκ _ _
  ·exact .bind (qovb (hev f) args H) fun a=>key _ _ _ _ fun xs=>hκ _ _
 ·exact .refl _
theorem qugc (hev:∀ f args H,Le (ev f args H) (ev' f args H)):Le (evOp Γ fi ev all o s pair) (evOp Γ fi ev' all o s pair):=by
 cases hc:o.op
 case call c=>
  unfold evOp
  rw[hc]
  dsimp only
  split
  ·exact .refl _
  ·split
   ·split
    ·exact qmhb hev _ _ _ fun _ _=>.refl _
    ·exact .refl _
   ·exact .refl _
  ·exact .refl _
 case makeMap t r=>cases r<;>(unfold evOp;rw[hc];exact .refl _)
 case lookup t x i b=>cases b<;>(unfold evOp;rw[hc];exact .refl _)
 all_goals (unfold evOp;rw[hc];exact .refl _)
theorem qts (hev:∀ f args H,Le (ev f args H) (ev' f args H)){κ κ':Slot→Fr→Option α}(hκ:∀ v s,Le (κ v s) (κ' v s)):Le (evOp Γ fi ev all o s κ) (evOp Γ fi ev' all o s κ'):=by
 rw[qij,qij (κ:=κ')]
 exact .bind (qugc hev) fun p=>hκ _ _
theorem qft (hev:∀ f args H,Le (ev f args H) (ev' f args H)){free:Bool}{κ κ':Slot→Fr→Option α}(hκ:∀ v s,Le (κ v s) (κ' v s)):Le (qrt Γ fi ev all free o s κ) (qrt Γ fi ev' all free o s κ'):=by
 unfold qrt
 refine .cond (qts hev fun v s'=>?_) (qts hev hκ)
 split
 ·exact hκ _ _
 ·exact .refl _
theorem qwp (hev:∀ f args H,Le (ev f args H) (ev' f args H))(l:List Oper):∀ (fl:List Bool) (s:Fr) {κ κ':Fr→Option α},(∀ s,Le (κ s) (κ' s))→Le (qss Γ fi ev all fl l s κ) (qss Γ fi ev' all fl l s κ'):=by
 induction l with
 | nil=>intro fl s κ κ' h;exact h s
 | cons o r ih=>
  intro fl s κ κ' h
  simp only[qss]
  split
  ·exact qft hev fun v s=>ih _ _ h
  ·split
   ·exact .refl _
   ·split
    ·exact .cond (.cond (qft hev fun v s=>ih _ _ h) (ih _ _ h)) (.cond (ih _ _ h) (qft hev fun v s=>ih _ _ h))
    ·exact ih _ _ h
    ·exact .refl _
theorem qwbb (hev:∀ f args H,Le (ev f args H) (ev' f args H)){p:Plan}{i:Nat}{v:Slot}{k k':Option α}(hk:Le k k'):∀ hs:List (Nat×List Entry),Le (chkH Γ fi ev all p i o s v hs k) (chkH Γ fi ev' all p i o s v hs k'):=by
 intro hs
 induction hs with
 | nil=>exact hk
 | cons x hs ih=>
  obtain⟨m,H⟩:=x
  rw[chkH,chkH]
  refine .cond (qts hev fun v' s'=>?_) ih
  split
  ·exact .cond ih (.refl _)
  ·exact .refl _
theorem qctc (hev:∀ f args H,Le (ev f args H) (ev' f args H)){p:Plan}{hs:List (Nat×List Entry)}{k k':Option α}(hk:Le k k'):∀ ld:List (Nat×Oper×Fr×Slot),Le (chkL Γ fi ev all p hs ld k) (chkL Γ fi ev' all p hs ld k'):=by
 intro ld
 induction ld with
 | nil=>exact hk
 | cons y ld ih=>
  obtain⟨i,o,s,v⟩:=y
  rw[chkL,chkL]
  exact qwbb hev ih hs
theorem qimb (hev:∀ f args H,Le (ev f args H) (ev' f args H)){p:Plan}(l:List Oper):∀ (i:Nat) (s:Fr) (hs:List (Nat×List Entry)) (ld:List (Nat×Oper×Fr×Slot)) {κ κ':Fr→Option α},(∀ s,Le (κ s) (κ' s))→Le (qgh Γ fi ev all p i l s hs ld κ) (qgh Γ fi ev' all p i l s hs ld κ'):=by
 induction l with
 | nil=>
  intro i s hs ld κ κ' h
  rw[qgh,qgh]
  exact qctc hev (h s) ld
 | cons o r ih=>
  intro i s hs ld κ κ' h
  simp only[qgh]
  split
  ·exact qft hev fun v s=>ih _ _ _ _ h
  ·split
   ·exact .refl _
   ·split
    ·exact .cond (.cond (qft hev fun v s=>ih _ _ _ _ h) (ih _ _ _ _ h)) (.cond (ih _ _ _ _ h) (qft hev fun v s=>ih _ _ _ _ h))
    ·exact ih _ _ _ _ h
    ·exact .refl _
theorem qpeb {live:Option (List Nat)}{b b':(Ex→Fr→Option α)→Fr→Option α}(hb:∀ K K' s,(∀ e s,Le (K e s) (K' e s))→Le (b K s) (b' K' s)){K K':Ex→Fr→Option α}(hK:∀ e s,Le (K e s) (K' e s)):
  ∀ (n m:Nat) (s:Fr),n≤m→Le (qbj live b K n s) (qbj live b' K' m s):=by
 intro n
 induction n with
 | zero=>intro m s _ r h;simp[qbj] at h
 | succ n ih=>
  intro m s hm
  obtain⟨m,rfl⟩:∃ j,m=j+1:=⟨m - 1,by omega⟩
  simp only[qbj]
  refine hb _ _ _ fun e s=>?_
  cases e
  ·exact ih m _ (by omega)
  ·exact hK _ _
  ·exact hK _ _
theorem qmfc (hev:∀ f args H,Le (ev f args H) (ev' f args H)){k k':Nat}(hk:k≤k')(c:Code):∀ (id:Option Nat) (K K':Ex→Fr→Option α) (s:Fr),(∀ e s,Le (K e s) (K' e s))→
  Le (evC Γ fi ev k c id K s) (evC Γ fi ev' k' c id K' s):=by
 induction c with
 | skip=>intro id K K' s h;exact h _ _
 | region rid ops d=>
  intro id K K' s h
  cases d
  ·exact .cond (qwp hev _ _ _ fun s=>h _ _) (.refl _)
  ·exact .cond (.cond (qimb hev _ _ _ _ _ fun s=>h _ _) (qwp hev _ _ _ fun s=>h _ _)) (.refl _)
 | seq a b iha ihb=>
  intro id K K' s h
  refine iha _ _ _ _ fun e s=>?_
  cases e
  ·exact ihb _ _ _ _ h
  ·exact h _ _
  ·exact h _ _
 | cond c a b iha ihb=>
  intro id K K' s h
  simp only[evC]
  split
  ·exact .cond (iha _ _ _ _ h) (ihb _ _ _ _ h)
  ·intro r e
   obtain⟨h1,h2⟩:=qhlb e
   unfold both
   rw[iha _ _ _ _ h r h1,ihb _ _ _ _ h r h2]
   simp
  ·exact .refl _
 | block i c ih=>
  intro id K K' s h
  refine ih _ _ _ _ fun e s=>?_
  cases e
  ·exact h _ _
  ·simp only[qaw]
   split<;>exact h _ _
  ·exact h _ _
 | loop c ih=>
  intro id K K' s h
  exact qpeb (b:=evC Γ fi ev k c none) (b':=evC Γ fi ev' k' c none) (fun K K' s h=>ih none _ _ _ h) h _ _ _ hk
 | exit i=>intro id K K' s h;exact h _ _
 | ret=>intro id K K' s h;exact h _ _
 | _=>intro id K K' s h;simp only[evC];exact .refl _
end
theorem qpcb (Γ:Ctx):∀ (k k':Nat) (f:FuncId) (args:List AV) (H:List Entry),k≤k'→Le (evF Γ k f args H) (evF Γ k' f args H):=by
 intro k
 induction k with
 | zero=>intro k' f args H _ r h;simp[evF] at h
 | succ k ih=>
  intro k' f args H hk
  obtain⟨m,rfl⟩:∃ j,k'=j+1:=⟨k' - 1,by omega⟩
  simp only[evF]
  split
  ·exact .refl _
  ·split
   ·exact qmfc (fun f args H=>ih m f args H (by omega)) (by omega) _ _ _ _ _ fun e s=>.refl _
   ·exact .refl _
noncomputable def lim (Γ:Ctx)(f:FuncId)(args:List AV)(H:List Entry):Option Res:=open Classical in if h:∃ r k,evF Γ k f args H=some r then some h.choose else none
theorem qap {Γ:Ctx}{f:FuncId}{args:List AV}{H:List Entry}{k:Nat}{r:Res}(h:evF Γ k f args H=some r):lim Γ f args H=some r:=by
 have hh:∃ r k,evF Γ k f args H=some r:=⟨r,k,h⟩
 unfold lim
 rw[dif_pos hh]
 obtain⟨k',h'⟩:=hh.choose_spec
 have h1:=qpcb Γ k (max k k') f args H (by omega) _ h
 have h2:=qpcb Γ k' (max k k') f args H (by omega) _ h'
 rw[h1] at h2
 exact h2.symm
theorem qtbc {Γ:Ctx}{f:FuncId}{args:List AV}{H:List Entry}{r:Res}(h:lim Γ f args H=some r):∃ k,evF Γ k f args H=some r:=by
 unfold lim at h
 split at h
 ·rename_i hh
  simp only[Option.some.injEq] at h
  rw[← h]
  exact hh.choose_spec
 ·simp at h
def look {β:Type}:List (Nat×β)→Nat→Option β | [],_=>none | (i,p)::r,f=>cond (Nat.beq f i) (some p) (look r f)
abbrev Run:=List AV→List Entry→Option Res
noncomputable def ctx (ty:Tab Ty)(fi:Tab FI)(l:List (Nat×Run)):Ctx:=⟨ty.get,fi.get,look l⟩
def qbbc (P:Program)(Ok:Nat→World→Prop):List (Nat×Run)→Prop | []=>True | (i,p)::r=>FnOk P Ok i p∧qbbc P Ok r
theorem qbbc.nil {P:Program}{Ok:Nat→World→Prop}:qbbc P Ok []:=trivial
theorem qbbc.cons {P:Program}{Ok:Nat→World→Prop}{i:Nat}{p:Run}{r:List (Nat×Run)}(h:FnOk P Ok i p)(t:qbbc P Ok r):qbbc P Ok ((i,p)::r):=⟨h,t⟩
theorem qbbc.get {P:Program}{Ok:Nat→World→Prop}:∀ {l:List (Nat×Run)} {f:Nat} {p:Run},qbbc P Ok l→look l f=some p→FnOk P Ok f p:=by
 intro l
 induction l with
 | nil=>intro f p _ h;simp[look] at h
 | cons x r ih=>
  intro f p ha h
  obtain⟨i,q⟩:=x
  simp only[look] at h
  cases hb:Nat.beq f i with
  | true=>
   rw[hb] at h
   simp only[cond_true,Option.some.injEq] at h
   rw[Nat.eq_of_beq_eq_true hb,← h]
   exact ha.1
  | false=>
   rw[hb] at h
   exact ih ha.2 h
theorem qao {P:Program}{Ok:Nat→World→Prop}{ty:Tab Ty}{fi:Tab FI}{l:List (Nat×Run)}(hmix:P.follows .mixedOrders=true)(ht:ty.All (TyOk P) id)(hf:fi.All (FiAt P) id)(hS:Stable Ok)
  (hl:qbbc P Ok l) (f:FuncId):FnOk P Ok f (lim (ctx ty fi l) f):=by
 intro args H r h
 obtain⟨k,hk⟩:=qtbc h
 exact ev_ok hmix (ctxOk_of rfl ht) (qydc rfl hf) hS (fun f p hp=>hl.get hp) k f args H r hk
def qsw {α:Type}(H:List Entry)(x:Option α):Option α:=
 match H with
 | []=>x
 | _::_=>none
def bs (l:List UInt8):ByteArray:=⟨l.toArray⟩
abbrev U:Slot:=.undef
def fT:Nat→Nat→List (Nat×Slot)→List Slot | 0,_,_=>[] | n+1,i,[]=>.undef::fT n (i+1) [] | n+1,i,(j,v)::r=>cond (Nat.beq i j) (v::fT n (i+1) r) (.undef::fT n (i+1) ((j,v)::r))
def fX:Nat→Nat→List (Nat×List Cell)→List (List Cell) | 0,_,_=>[] | n+1,i,[]=>[]::fX n (i+1) [] | n+1,i,(j,v)::r=>cond (Nat.beq i j) (v::fX n (i+1) r) ([]::fX n (i+1) ((j,v)::r))
def sub:List Nat→Code→Code | [],c=>c | 0::r,.seq a _=>sub r a | 1::r,.seq _ b=>sub r b | 2::r,.block _ c=>sub r c | 3::r,.loop c=>sub r c | 4::r,.cond _ a _=>sub r a | 5::r,.cond _ _ b=>sub r b | _,c=>c
end Go.Ev
