/- Code and functions. No program occurs here; conditions: what the theorems name. -/
import Derived.Test.YteofbfalngmmeaaGreatDoorEvX
namespace Go.Ev
open Go
section
variable {P:Program} {Γ:Ctx} {g g0:Gh} {β:Nat→Option Nat} {w w0:World} {a:Act} {s s':Fr} {o:Oper} {B N:Nat} {H:List Entry} {α:Type}
structure Less (bad:Nat→Bool)(s s':Fr):Prop where
 len:s'.T.length=s.T.length
 slot:∀ t,s'.slot t=.undef∨(s'.slot t=s.slot t∧∀ b off,s.slot t=.loc b off→bad b=false)
 xlen:s'.X.length=s.X.length
 box:∀ b,bad b=false→s'.X.getD b []=s.X.getD b []
 heap:s'.H=s.H
theorem St.less {fi:FI}{l:List Oper}{bad:Nat→Bool}(h:St B N g0 w0 s a w)(hs:Less bad s s')(hm:∀ d∈makes fi l,bad d=true):StU fi l B N g0 w0 s' a w:=by
 obtain⟨h1,h2,h3,g,β,h4,h5,h6,h7⟩:=h
 have hb:∀ t b,(if bad t=true then none else β t)=some b→bad t=false∧β t=some b:=by
  intro t b h
  by_cases e:bad t=true
  ·simp[e] at h
  ·simp only[e] at h;exact⟨by simpa using e,h⟩
 refine⟨h1,by rw[hs.len];exact h2,by rw[hs.xlen];exact h3,g,fun t=>if bad t=true then none else β t,fun t=>?_,?_,h6,fun t b h=>h7 t b (hb t b h).2,fun d hd=>if_pos (hm d hd)⟩
 ·rcases hs.slot t with h | ⟨h,hl⟩
  ·rw[h];exact .undef _
  ·rw[h]
   have:=h4 t
   generalize s.slot t=x at this hl
   generalize a.eval (.tmp t)=y at this
   cases this with
   | av x v h=>exact .av _ _ h
   | tup xs vs h=>exact .tup _ _ h
   | loc t off blk h=>exact .loc _ _ _ (by rw[if_neg (by rw[hl t off rfl];simp)];exact h)
   | skip=>exact .skip
   | undef v=>exact .undef _
   | anyb b=>exact .anyb b
 ·rw[hs.heap]
  refine⟨h5.heap,fun t blk ht=>?_,fun t u b ht hu=>h5.inj t u b (hb _ _ ht).2 (hb _ _ hu).2,fun t b id o ht ho=>h5.sep t b id o (hb _ _ ht).2 ho,h5.size⟩
  show BoxR g w B (s'.X.getD t []) blk
  rw[hs.box t (hb _ _ ht).1]
  exact h5.box t blk (hb _ _ ht).2
theorem Less.refl (s:Fr):Less (fun _=>false) s s:=⟨rfl,fun _=>.inr ⟨rfl,fun _ _ _=>rfl⟩,rfl,fun _ _=>rfl,rfl⟩
theorem qrrb (bad:Nat→Bool)(T:List Slot)(t:Nat):(qzo bad T).getD t .undef=match T.getD t .undef with
  | .loc b off=>if bad b then .undef else .loc b off
  | v=>v:=by
 simp only[qzo,List.getD_eq_getElem?_getD,List.getElem?_map]
 cases T[t]?<;>rfl
theorem qzw (bad:Nat→Bool)(i:Nat)(X:List (List Cell)):(qaab bad i X).length=X.length:=by
 induction X generalizing i with
 | nil=>rfl
 | cons x X ih=>simp[qaab,ih]
theorem qyk (bad:Nat→Bool)(i:Nat)(X:List (List Cell))(b:Nat)(h:bad (i+b)=false):(qaab bad i X).getD b []=X.getD b []:=by
 induction X generalizing i b with
 | nil=>rfl
 | cons x X ih=>
  cases b with
  | zero=>simp at h;simp[qaab,h]
  | succ b=>
   have:=ih (i+1) b (by rw[show i+1+b=i+(b+1) by omega];exact h)
   simpa[qaab] using this
theorem qdjc (live:Nat→Bool)(i:Nat)(T:List Slot):(qflc live i T).length=T.length:=by
 induction T generalizing i with
 | nil=>rfl
 | cons x X ih=>simp[qflc,ih]
theorem qvpb (live:Nat→Bool)(i:Nat)(T:List Slot)(t:Nat):(qflc live i T).getD t .undef=.undef∨(qflc live i T).getD t .undef=T.getD t .undef:=by
 induction T generalizing i t with
 | nil=>exact .inl rfl
 | cons x X ih=>
  cases t with
  | zero=>cases hl:live i<;>simp[qflc,hl]
  | succ t=>simpa[qflc] using ih (i+1) t
theorem qui {bad:Nat→Bool}{T T':List Slot}(h:∀ t,T'.getD t .undef=.undef∨T'.getD t .undef=T.getD t .undef)(t:Nat):
  (qzo bad T').getD t .undef=.undef∨((qzo bad T').getD t .undef=T.getD t .undef∧∀ b off,T.getD t .undef=.loc b off→bad b=false):=by
 rw[qrrb]
 rcases h t with h | h
 ·rw[h];exact .inl rfl
 ·rw[h]
  cases hx:T.getD t .undef with
  | loc b off=>
   cases hb:bad b with
   | true=>exact .inl (by simp[hb])
   | false=>exact .inr ⟨by simp[hb],fun b' off' e=>by simp only[Slot.loc.injEq] at e;rw[← e.1,hb]⟩
  | _=>exact .inr ⟨rfl,fun _ _ e=>by simp at e⟩
theorem qre (bad:List Nat)(s:Fr):∃ f:Nat→Bool,Less f s (forget bad s)∧∀ d∈bad,f d=true:=by
 cases bad with
 | nil=>exact⟨fun _=>false,.refl s,by simp⟩
 | cons x xs=>
  refine⟨(x::xs).contains,⟨by simp[forget,qzo],fun t=>?_,by simp[forget,qzw],fun b hb=>?_,rfl⟩,fun d hd=>by simpa using hd⟩
  ·exact qui (fun _=>.inr rfl) t
  ·exact qyk _ 0 _ b (by rw[Nat.zero_add];exact hb)
theorem qupb (live:Option (List Nat))(s:Fr):∃ f:Nat→Bool,Less f s (qmf live s):=by
 cases live with
 | none=>exact⟨fun _=>false,.refl s⟩
 | some l=>
  refine⟨fun b=>!l.contains b,⟨by simp[qmf,qzo,qdjc],fun t=>?_,by simp[qmf,qzw],fun b hb=>?_,rfl⟩⟩
  ·exact qui (qvpb _ 0 _) t
  ·exact qyk _ 0 _ b (by rw[Nat.zero_add];exact hb)
theorem St.keep (live:Option (List Nat))(h:St B N g0 w0 s a w):St B N g0 w0 (qmf live s) a w:=by
 obtain⟨f,hf⟩:=qupb live s
 exact(h.less (fi:=⟨.skip,0,[],[],[],[],[],false,.pure,false,false,false⟩) (l:=[]) hf (by simp[makes])).st
def Ex.out:Ex→Exit | .normal=>.normal | .exit i=>.exit i | .ret=>.ret
def KP (B N:Nat)(g0:Gh)(w0:World)(K:Ex→Fr→Option α)(r:α):Exit→Act→World→Prop:=fun e a w=>∃ x s,x.out=e∧K x s=some r∧St B N g0 w0 s a w
theorem exists_least {p:Nat→Prop}(h:∃ n,p n):∃ n,p n∧∀ m,p m→n≤m:=by
 obtain⟨n,hn⟩:=h
 induction n using Nat.strongRecOn with
 | _ n ih=>
  by_cases hex:∃ m,m < n∧p m
  ·obtain⟨m,hm,hp⟩:=hex
   exact ih m hm hp
  ·exact⟨n,hn,fun m hm=>Nat.le_of_not_lt fun h=>hex ⟨m,h,hm⟩⟩
open Classical in
noncomputable def leastOf (p:Nat→Prop):Nat:=if h:∃ n,p n then (exists_least h).choose else 0
theorem leastOf_spec {p:Nat→Prop}{n:Nat}(h:p n):p (leastOf p)∧∀ m,p m→leastOf p≤m:=by
 have hex:∃ n,p n:=⟨n,h⟩
 unfold leastOf
 rw[dif_pos hex]
 exact(exists_least hex).choose_spec
theorem qwfb {c:Code}{Q:Exit→Act→World→Prop}(I:Nat→Act→World→Prop){n:Nat}(h0:I n a w)
  (round:∀ n a w,I n a w→c.wp P (Exit.then (fun a' w'=>∃ m,m < n∧I m a' w') Q) a w):(Code.loop c).wp P Q a w:=by
 refine wp_loop (fun a w=>∃ n,I n a w) (fun a w=>leastOf fun n=>I n a w) ⟨n,h0⟩ fun a w ⟨n,hn⟩=>?_
 obtain⟨h1,h2⟩:=leastOf_spec (p:=fun n=>I n a w) hn
 refine wp_mono (round _ a w h1) fun e a' w' h=>?_
 cases e with
 | normal=>
  obtain⟨m,hm,hI⟩:=h
  have:=(leastOf_spec (p:=fun n=>I n a' w') hI).2 m hI
  exact⟨⟨m,hI⟩,by omega⟩
 | _=>exact h
theorem qhlb {x y:Option α}{r:α}(h:both x y=some r):x=some r∧y=some r:=by
 unfold both at h
 split at h
 ·rename_i e
  exact⟨h,by rw[← e];exact h⟩
 ·simp at h
theorem evC_ok {fi:FI}{ev:FuncId→List AV→List Entry→Option Res}{Ok:Nat→World→Prop}(hmix:P.follows .mixedOrders=true)(hΓ:CtxOk P Γ)(hF:FiOk P Γ)(hcall:qlx P Γ ev Ok)(hS:Stable Ok)(hN:∀ d∈fi.locs,d < N)(h0:Ok B w0)(hh:HR g0 B H w0)(hB:B≤w0.heap.size)
  (fuel:Nat) (r:α) (c:Code):∀ (id:Option Nat) (K:Ex→Fr→Option α) (s:Fr) (a:Act) (w:World),evC Γ fi ev fuel c id K s=some r→St B N g0 w0 s a w→c.wp P (KP B N g0 w0 K r) a w:=by
 induction c with
 | skip=>exact fun id K s a w h hs=>wp_skip ⟨.normal,s,rfl,h,hs⟩
 | region rid ops draw=>
  intro id K s a w h hs
  cases draw with
  | true=>
   simp only[evC] at h
   rcases qcx h with⟨hnd,h⟩ | ⟨_,h⟩
   ·obtain⟨f,hf,hfm⟩:=qre (makes fi ops.toList) (qmf (qqrb fi rid) s)
    simp only[Bool.and_eq_true] at hnd
    rcases qcx h with⟨_,h⟩ | ⟨_,h⟩
    ·exact qvyb hmix hΓ hF hcall hS hN h0 hh hB (fun s a w h hs=>⟨.normal,s,rfl,h,hs⟩) hnd.1 hnd.2 h ((hs.keep _).less hf hfm)
    exact qmvc hmix hΓ hF hcall hS hN h0 hh hB (fun s a w h hs=>⟨.normal,s,rfl,h,hs⟩) hnd.1 hnd.2 h ((hs.keep _).less hf hfm)
   ·simp at h
  | false=>
   simp only[evC] at h
   rcases qcx h with⟨hnd,h⟩ | ⟨_,h⟩
   ·obtain⟨f,hf,hfm⟩:=qre (makes fi ops.toList) (qmf (qqrb fi rid) s)
    refine wp_region ?_
    have:=ops_ok (ops:=ops) (Q:=KP B N g0 w0 K r) hΓ hF hcall hS hN h0 hh hB (fun s a w h hs=>⟨.normal,s,rfl,h,hs⟩) ops.toList 0 _ a w (by simp) hnd h ((hs.keep _).less hf hfm)
    rw[List.range_eq_range']
    simpa using this
   ·simp at h
 | seq x y ihx ihy=>
  intro id K s a w h hs
  simp only[evC] at h
  refine wp_seq (wp_mono (ihx none _ s a w h hs) fun e a' w' ⟨x,s',hx,hK,hst⟩=>?_)
  cases x<;>simp only[Ex.out] at hx<;>subst hx
  ·exact ihy none K s' a' w' hK hst
  ·exact⟨.exit _,s',rfl,hK,hst⟩
  ·exact⟨.ret,s',rfl,hK,hst⟩
 | cond c x y ihx ihy=>
  intro id K s a w h hs
  simp only[evC] at h
  split at h
  ·rename_i b hb
   have hc:a.eval c=.bool b:=by
    obtain⟨_,_,_,g,β,h4,_⟩:=hs
    have:=qfg (Γ:=Γ) (g:=g) (β:=β) (w:=w) (a:=a) (s:=s) (xs:=[c]) (fun t _=>h4 t) 0 (x:=c) (by simp)
    rw[hb] at this
    exact this.sc
   rcases qcx h with⟨rfl,h⟩ | ⟨rfl,h⟩
   ·exact wp_cond_true hc (ihx none K s a w h hs)
   ·exact wp_cond_false hc (ihy none K s a w h hs)
  ·rename_i hb
   have hc:∃ b,a.eval c=.bool b:=by
    obtain⟨_,_,_,g,β,h4,_⟩:=hs
    have:=qfg (Γ:=Γ) (g:=g) (β:=β) (w:=w) (a:=a) (s:=s) (xs:=[c]) (fun t _=>h4 t) 0 (x:=c) (by simp)
    rw[hb] at this
    generalize a.eval c=v at this
    cases this with
    | anyb b=>exact⟨b,rfl⟩
   obtain⟨h1,h2⟩:=qhlb h
   obtain⟨b,hc⟩:=hc
   cases b
   ·exact wp_cond_false hc (ihy none K s a w h2 hs)
   ·exact wp_cond_true hc (ihx none K s a w h1 hs)
  ·simp at h
 | block bid c ih=>
  intro id K s a w h hs
  simp only[evC] at h
  refine wp_block (wp_mono (ih (some bid) _ s a w h hs) fun e a' w' ⟨x,s',hx,hK,hst⟩=>?_)
  cases x with
  | normal=>subst hx;exact⟨.normal,s',rfl,hK,hst⟩
  | exit i=>
   subst hx
   simp only[Ex.out,Exit.inBlock]
   simp only[qaw] at hK
   split
   ·rename_i e
    rw[if_pos e] at hK
    exact⟨.normal,s',rfl,hK,hst⟩
   ·rename_i e
    rw[if_neg e] at hK
    exact⟨.exit i,s',rfl,hK,hst⟩
  | ret=>subst hx;exact⟨.ret,s',rfl,hK,hst⟩
 | loop c ih=>
  intro id K s a w h hs
  simp only[evC] at h
  refine qwfb (fun n a w=>∃ s,qbj (qnic fi id) (evC Γ fi ev fuel c none) K n s=some r∧St B N g0 w0 s a w) (n:=fuel) ⟨_,h,hs.keep _⟩ fun n a w ⟨s,h,hs⟩=>?_
  cases n with
  | zero=>simp[qbj] at h
  | succ n=>
   simp only[qbj] at h
   refine wp_mono (ih none _ _ a w h hs) fun e a' w' ⟨x,s',hx,hK,hst⟩=>?_
   cases x<;>simp only[Ex.out] at hx<;>subst hx
   ·exact⟨n,by omega,_,hK,hst.keep _⟩
   ·exact⟨.exit _,s',rfl,hK,hst⟩
   ·exact⟨.ret,s',rfl,hK,hst⟩
 | exit i=>exact fun id K s a w h hs=>wp_exit ⟨.exit i,s,rfl,h,hs⟩
 | ret=>exact fun id K s a w h hs=>wp_ret ⟨.ret,s,rfl,h,hs⟩
 | _=>intro id K s a w h hs;simp[evC] at h
end
end Go.Ev
