/- What an operation of the evaluator may turn in its frame. No program occurs here; no conditions. -/
import Derived.Test.YteofbfalngmmeaaGreatDoorEvL
namespace Go.Ev
open Go
def Leaf (Q:Slot→Fr→Prop)(e:Option (Slot×Fr)):Prop:=∀ v s',e=some (v,s')→Q v s'
section
variable {Q:Slot→Fr→Prop} {α:Type}
theorem Leaf.none:Leaf Q Option.none:=fun _ _ h=>by simp at h
theorem Leaf.pair {v:Slot}{s:Fr}(h:Q v s):Leaf Q (pair v s):=fun v' s' e=>by
 simp only[Ev.pair,Option.some.injEq,Prod.mk.injEq] at e
 obtain⟨rfl,rfl⟩:=e
 exact h
theorem Leaf.bind {x:Option α}{k:α→Option (Slot×Fr)}(h:∀ y,Leaf Q (k y)):Leaf Q (x.bind k):=fun v s' e=>by
 obtain⟨y,_,e⟩:=Option.bind_eq_some_iff.1 e
 exact h y v s' e
theorem Leaf.cond {c:Bool}{x y:Option (Slot×Fr)}(h:Leaf Q x)(k:Leaf Q y):Leaf Q (cond c x y):=by cases c<;>assumption
theorem Leaf.ldT {t:Ty}{row:List Cell}{off:Nat}{k:AV→Option (Slot×Fr)}(h:∀ y,Leaf Q (k y)):Leaf Q (ldT t row off k):=by rw[qrvb];exact .bind h
theorem Leaf.atK {s:Fr}{rt:Option Tmp}{a:Slot}{k:List Cell→Nat→Option (Slot×Fr)}(h:∀ x y,Leaf Q (k x y)):Leaf Q (atK s rt a k):=by rw[qoab];exact .bind fun p=>h _ _
theorem Leaf.arrK {i:Int}{k:Nat→Option (Slot×Fr)}(h:∀ x,Leaf Q (k x)):∀ n,Leaf Q (Ev.arrK i k n)
 | 0=>.none
 | n+1=>by
  unfold Ev.arrK
  split
  ·exact h n
  ·exact Leaf.arrK h n
theorem Leaf.intK {a:Slot}{k:Int→Option (Slot×Fr)}(h:∀ x,Leaf Q (k x)):Leaf Q (intK a k):=by rw[qhf];exact .bind h
theorem Leaf.optIntK {Γ:Ctx}{s:Fr}{x:Option Operand}{k:Option Int→Option (Slot×Fr)}(h:∀ x,Leaf Q (k x)):Leaf Q (optIntK Γ s x k):=by rw[qky];exact .bind h
theorem Leaf.restK {cs:List Cell}{k:List Cell→Option (Slot×Fr)}(h:∀ x,Leaf Q (k x)):Leaf Q (restK cs k):=by rw[qmd];exact .bind h
theorem Leaf.partsK {Γ:Ctx}{s:Fr}{fs:List TypeId}{ps:List (Nat×Operand)}{k:List (Nat×List Cell)→Option (Slot×Fr)}(h:∀ x,Leaf Q (k x)):Leaf Q (partsK Γ s fs ps k):=by rw[qhd];exact .bind h
theorem Leaf.binK {Γ:Ctx}{op:BinOp}{t:TypeId}{x y:Slot}{k:Slot→Option (Slot×Fr)}(h:∀ x,Leaf Q (k x)):Leaf Q (binK Γ op t x y k):=by rw[qcib];exact .bind h
theorem Leaf.callK {Γ:Ctx}{ev:FuncId→List AV→List Entry→Option Res}{f:FuncId}{args:List AV}{H:List Entry}{k:Slot→List Entry→Option (Slot×Fr)}(h:∀ x y,Leaf Q (k x y)):Leaf Q (callK Γ ev f args H k):=by
 rw[qme];exact .bind fun p=>h _ _
theorem qzyb {s:Fr}{d b:Nat}{cs:List Cell}(h:d≠b):(s.setX d cs).X.getD b []=s.X.getD b []:=by
 simp only[Fr.setX,List.getD_eq_getElem?_getD]
 rw[List.getElem?_set_ne h]
theorem qahb {s:Fr}{d:Nat}{cs:List Cell}(h:d < s.X.length):(s.setX d cs).X.getD d []=cs:=by
 simp[Fr.setX,List.getD_eq_getElem?_getD,h]
structure Turn (t:Option Tmp)(s s':Fr):Prop where
 tmp:s'.T=s.T
 len:s'.X.length=s.X.length
 box:∀ b,t≠some b→s'.X.getD b []=s.X.getD b []
theorem Turn.refl (t:Option Tmp)(s:Fr):Turn t s s:=⟨rfl,rfl,fun _ _=>rfl⟩
theorem Turn.setH (t:Option Tmp)(s:Fr)(H:List Entry):Turn t s (s.setH H):=⟨rfl,rfl,fun _ _=>rfl⟩
theorem Turn.setX {t:Option Tmp}{d:Nat}(h:t=some d)(s:Fr)(cs:List Cell):Turn t s (s.setX d cs):=
 ⟨rfl,by simp[Fr.setX],fun b hb=>qzyb fun e=>hb (by rw[h,e])⟩
theorem qntb {Γ:Ctx}{fi:FI}{ev:FuncId→List AV→List Entry→Option Res}{all:List Oper}{o:Oper}{s:Fr}:Leaf (fun _ s'=>Turn (touch fi all o) s s') (evOp Γ fi ev all o s pair):=by
 have keep:∀ v,Leaf (fun _ s'=>Turn (touch fi all o) s s') (pair v s):=fun v=>.pair (.refl _ _)
 have keepH:∀ v H,Leaf (fun _ s'=>Turn (touch fi all o) s s') (pair v (s.setH H)):=fun v H=>.pair (.setH _ _ _)
 unfold evOp
 split
 ·split
  ·exact .none
  ·exact keep _
 ·split
  ·exact .none
  ·exact keep _
 ·split
  ·refine .cond ?_ ?_
   ·split
    ·exact .none
    ·exact keep _
   ·split
    ·exact .none
    ·exact keep _
  ·exact .none
 ·rename_i e ho
  split
  ·rename_i q d hq hd
   split
   ·rename_i hc
    exact .pair (.setX (by simp only[touch,ho,madeOf,hd];rw[if_pos hc]) _ _)
   ·split
    ·exact keepH _ _
    ·exact keepH _ _
  ·exact .none
 ·split
  ·exact keepH _ _
  ·exact .none
 ·split
  ·exact .bind fun q=>keep _
  ·exact .none
 ·split
  ·exact .intK fun i=>.bind fun q=>keepH _ _
  ·exact .none
 ·rename_i e x ho
  split
  ·rename_i q d v hq hd hx
   split
   ·split
    ·rename_i hc
     exact .pair (.setX (by simp only[touch,ho,madeOf,hd];rw[if_pos hc]) _ _)
    ·exact keepH _ _
   ·exact .none
  ·exact .none
 ·split
  ·split
   ·refine .partsK fun q=>?_
    split
    ·exact keep _
    ·exact .none
   ·split
    ·refine .partsK fun q=>?_
     split
     ·exact keep _
     ·exact .none
    ·exact .none
   ·exact .none
  ·exact .none
 ·split
  ·split
   ·split
    ·refine .partsK fun q=>?_
     split
     ·split
      ·exact keepH _ _
      ·exact .restK fun q=>keep _
     ·exact .none
    ·exact .none
   ·exact .none
  ·exact .none
 ·split
  ·exact .atK fun r o=>.ldT fun q=>keep _
  ·exact .none
 ·rename_i t x y ho
  split
  ·split
   ·split
    ·split
     ·rename_i hb
      exact .pair (.setX (by simp only[touch,ho];exact hb.1) _ _)
     ·exact .none
    ·exact .bind fun q=>keepH _ _
    ·exact .none
   ·exact .none
  ·exact .none
 ·split
  ·exact keep _
  ·exact .bind fun q=>keep _
  ·exact .none
 ·split
  ·rw[qcqb]
   exact .bind fun q=>keep _
  ·exact .binK fun q=>keep _
 ·split<;>first | exact keep _ | exact .none
 ·unfold qhxc
  split
  ·split
   ·exact keep _
   ·exact keep _
   ·split
    ·exact .bind fun _=>keep _
    ·exact .none
   ·exact .none
  ·exact .none
 ·split
  ·split<;>first | exact keep _ | exact .none
  ·exact .none
 ·split
  ·split
   ·refine .intK fun l=>.intK fun c=>?_
    split
    ·exact keepH _ _
    ·exact .none
   ·exact .none
  ·exact .none
 ·split
  ·refine .optIntK fun lo=>.optIntK fun hi=>.optIntK fun mx=>?_
   split
   ·exact .bind fun q=>keep _
   ·split
    ·split
     ·exact .none
     ·exact .bind fun q=>keep _
    ·exact .none
   ·exact .none
  ·exact .none
 ·split
  ·split
   ·split
    ·exact keep _
    ·exact .bind fun q=>keep _
    ·exact .none
   ·exact .none
  ·exact .none
 ·split
  ·split
   ·split
    ·exact .ldT fun q=>keep _
    ·exact .none
   ·exact .none
  ·exact .none
 ·split
  ·refine .intK fun i=>?_
   split
   ·split
    ·exact .bind fun q=>keep _
    ·exact .none
   ·split
    ·exact .arrK (fun q=>keep _) _
    ·exact .none
   ·split
    ·split
     ·exact .bind fun q=>keep _
     ·exact .none
    ·exact .none
   ·exact .none
  ·exact .none
 ·split
  ·refine .intK fun i=>?_
   split
   ·exact .bind fun q=>keep _
   ·split
    ·split
     ·exact .ldT fun q=>keep _
     ·exact .none
    ·exact .none
   ·exact .none
  ·exact .none
 ·split
  ·split
   ·exact keep _
   ·exact .none
  ·exact .none
 ·split
  ·unfold qfv
   split
   ·split
    ·split
     ·exact keep _
     ·exact .bind fun q=>keep _
     ·exact keep _
     ·exact .none
    ·exact .none
   ·split
    ·split
     ·split
      ·exact .bind fun q=>.bind fun p=>keepH _ _
      ·exact .none
     ·exact .none
    ·exact .none
   ·split
    ·exact keep _
    ·exact .none
   ·split
    ·exact keep _
    ·exact .none
   ·exact .none
  ·split
   ·split
    ·exact .callK fun v H=>keepH _ _
    ·exact .none
   ·exact .none
  ·exact .none
 ·exact .none
end
end Go.Ev
