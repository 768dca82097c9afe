/- Every part of the evaluator treats what follows it alike: its answer is one pair, or none, to which what follows is put. No program occurs here; no conditions. -/
import Derived.Test.YteofbfalngmmeaaGreatDoorEvK
namespace Go.Ev
open Go
section
variable {α β:Type}
theorem qma {γ:Type}(c:Bool)(x y:Option γ)(f:γ→Option α):(cond c x y).bind f=cond c (x.bind f) (y.bind f):=by cases c<;>rfl
theorem qlr (kd:Kd)(row:List Cell)(off:Nat)(κ:Cell→Option α):ldK kd row off κ=(ldK kd row off some).bind κ:=by
 cases kd<;>simp[ldK,Option.bind_assoc]
theorem qrb (ks:List Kd)(row:List Cell)(off:Nat)(κ:List Cell→Option α):ldL ks row off κ=(ldL ks row off some).bind κ:=by
 induction ks generalizing off α with
 | nil=>simp[ldL]
 | cons k ks ih=>
  simp only[ldL]
  rw[qlr,qlr (κ:=fun c=>ldL ks row (off+1) fun cs=>some (c::cs)),Option.bind_assoc]
  congr 1
  funext c
  rw[ih,ih (κ:=fun cs=>some (c::cs)),Option.bind_assoc]
  rfl
theorem qrvb (t:Ty)(row:List Cell)(off:Nat)(κ:AV→Option α):ldT t row off κ=(ldT t row off some).bind κ:=by
 unfold ldT
 split
 ·rw[qrb,qrb (κ:=fun cs=>some (AV.agg cs)),Option.bind_assoc];rfl
 ·rw[qlr,qlr (κ:=fun c=>some (AV.one c)),Option.bind_assoc];rfl
theorem qbeb (rk:List (Bool×List Kd))(r:List AV)(i:Nat)(κ:List AV→Option α):resL rk r i κ=(resL rk r i some).bind κ:=by
 induction rk generalizing i α with
 | nil=>rfl
 | cons k rk ih=>
  obtain⟨b,ks⟩:=k
  cases b with
  | true=>
   simp only[resL]
   rw[qrb,qrb (κ:=fun cs=>resL rk r (i+1) fun ys=>some (AV.agg cs::ys)),Option.bind_assoc]
   congr 1
   funext c
   rw[ih,ih (κ:=fun ys=>some (AV.agg c::ys)),Option.bind_assoc]
   rfl
  | false=>
   simp only[resL]
   rw[qlr,qlr (κ:=fun c=>resL rk r (i+1) fun ys=>some (AV.one c::ys)),Option.bind_assoc]
   congr 1
   funext c
   rw[ih,ih (κ:=fun ys=>some (AV.one c::ys)),Option.bind_assoc]
   rfl
theorem qdg (rk:List (Bool×List Kd))(xs:List AV)(κ:List AV→Option α):resK rk xs κ=(resK rk xs some).bind κ:=by
 unfold resK
 rw[qma,qbeb]
 rfl
theorem qerb (op:BinOp)(k:IntKind)(a b:Int)(κ:Value→Option α):qshc op k a b κ=(qshc op k a b some).bind κ:=by
 unfold qshc
 split<;>first | rfl | (split<;>rfl)
theorem qgib (op:BinOp)(x y:ByteArray)(κ:Value→Option α):qsdc op x y κ=(qsdc op x y some).bind κ:=by
 unfold qsdc
 split<;>first | rfl | (rw[Option.bind_assoc];rfl)
theorem qoab (s:Fr)(rt:Option Tmp)(a:Slot)(κ:List Cell→Nat→Option α):atK s rt a κ=(atK s rt a fun r o=>some (r,o)).bind fun p=>κ p.1 p.2:=by
 unfold atK
 split
 ·split<;>rfl
 ·rw[Option.bind_assoc];rfl
 ·rfl
theorem qhf (a:Slot)(κ:Int→Option α):intK a κ=(intK a some).bind κ:=by
 unfold intK
 split<;>rfl
theorem qky (Γ:Ctx)(s:Fr)(x:Option Operand)(κ:Option Int→Option α):optIntK Γ s x κ=(optIntK Γ s x some).bind κ:=by
 unfold optIntK
 split
 ·rw[qhf,qhf (κ:=fun n=>some (some n)),Option.bind_assoc];rfl
 ·rfl
theorem qmd (cs:List Cell)(κ:List Cell→Option α):restK cs κ=(restK cs some).bind κ:=by
 unfold restK
 split<;>rfl
theorem qhd (Γ:Ctx)(s:Fr)(fs:List TypeId)(ps:List (Nat×Operand))(κ:List (Nat×List Cell)→Option α):partsK Γ s fs ps κ=(partsK Γ s fs ps some).bind κ:=by
 induction ps generalizing α with
 | nil=>rfl
 | cons p ps ih=>
  obtain⟨i,x⟩:=p
  simp only[partsK]
  split
  ·rw[ih,ih (κ:=fun q=>some ((i,_)::q)),Option.bind_assoc];rfl
  ·rfl
theorem qcib (Γ:Ctx)(op:BinOp)(t:TypeId)(x y:Slot)(κ:Slot→Option α):binK Γ op t x y κ=(binK Γ op t x y some).bind κ:=by
 unfold binK
 split
 ·split
  ·split<;>rfl
  ·split<;>rfl
  ·split
   ·rw[qerb,qerb (κ:=fun v=>some (Slot.av (.one (.sc v)))),Option.bind_assoc];rfl
   ·rfl
 ·rw[qgib,qgib (κ:=fun v=>some (Slot.av (.one (.sc v)))),Option.bind_assoc];rfl
 ·split
  ·split<;>rfl
  ·rfl
 ·split
  ·split
   ·split<;>first | rfl | (rw[Option.bind_assoc];rfl)
   ·split
    ·split<;>first | rfl | (rw[Option.bind_assoc];rfl)
    ·rfl
  ·rfl
 ·rfl
abbrev pair (v:Slot)(s:Fr):Option (Slot×Fr):=some (v,s)
theorem qhmb {β:Type}(c:Cell)(x y:Option α)(f:α→Option β):(nilC c x y).bind f=nilC c (x.bind f) (y.bind f):=by
 unfold nilC
 split
 ·exact qma _ _ _ _
 ·exact qma _ _ _ _
 ·rfl
theorem qcqb (Γ:Ctx)(op:BinOp)(t:TypeId)(x:Slot)(κ:Slot→Option α):nilK Γ op t x κ=(nilK Γ op t x some).bind κ:=by
 unfold nilK
 split
 ·split
  ·rw[qhmb];rfl
  ·rw[qhmb];rfl
  ·rfl
 ·rfl
theorem qbjc (Γ:Ctx)(s:Fr)(src dst:TypeId)(x:Slot)(κ:Slot→Fr→Option α):qhxc Γ s src dst x κ=(qhxc Γ s src dst x pair).bind fun p=>κ p.1 p.2:=by
 unfold qhxc
 split
 ·split
  ·rfl
  ·rfl
  ·split
   ·rw[Option.bind_assoc];rfl
   ·rfl
  ·rfl
 ·rfl
theorem qbab (Γ:Ctx)(s:Fr)(b:Builtin)(ts:List TypeId)(xs:List Slot)(κ:Slot→Fr→Option α):qfv Γ s b ts xs κ=(qfv Γ s b ts xs pair).bind fun p=>κ p.1 p.2:=by
 unfold qfv
 split
 ·split
  ·split<;>first | rfl | (rw[Option.bind_assoc];rfl)
  ·rfl
 ·split
  ·split
   ·split
    ·simp only[Option.bind_assoc];rfl
    ·rfl
   ·rfl
  ·rfl
 ·split<;>rfl
 ·split<;>rfl
 ·rfl
theorem qme (Γ:Ctx)(ev:FuncId→List AV→List Entry→Option Res)(f:FuncId)(args:List AV)(H:List Entry)(κ:Slot→List Entry→Option α):
  callK Γ ev f args H κ=(callK Γ ev f args H fun v H=>some (v,H)).bind fun p=>κ p.1 p.2:=by
 unfold callK
 split
 ·split
  ·rw[Option.bind_assoc]
   congr 1
   funext q
   rw[qdg,qdg (κ:=fun xs=>some (qgj xs,_)),Option.bind_assoc];rfl
  ·split
   ·rw[Option.bind_assoc]
    congr 1
    funext q
    rw[qdg,qdg (κ:=fun xs=>some (qgj xs,_)),Option.bind_assoc];rfl
   ·rw[Option.bind_assoc]
    congr 1
    funext q
    rw[qdg,qdg (κ:=fun xs=>some (qgj xs,_)),Option.bind_assoc];rfl
  ·rw[Option.bind_assoc]
   congr 1
   funext q
   rw[qdg,qdg (κ:=fun xs=>some (qgj xs,_)),Option.bind_assoc];rfl
 ·rfl
theorem qoi {Γ:Ctx}{s:Fr}{fs:List TypeId}{ps:List (Nat×Operand)}{k1:List (Nat×List Cell)→Option α}{k2:List (Nat×List Cell)→Option β}{f:β→Option α}(h:∀ q,k1 q=(k2 q).bind f):
  partsK Γ s fs ps k1=(partsK Γ s fs ps k2).bind f:=by
 rw[qhd,qhd (κ:=k2),Option.bind_assoc];congr 1;funext q;exact h q
theorem qnn {a:Slot}{k1:Int→Option α}{k2:Int→Option β}{f:β→Option α}(h:∀ q,k1 q=(k2 q).bind f):intK a k1=(intK a k2).bind f:=by
 rw[qhf,qhf (κ:=k2),Option.bind_assoc];congr 1;funext q;exact h q
theorem qkx {Γ:Ctx}{s:Fr}{x:Option Operand}{k1:Option Int→Option α}{k2:Option Int→Option β}{f:β→Option α}(h:∀ q,k1 q=(k2 q).bind f):optIntK Γ s x k1=(optIntK Γ s x k2).bind f:=by
 rw[qky,qky (κ:=k2),Option.bind_assoc];congr 1;funext q;exact h q
theorem qzwb {cs:List Cell}{k1:List Cell→Option α}{k2:List Cell→Option β}{f:β→Option α}(h:∀ q,k1 q=(k2 q).bind f):restK cs k1=(restK cs k2).bind f:=by
 rw[qmd,qmd (κ:=k2),Option.bind_assoc];congr 1;funext q;exact h q
theorem qnub {t:Ty}{row:List Cell}{off:Nat}{k1:AV→Option α}{k2:AV→Option β}{f:β→Option α}(h:∀ q,k1 q=(k2 q).bind f):ldT t row off k1=(ldT t row off k2).bind f:=by
 rw[qrvb,qrvb (κ:=k2),Option.bind_assoc];congr 1;funext q;exact h q
theorem qxoc {s:Fr}{rt:Option Tmp}{a:Slot}{k1:List Cell→Nat→Option α}{k2:List Cell→Nat→Option β}{f:β→Option α}(h:∀ r o,k1 r o=(k2 r o).bind f):atK s rt a k1=(atK s rt a k2).bind f:=by
 rw[qoab,qoab (κ:=k2),Option.bind_assoc];congr 1;funext q;exact h _ _
theorem qpzb {i:Int}{k1:Nat→Option α}{k2:Nat→Option β}{f:β→Option α}(h:∀ q,k1 q=(k2 q).bind f):∀ n,arrK i k1 n=(arrK i k2 n).bind f
 | 0=>rfl
 | n+1=>by
  simp only[arrK]
  split
  ·exact h n
  ·exact qpzb h n
theorem qfa {γ:Type}{x:Option γ}{k1:γ→Option α}{k2:γ→Option β}{f:β→Option α}(h:∀ q,k1 q=(k2 q).bind f):x.bind k1=(x.bind k2).bind f:=by
 rw[Option.bind_assoc];congr 1;funext q;exact h q
theorem qij (Γ:Ctx)(fi:FI)(ev:FuncId→List AV→List Entry→Option Res)(all:List Oper)(o:Oper)(s:Fr)(κ:Slot→Fr→Option α):
  evOp Γ fi ev all o s κ=(evOp Γ fi ev all o s pair).bind fun p=>κ p.1 p.2:=by
 unfold evOp
 split
 ·split<;>rfl
 ·split<;>rfl
 ·split
  ·rw[qma]
   congr 1
   ·split<;>rfl
   ·split<;>rfl
  ·rfl
 ·split
  ·split
   ·rfl
   ·split<;>rfl
  ·rfl
 ·split<;>rfl
 ·split
  ·exact qfa fun q=>rfl
  ·rfl
 ·split
  ·exact qnn fun i=>qfa fun q=>rfl
  ·rfl
 ·split
  ·split
   ·split<;>rfl
   ·rfl
  ·rfl
 ·split
  ·split
   ·refine qoi fun q=>?_
    split<;>rfl
   ·split
    ·refine qoi fun q=>?_
     split<;>rfl
    ·rfl
   ·rfl
  ·rfl
 ·split
  ·split
   ·split
    ·refine qoi fun q=>?_
     split
     ·split
      ·rfl
      ·exact qzwb fun q=>rfl
     ·rfl
    ·rfl
   ·rfl
  ·rfl
 ·split
  ·exact qxoc fun r o=>qnub fun q=>rfl
  ·rfl
 ·split
  ·split
   ·split
    ·split<;>rfl
    ·exact qfa fun q=>rfl
    ·rfl
   ·rfl
  ·rfl
 ·split
  ·rfl
  ·exact qfa fun q=>rfl
  ·rfl
 ·split
  ·rw[qcqb,qcqb (κ:=fun v=>pair v s),Option.bind_assoc];rfl
  ·rw[qcib,qcib (κ:=fun v=>pair v s),Option.bind_assoc];rfl
 ·split<;>rfl
 ·exact qbjc _ _ _ _ _ _
 ·split
  ·split<;>rfl
  ·rfl
 ·split
  ·split
   ·refine qnn fun l=>qnn fun c=>?_
    split<;>rfl
   ·rfl
  ·rfl
 ·split
  ·refine qkx fun lo=>qkx fun hi=>qkx fun mx=>?_
   split
   ·exact qfa fun q=>rfl
   ·split
    ·split
     ·rfl
     ·exact qfa fun q=>rfl
    ·rfl
   ·rfl
  ·rfl
 ·split
  ·split
   ·split
    ·rfl
    ·exact qfa fun q=>rfl
    ·rfl
   ·rfl
  ·rfl
 ·split
  ·split
   ·split
    ·exact qnub fun q=>rfl
    ·rfl
   ·rfl
  ·rfl
 ·split
  ·refine qnn fun i=>?_
   split
   ·split
    ·exact qfa fun q=>rfl
    ·rfl
   ·split
    ·refine qpzb ?_ _;exact fun q=>rfl
    ·rfl
   ·split
    ·split
     ·exact qfa fun q=>rfl
     ·rfl
    ·rfl
   ·rfl
  ·rfl
 ·split
  ·refine qnn fun i=>?_
   split
   ·exact qfa fun q=>rfl
   ·split
    ·split
     ·exact qnub fun q=>rfl
     ·rfl
    ·rfl
   ·rfl
  ·rfl
 ·split
  ·split<;>rfl
  ·rfl
 ·split
  ·exact qbab _ _ _ _ _ _
  ·split
   ·split
    ·rw[qme,qme (κ:=fun v H=>pair v (s.setH H)),Option.bind_assoc];rfl
    ·rfl
   ·rfl
  ·rfl
 ·rfl
theorem qltc {Γ:Ctx}{fi:FI}{ev:FuncId→List AV→List Entry→Option Res}{all:List Oper}{o:Oper}{s:Fr}{k1:Slot→Fr→Option α}{k2:Slot→Fr→Option β}{f:β→Option α}(h:∀ v s,k1 v s=(k2 v s).bind f):
  evOp Γ fi ev all o s k1=(evOp Γ fi ev all o s k2).bind f:=by
 rw[qij,qij (κ:=k2),Option.bind_assoc];congr 1;funext q;exact h _ _
end
end Go.Ev
