/- Conditions: none. -/
import Derived.Test.YtholafaogipaiaaGreatDoorEvK
namespace Go.Ev
open Go
section
variable {α β:Type}
theorem qkx {γ:Type}(c:Bool)(x y:Option γ)(f:γ→Option α):(cond c x y).bind f=cond c (x.bind f) (y.bind f):=by cases c<;>rfl
theorem qkl (kd:Kd)(row:List Cell)(off:Nat)(κ:Cell→Option α):ldK kd row off κ=(ldK kd row off some).bind κ:=by
 cases kd<;>simp[ldK,Option.bind_assoc]
theorem qrl (ks:List Kd)(row:List Cell)(off:Nat)(κ:List Cell→Option α):ldL ks row off κ=(ldL ks row off some).bind κ:=by
 induction ks generalizing off α with
 | nil=>simp[ldL]
 | cons k ks ih=>
  simp only[ldL]
  rw[qkl,qkl (κ:=fun c=>ldL ks row (off+1) fun cs=>some (c::cs)),Option.bind_assoc]
  congr 1
  funext c
  rw[ih,ih (κ:=fun cs=>some (c::cs)),Option.bind_assoc]
  rfl
theorem qnrb (t:Ty)(row:List Cell)(off:Nat)(κ:AV→Option α):ldT t row off κ=(ldT t row off some).bind κ:=by
 unfold ldT
 split
 ·rw[qrl,qrl (κ:=fun cs=>some (AV.agg cs)),Option.bind_assoc];rfl
 ·rw[qkl,qkl (κ:=fun c=>some (AV.one c)),Option.bind_assoc];rfl
theorem qzk (rk:List (Bool×List Kd))(r:List AV)(i:Nat)(κ:List AV→Option α):resL rk r i κ=(resL rk r i some).bind κ:=by
 induction rk generalizing i α with
 | nil=>rfl
 | cons k rk ih=>
  obtain⟨b,ks⟩:=k
  cases b with
  | true=>
   simp only[resL]
   rw[qrl,qrl (κ:=fun cs=>resL rk r (i+1) fun ys=>some (AV.agg cs::ys)),Option.bind_assoc]
   congr 1
   funext c
   rw[ih,ih (κ:=fun ys=>some (AV.agg c::ys)),Option.bind_assoc]
   rfl
  | false=>
   simp only[resL]
   rw[qkl,qkl (κ:=fun c=>resL rk r (i+1) fun ys=>some (AV.one c::ys)),Option.bind_assoc]
   congr 1
   funext c
   rw[ih,ih (κ:=fun ys=>some (AV.one c::ys)),Option.bind_assoc]
   rfl
theorem qcx (rk:List (Bool×List Kd))(xs:List AV)(κ:List AV→Option α):resK rk xs κ=(resK rk xs some).bind κ:=by
 unfold resK
 rw[qkx,qzk]
 rfl
theorem qgab (op:BinOp)(k:IntKind)(a b:Int)(κ:Value→Option α):intOp op k a b κ=(intOp op k a b some).bind κ:=by
 unfold intOp
 split<;>first | rfl | (split<;>rfl)
theorem qgkb (op:BinOp)(x y:ByteArray)(κ:Value→Option α):strOp op x y κ=(strOp op x y some).bind κ:=by
 unfold strOp
 split<;>first | rfl | (rw[Option.bind_assoc];rfl)
theorem qoqb (s:Fr)(rt:Option Tmp)(a:Slot)(κ:List Cell→Nat→Option α):atK s rt a κ=(atK s rt a fun r o=>some (r,o)).bind fun p=>κ p.1 p.2:=by
 unfold atK
 split
 ·split<;>rfl
 ·rw[Option.bind_assoc];rfl
 ·rfl
theorem qfy (a:Slot)(κ:Int→Option α):intK a κ=(intK a some).bind κ:=by
 unfold intK
 split<;>rfl
theorem qjz (Γ:Ctx)(s:Fr)(x:Option Operand)(κ:Option Int→Option α):optIntK Γ s x κ=(optIntK Γ s x some).bind κ:=by
 unfold optIntK
 split
 ·rw[qfy,qfy (κ:=fun n=>some (some n)),Option.bind_assoc];rfl
 ·rfl
theorem qkz (cs:List Cell)(κ:List Cell→Option α):restK cs κ=(restK cs some).bind κ:=by
 unfold restK
 split<;>rfl
theorem qge (Γ:Ctx)(s:Fr)(fs:List TypeId)(ps:List (Nat×Operand))(κ:List (Nat×List Cell)→Option α):partsK Γ s fs ps κ=(partsK Γ s fs ps some).bind κ:=by
 induction ps generalizing α with
 | nil=>rfl
 | cons p ps ih=>
  obtain⟨i,x⟩:=p
  simp only[partsK]
  split
  ·rw[ih,ih (κ:=fun q=>some ((i,_)::q)),Option.bind_assoc];rfl
  ·rfl
theorem qayb (Γ:Ctx)(op:BinOp)(t:TypeId)(x y:Slot)(κ:Slot→Option α):binK Γ op t x y κ=(binK Γ op t x y some).bind κ:=by
 unfold binK
 split
 ·split
  ·split<;>rfl
  ·split<;>rfl
  ·split
   ·rw[qgab,qgab (κ:=fun v=>some (Slot.av (.one (.sc v)))),Option.bind_assoc];rfl
   ·rfl
 ·rw[qgkb,qgkb (κ:=fun v=>some (Slot.av (.one (.sc v)))),Option.bind_assoc];rfl
 ·split
  ·split<;>rfl
  ·rfl
 ·split
  ·split
   ·split<;>first | rfl | (rw[Option.bind_assoc];rfl)
   ·split
    ·split<;>first | rfl | (rw[Option.bind_assoc];rfl)
    ·rfl
  ·rfl
 ·rfl
abbrev pair (v:Slot)(s:Fr):Option (Slot×Fr):=some (v,s)
theorem qfqb {β:Type}(c:Cell)(x y:Option α)(f:α→Option β):(nilC c x y).bind f=nilC c (x.bind f) (y.bind f):=by
 unfold nilC
 split
 ·exact qkx _ _ _ _
 ·exact qkx _ _ _ _
 ·rfl
theorem qadb (Γ:Ctx)(op:BinOp)(t:TypeId)(x:Slot)(κ:Slot→Option α):nilK Γ op t x κ=(nilK Γ op t x some).bind κ:=by
 unfold nilK
 split
 ·split
  ·rw[qfqb];rfl
  ·rw[qfqb];rfl
  ·rfl
 ·rfl
theorem convK_nat (Γ:Ctx)(s:Fr)(src dst:TypeId)(x:Slot)(κ:Slot→Fr→Option α):convK Γ s src dst x κ=(convK Γ s src dst x pair).bind fun p=>κ p.1 p.2:=by
 unfold convK
 split
 ·split
  ·rfl
  ·rfl
  ·split
   ·rw[Option.bind_assoc];rfl
   ·rfl
  ·rfl
 ·rfl
theorem qblb (Γ:Ctx)(s:Fr)(b:Builtin)(ts:List TypeId)(xs:List Slot)(κ:Slot→Fr→Option α):qff Γ s b ts xs κ=(qff Γ s b ts xs pair).bind fun p=>κ p.1 p.2:=by
 unfold qff
 split
 ·split
  ·split<;>first | rfl | (rw[Option.bind_assoc];rfl)
  ·rfl
 ·split
  ·split
   ·split
    ·simp only[Option.bind_assoc];rfl
    ·rfl
   ·rfl
  ·rfl
 ·split<;>rfl
 ·split<;>rfl
 ·rfl
theorem qkv (Γ:Ctx)(ev:FuncId→List AV→List Entry→Option Res)(f:FuncId)(args:List AV)(H:List Entry)(κ:Slot→List Entry→Option α):
  callK Γ ev f args H κ=(callK Γ ev f args H fun v H=>some (v,H)).bind fun p=>κ p.1 p.2:=by
 unfold callK
 split
 ·split
  ·rw[Option.bind_assoc]
   congr 1
   funext q
   rw[qcx,qcx (κ:=fun xs=>some (qgl xs,_)),Option.bind_assoc];rfl
  ·split
   ·rw[Option.bind_assoc]
    congr 1
    funext q
    rw[qcx,qcx (κ:=fun xs=>some (qgl xs,_)),Option.bind_assoc];rfl
   ·rw[Option.bind_assoc]
    congr 1
    funext q
    rw[qcx,qcx (κ:=fun xs=>some (qgl xs,_)),Option.bind_assoc];rfl
  ·rw[Option.bind_assoc]
   congr 1
   funext q
   rw[qcx,qcx (κ:=fun xs=>some (qgl xs,_)),Option.bind_assoc];rfl
 ·rfl
theorem qlu {Γ:Ctx}{s:Fr}{fs:List TypeId}{ps:List (Nat×Operand)}{k1:List (Nat×List Cell)→Option α}{k2:List (Nat×List Cell)→Option β}{f:β→Option α}(h:∀ q,k1 q=(k2 q).bind f):
  partsK Γ s fs ps k1=(partsK Γ s fs ps k2).bind f:=by
 rw[qge,qge (κ:=k2),Option.bind_assoc];congr 1;funext q;exact h q
theorem qln {a:Slot}{k1:Int→Option α}{k2:Int→Option β}{f:β→Option α}(h:∀ q,k1 q=(k2 q).bind f):intK a k1=(intK a k2).bind f:=by
 rw[qfy,qfy (κ:=k2),Option.bind_assoc];congr 1;funext q;exact h q
theorem qjs {Γ:Ctx}{s:Fr}{x:Option Operand}{k1:Option Int→Option α}{k2:Option Int→Option β}{f:β→Option α}(h:∀ q,k1 q=(k2 q).bind f):optIntK Γ s x k1=(optIntK Γ s x k2).bind f:=by
 rw[qjz,qjz (κ:=k2),Option.bind_assoc];congr 1;funext q;exact h q
theorem restK_two {cs:List Cell}{k1:List Cell→Option α}{k2:List Cell→Option β}{f:β→Option α}(h:∀ q,k1 q=(k2 q).bind f):restK cs k1=(restK cs k2).bind f:=by
 rw[qkz,qkz (κ:=k2),Option.bind_assoc];congr 1;funext q;exact h q
theorem qtab {t:Ty}{row:List Cell}{off:Nat}{k1:AV→Option α}{k2:AV→Option β}{f:β→Option α}(h:∀ q,k1 q=(k2 q).bind f):ldT t row off k1=(ldT t row off k2).bind f:=by
 rw[qnrb,qnrb (κ:=k2),Option.bind_assoc];congr 1;funext q;exact h q
theorem atK_two {s:Fr}{rt:Option Tmp}{a:Slot}{k1:List Cell→Nat→Option α}{k2:List Cell→Nat→Option β}{f:β→Option α}(h:∀ r o,k1 r o=(k2 r o).bind f):atK s rt a k1=(atK s rt a k2).bind f:=by
 rw[qoqb,qoqb (κ:=k2),Option.bind_assoc];congr 1;funext q;exact h _ _
theorem qpub {i:Int}{k1:Nat→Option α}{k2:Nat→Option β}{f:β→Option α}(h:∀ q,k1 q=(k2 q).bind f):∀ n,arrK i k1 n=(arrK i k2 n).bind f
 | 0=>rfl
 | n+1=>by
  simp only[arrK]
  split
  ·exact h n
  ·exact qpub h n
theorem qej {γ:Type}{x:Option γ}{k1:γ→Option α}{k2:γ→Option β}{f:β→Option α}(h:∀ q,k1 q=(k2 q).bind f):x.bind k1=(x.bind k2).bind f:=by
 rw[Option.bind_assoc];congr 1;funext q;exact h q
theorem qjl (Γ:Ctx)(fi:FI)(ev:FuncId→List AV→List Entry→Option Res)(all:List Oper)(o:Oper)(s:Fr)(κ:Slot→Fr→Option α):
  evOp Γ fi ev all o s κ=(evOp Γ fi ev all o s pair).bind fun p=>κ p.1 p.2:=by
 unfold evOp
 split
 ·split<;>rfl
 ·split<;>rfl
 ·split
  ·rw[qkx]
   congr 1
   ·split<;>rfl
   ·split<;>rfl
  ·rfl
 ·split
  ·split
   ·rfl
   ·split<;>rfl
  ·rfl
 ·split<;>rfl
 ·split
  ·exact qej fun q=>rfl
  ·rfl
 ·split
  ·exact qln fun i=>qej fun q=>rfl
  ·rfl
 ·split
  ·split
   ·split<;>rfl
   ·rfl
  ·rfl
 ·split
  ·split
   ·refine qlu fun q=>?_
    split<;>rfl
   ·split
    ·refine qlu fun q=>?_
     split<;>rfl
    ·rfl
   ·rfl
  ·rfl
 ·split
  ·split
   ·split
    ·refine qlu fun q=>?_
     split
     ·split
      ·rfl
      ·exact restK_two fun q=>rfl
     ·rfl
    ·rfl
   ·rfl
  ·rfl
 ·split
  ·exact atK_two fun r o=>qtab fun q=>rfl
  ·rfl
 ·split
  ·split
   ·split
    ·split<;>rfl
    ·exact qej fun q=>rfl
    ·rfl
   ·rfl
  ·rfl
 ·split
  ·rfl
  ·exact qej fun q=>rfl
  ·rfl
 ·split
  ·rw[qadb,qadb (κ:=fun v=>pair v s),Option.bind_assoc];rfl
  ·rw[qayb,qayb (κ:=fun v=>pair v s),Option.bind_assoc];rfl
 ·split<;>rfl
 ·exact convK_nat _ _ _ _ _ _
 ·split
  ·split<;>rfl
  ·rfl
 ·split
  ·split
   ·refine qln fun l=>qln fun c=>?_
    split<;>rfl
   ·rfl
  ·rfl
 ·split
  ·refine qjs fun lo=>qjs fun hi=>qjs fun mx=>?_
   split
   ·exact qej fun q=>rfl
   ·split
    ·split
     ·rfl
     ·exact qej fun q=>rfl
    ·rfl
   ·rfl
  ·rfl
 ·split
  ·split
   ·split
    ·rfl
    ·exact qej fun q=>rfl
    ·rfl
   ·rfl
  ·rfl
 ·split
  ·split
   ·split
    ·exact qtab fun q=>rfl
    ·rfl
   ·rfl
  ·rfl
 ·split
  ·refine qln fun i=>?_
   split
   ·split
    ·exact qej fun q=>rfl
    ·rfl
   ·split
    ·refine qpub ?_ _;exact fun q=>rfl
    ·rfl
   ·split
    ·split
     ·exact qej fun q=>rfl
     ·rfl
    ·rfl
   ·rfl
  ·rfl
 ·split
  ·refine qln fun i=>?_
   split
   ·exact qej fun q=>rfl
   ·split
    ·split
     ·exact qtab fun q=>rfl
     ·rfl
    ·rfl
   ·rfl
  ·rfl
 ·split
  ·split<;>rfl
  ·rfl
 ·split
  ·exact qblb _ _ _ _ _ _
  ·split
   ·split
    ·rw[qkv,qkv (κ:=fun v H=>pair v (s.setH H)),Option.bind_assoc];rfl
    ·rfl
   ·rfl
  ·rfl
 ·rfl
theorem evOp_two {Γ:Ctx}{fi:FI}{ev:FuncId→List AV→List Entry→Option Res}{all:List Oper}{o:Oper}{s:Fr}{k1:Slot→Fr→Option α}{k2:Slot→Fr→Option β}{f:β→Option α}(h:∀ v s,k1 v s=(k2 v s).bind f):
  evOp Γ fi ev all o s k1=(evOp Γ fi ev all o s k2).bind f:=by
 rw[qjl,qjl (κ:=k2),Option.bind_assoc];congr 1;funext q;exact h _ _
end
end Go.Ev
