/- The definitions of an abstract evaluator over the model's code: abstract cells, a small abstract heap, one operation at a time. No program occurs here; no conditions. -/
import Derived.Calls
import Derived.Orders
import Derived.Below
import Derived.Laws.Sem
import Derived.Laws.World
namespace Go.Ev
open Go
inductive Cell where
 | sc (v:Value)
 | lst (full:Bool) (sz:Nat) (rows:List (List Cell))
 | vs (id sz off len ep:Nat)
 | ptr (id sz idx off ep:Nat)
 | ref (row:List Cell) (off:Nat)
 | fn (f:FuncId) (first caps:List Cell)
 | mp (id ep:Nat)
 | bl (T e id ep:Nat)
inductive AV where
 | one (c:Cell)
 | agg (cs:List Cell)
inductive Slot where
 | av (x:AV)
 | tup (xs:List AV)
 | loc (t off:Nat)
 | skip
 | undef
 | anyb
structure Entry where
 sz:Nat
 rows:List (List Cell)
 ep:Nat
 fr:Bool
structure Fr where
 T:List Slot
 X:List (List Cell)
 H:List Entry
inductive Kd where
 | bool
 | int (k:IntKind)
 | str
 | slice (e:TypeId)
 | ptr (e:TypeId)
 | func
 | map (k e:TypeId)
 | bld (e:TypeId)
 | struct (fs:List (Nat×TypeId))
 | array (n:Nat) (e:TypeId)
structure Ty where
 kd:Kd
 size:Nat
 bytes:Nat
 cells:List Kd
 zero:List Cell
inductive Mode where
 | pure
 | fresh
 | ref
structure FI where
 code:Code
 ntmps:Nat
 res:List ResultVar
 rkd:List (Bool×List Kd)
 locs:List Nat
 keep:List (Nat×List Nat)
 joins:List (Nat×List Nat)
 deep:Bool
 mode:Mode
 lits:Bool
 loose:Bool
 bare:Bool
abbrev Res:=List AV×List Entry
structure Ctx where
 ty:TypeId→Option Ty
 fi:FuncId→Option FI
 prim:FuncId→Option (List AV→List Entry→Option Res)
def mapO {α β:Type}(f:α→Option β):List α→Option (List β)
 | []=>some []
 | x::xs=>
  match f x with
  | some y=>match mapO f xs with
   | some ys=>some (y::ys)
   | none=>none
  | none=>none
abbrev Cell.int (n:Int):Cell:=.sc (.int .i64 n)
abbrev Cell.str (s:ByteArray):Cell:=.sc (.string s)
abbrev Cell.bool (b:Bool):Cell:=.sc (.bool b)
def AV.cells:AV→List Cell | .one c=>[c] | .agg cs=>cs
def lenC:Cell→Option Nat | .lst _ _ rows=>some rows.length | .vs _ _ _ len _=>some len | _=>none
def entry? (H:List Entry)(id ep:Nat):Option Entry:=
 match H[id]? with
 | some e=>if e.ep=ep then some e else none
 | none=>none
def rowsOf (H:List Entry)(s:Nat):Cell→Option (List (List Cell))
 | .lst _ sz rows=>if sz=s then some rows else if rows.isEmpty then some [] else none
 | .vs id sz off len ep=>
  if sz=s then
   match entry? H id ep with
   | some e=>if off+len≤e.rows.length then some ((e.rows.drop off).take len) else none
   | none=>none
  else none
 | _=>none
def idxA (s:Nat)(x:Cell)(i:Int):Option Cell:=
 match x with
 | .lst _ sz rows=>if sz=s then (if 0≤i∧i < rows.length then some (.ref (rows.getD i.toNat []) 0) else none) else none
 | .vs id sz off len ep=>if sz=s then (if 0≤i∧i < len then some (.ptr id sz (off+i.toNat) 0 ep) else none) else none
 | _=>none
def fldA (c:Cell)(o:Nat):Option Cell:=
 match c with
 | .ref row off=>some (.ref row (off+o))
 | .ptr id sz idx off ep=>some (.ptr id sz idx (off+o) ep)
 | _=>none
def ptrC:Cell→Option Cell | .ref row off=>some (.ref row off) | .ptr id sz idx off ep=>some (.ptr id sz idx off ep) | .fn f a b=>some (.fn f a b) | .bl T e id ep=>some (.bl T e id ep) | _=>none
def deref (H:List Entry):Cell→Option (List Cell×Nat)
 | .ref row off=>some (row,off)
 | .ptr id _ idx off ep=>
  match entry? H id ep with
  | some e=>match e.rows[idx]? with
   | some row=>some (row,off)
   | none=>none
  | none=>none
 | _=>none
def qya (full:Bool)(mx:Option Int)(h len:Int):Bool:=
 match mx with
 | some m=>decide (m=h)
 | none=>full&&decide (h=len)
def slcC (s:Nat)(x:Cell)(l:Int)(hi mx:Option Int):Option Cell:=
 match x with
 | .lst full sz rows=>
  let h:Int:=hi.getD rows.length
  let m:Int:=mx.getD rows.length
  if sz=s∨rows=[] then
   if 0≤l∧l≤h∧h≤m∧m≤rows.length then
    some (.lst (qya full mx h rows.length) s ((rows.drop l.toNat).take (h - l).toNat))
   else none
  else none
 | .vs id sz off len ep=>
  let h:Int:=hi.getD len
  let m:Int:=mx.getD len
  if sz=s then
   if 0≤l∧l≤h∧h≤m∧m≤len then
    if l=0∨l < h then some (.vs id sz (off+l.toNat) (h - l).toNat ep) else some (.lst false s [])
   else none
  else none
 | _=>none
def bound:Nat:=35184372088832
def app (H:List Entry)(s bytes:Nat)(x:Cell)(ys:List (List Cell)):Option (Cell×List Entry):=
 match x with
 | .lst full sz rows=>
  if ys.isEmpty then some (x,H)
  else if full=true∧(sz=s∨rows=[])∧(rows.length+ys.length)*bytes≤bound∧rows.length+ys.length≤bound then
   some (.vs H.length s 0 (rows.length+ys.length) 0,H++[⟨s,rows++ys,0,false⟩])
  else none
 | .vs id sz off len ep=>
  match entry? H id ep with
  | some e=>
   if sz=s∧off+len≤e.rows.length∧(off+len=e.rows.length∨e.fr=false)∧(len+ys.length)*bytes≤bound∧len+ys.length≤bound then
    some (.vs id s 0 (len+ys.length) (ep+1),H.set id ⟨s,(e.rows.drop off).take len++ys,ep+1,e.fr⟩)
   else none
  | none=>none
 | _=>none
def splice (row:List Cell)(off:Nat)(cs:List Cell):List Cell:=row.take off++cs++row.drop (off+cs.length)
def qbu (H:List Entry)(c:Cell)(cs:List Cell):Option (List Entry):=
 match c with
 | .ptr id sz idx off ep=>
  match entry? H id ep with
  | some e=>match e.rows[idx]? with
   | some row=>if e.fr=false∧off+cs.length≤sz∧e.sz=sz then some (H.set id ⟨e.sz,e.rows.set idx (splice row off cs),e.ep,false⟩) else none
   | none=>none
  | none=>none
 | _=>none
def qfkb:Cell→Option Cell | .sc v=>some (.sc v) | .lst f sz rows=>some (.lst f sz rows) | _=>none
mutual
def norm:Cell→Cell
 | .lst _ sz rows=>.lst false sz (normRows rows)
 | .sc v=>.sc v
 | .vs id sz off len ep=>.vs id sz off len ep
 | .ptr id sz idx off ep=>.ptr id sz idx off ep
 | .ref row off=>.ref row off
 | .fn f a b=>.fn f a b
 | .mp id ep=>.mp id ep
 | .bl T e id ep=>.bl T e id ep
def normRows:List (List Cell)→List (List Cell)
 | []=>[]
 | r::rs=>normRow r::normRows rs
def normRow:List Cell→List Cell
 | []=>[]
 | c::cs=>norm c::normRow cs
end
def qeuc (c:Cell):Option Cell:=(qfkb c).map norm
def reify (chk:Bool)(H:List Entry):Nat→Cell→Option Cell
 | 0,c=>qeuc c
 | n+1,c=>
  match c with
  | .vs id sz off len ep=>
   match entry? H id ep with
   | some e=>
    if (chk=true→e.fr=true)∧off+len≤e.rows.length then
     (mapO (mapO (reify chk H n)) ((e.rows.drop off).take len)).map (.lst false sz)
    else none
   | none=>none
  | c=>qeuc c
def qep:Nat→List Entry→Cell→List Entry
 | 0,H,_=>H
 | n+1,H,c=>
  match c with
  | .vs id _ _ _ _=>
   match H[id]? with
   | some e=>e.rows.foldl (fun H row=>row.foldl (qep n) H) (H.set id ⟨e.sz,e.rows,e.ep,true⟩)
   | none=>H
  | _=>H
def depth:Nat:=4194304
def qal (chk:Bool)(H:List Entry):AV→Option AV | .one c=>(reify chk H depth c).map .one | .agg cs=>(mapO (reify chk H depth) cs).map .agg
def qdf (H:List Entry)(x:AV):List Entry:=x.cells.foldl (qep depth) H
def qbc (ev:List AV→List Entry→Option Res)(args:List AV)(H:List Entry):Option (List AV):=
 match mapO (qal false H) args with
 | some as=>match ev as [] with
  | some r=>some r.1
  | none=>none
 | none=>none
def callL (ev:List AV→List Entry→Option Res)(args:List AV)(H:List Entry):Option Res:=
 let H1:=args.foldl qdf H
 match mapO (qal true H1) args with
 | some as=>match ev as [] with
  | some r=>match mapO (qal false r.2) r.1 with
   | some xs=>some (xs,H1)
   | none=>none
  | none=>none
 | none=>none
def qhr (k:Nat):Nat→Cell→Cell | 0,c=>c | _,.vs id sz off len ep=>.vs (id+k) sz off len ep | _,c=>c
def qim (k:Nat)(e:Entry):Entry:=⟨e.sz,e.rows.map (·.map (qhr k 1)),e.ep,e.fr⟩
def noMem:Cell→Bool | .sc _=>true | .vs _ _ _ _ _=>true | .lst _ _ rows=>rows.isEmpty | _=>false
def qfn (E:List Entry):Nat→Cell→List Nat | n+1,.vs id _ _ _ _=>id::(match E[id]? with | some e=>e.rows.flatMap fun row=>row.flatMap (qfn E n) | none=>[]) | _,_=>[]
def okD (E:List Entry):Nat→Cell→Bool
 | _,.sc _=>true
 | _,.lst _ _ rows=>rows.isEmpty
 | n+1,.vs id _ _ _ _=>match E[id]? with
  | some e=>e.rows.all fun row=>row.all (okD E n)
  | none=>false
 | _,_=>false
def qhs (r:Res):List Nat:=r.1.flatMap fun x=>x.cells.flatMap (qfn r.2 4194306)
def clean (S:List Nat)(E:List Entry):List Entry:=E.mapIdx fun i e=>cond (S.contains i) e ⟨e.sz,[],e.ep,e.fr⟩
def qsec (r:Res):Bool:=r.1.all fun x=>x.cells.all (okD r.2 4194306)
def qfd (ev:List AV→List Entry→Option Res)(args:List AV)(H:List Entry):Option Res:=
 match mapO (qal false H) args with
 | some as=>match ev as [] with
  | some r=>
   if qsec r then
    some (r.1.map fun x=>match x with
     | .one c=>.one (qhr H.length 1 c)
     | .agg cs=>.agg (cs.map (qhr H.length 1)),H++(clean (qhs r) r.2).map (qim H.length))
   else none
  | none=>none
 | none=>none
def cB (row:List Cell)(off:Nat):Option Bool:=
 match row[off]? with
 | some (.sc (.bool b))=>some b
 | _=>none
def cI (k:IntKind)(row:List Cell)(off:Nat):Option Int:=
 match row[off]? with
 | some (.sc (.int k' n))=>if k=k' then some n else none
 | _=>none
def cS (row:List Cell)(off:Nat):Option ByteArray:=
 match row[off]? with
 | some (.sc (.string s))=>some s
 | _=>none
def cC (row:List Cell)(off:Nat):Option Cell:=row[off]?
variable {α:Type}
def ldK (kd:Kd)(row:List Cell)(off:Nat)(κ:Cell→Option α):Option α:=
 match kd with
 | .bool=>(cB row off).bind fun b=>κ (.sc (.bool b))
 | .int k=>(cI k row off).bind fun n=>κ (.sc (.int k n))
 | .str=>(cS row off).bind fun s=>κ (.sc (.string s))
 | _=>(cC row off).bind κ
def ldL:List Kd→List Cell→Nat→(List Cell→Option α)→Option α | [],_,_,κ=>κ [] | k::ks,row,off,κ=>ldK k row off fun c=>ldL ks row (off+1) fun cs=>κ (c::cs)
def Ty.listy (t:Ty):Bool:=
 match t.kd with
 | .slice _=>true
 | .str=>true
 | _=>false
def Ty.isAgg (t:Ty):Bool:=
 match t.kd with
 | .struct _=>true
 | .array _ _=>true
 | .bld _=>true
 | _=>false
def ldT (t:Ty)(row:List Cell)(off:Nat)(κ:AV→Option α):Option α:=if t.isAgg then ldL t.cells row off fun cs=>κ (.agg cs) else ldK t.kd row off fun c=>κ (.one c)
def qaa (r:List AV)(i:Nat):List Cell:=
 match r[i]? with
 | some x=>x.cells
 | none=>[]
def qab:List (Bool×List Kd)→List AV→Bool | [],[]=>true | (true,ks)::r,.agg cs::xs=>cs.length==ks.length&&qab r xs | (false,[_])::r,.one _::xs=>qab r xs | _,_=>false
def resL:List (Bool×List Kd)→List AV→Nat→(List AV→Option α)→Option α | [],_,_,κ=>κ [] | (true,ks)::rk,r,i,κ=>ldL ks (qaa r i) 0 fun cs=>resL rk r (i+1) fun ys=>κ (.agg cs::ys) | (false,ks)::rk,r,i,κ=>ldK (ks.headD .bool) (qaa r i) 0 fun c=>resL rk r (i+1) fun ys=>κ (.one c::ys)
def resK (rk:List (Bool×List Kd))(r:List AV)(κ:List AV→Option α):Option α:=cond (qab rk r) (resL rk r 0 κ) none
def qgj:List AV→Slot | [x]=>.av x | xs=>.tup xs
def Kd.plain:Kd→Bool | .bool=>true | .int _=>true | .str=>true | _=>false
def scalars (rk:List (Bool×List Kd)):Bool:=rk.all fun r=>r.2.all Kd.plain
def callK (Γ:Ctx)(ev:FuncId→List AV→List Entry→Option Res)(f:FuncId)(args:List AV)(H:List Entry)(κ:Slot→List Entry→Option α):Option α:=
 match Γ.fi f with
 | some fi=>
  match fi.mode with
  | .ref=>(ev f args H).bind fun r=>resK fi.rkd r.1 fun xs=>κ (qgj xs) r.2
  | .pure=>
   if scalars fi.rkd then (qbc (ev f) args H).bind fun r=>resK fi.rkd r fun xs=>κ (qgj xs) H
   else (callL (ev f) args H).bind fun r=>resK fi.rkd r.1 fun xs=>κ (qgj xs) r.2
  | .fresh=>(qfd (ev f) args H).bind fun r=>resK fi.rkd r.1 fun xs=>κ (qgj xs) r.2
 | none=>none
def catS (x y:ByteArray):Option ByteArray:=if x.size+y.size≤9223372036854775807 then some (x++y) else none
def shlI (k:IntKind)(a b:Int):Int:=k.wrap (a*2 ^ (min b.toNat k.bits))
def shrI (k:IntKind)(a b:Int):Int:=a.fdiv (2 ^ (min b.toNat k.bits))
def andI (k:IntKind)(a b:Int):Int:=k.wrap ((BitVec.ofInt k.bits a&&& BitVec.ofInt k.bits b).toNat)
def orI (k:IntKind)(a b:Int):Int:=k.wrap ((BitVec.ofInt k.bits a||| BitVec.ofInt k.bits b).toNat)
def xorI (k:IntKind)(a b:Int):Int:=k.wrap ((BitVec.ofInt k.bits a ^^^ BitVec.ofInt k.bits b).toNat)
def qshc (op:BinOp)(k:IntKind)(a b:Int)(κ:Value→Option α):Option α:=
 match op with
 | .add=>κ (.int k (k.wrap (a+b)))
 | .sub=>κ (.int k (k.wrap (a - b)))
 | .mul=>κ (.int k (k.wrap (a*b)))
 | .quo=>if b=0 then none else κ (.int k (k.wrap (a.tdiv b)))
 | .rem=>if b=0 then none else κ (.int k (a.tmod b))
 | .and=>κ (.int k (andI k a b))
 | .or=>κ (.int k (orI k a b))
 | .xor=>κ (.int k (xorI k a b))
 | .eql=>κ (.bool (a==b))
 | .neq=>κ (.bool (a != b))
 | .lss=>κ (.bool (decide (a < b)))
 | .leq=>κ (.bool (decide (a≤b)))
 | .gtr=>κ (.bool (decide (a > b)))
 | .geq=>κ (.bool (decide (a≥b)))
 | _=>none
def qsdc (op:BinOp)(x y:ByteArray)(κ:Value→Option α):Option α:=
 match op with
 | .add=>(catS x y).bind fun z=>κ (.string z)
 | .eql=>κ (.bool (x.toList==y.toList))
 | .neq=>κ (.bool (!(x.toList==y.toList)))
 | .lss=>κ (.bool (Op.bytesLess x.toList y.toList))
 | .leq=>κ (.bool (Op.bytesLess x.toList y.toList||x.toList==y.toList))
 | .gtr=>κ (.bool (!(Op.bytesLess x.toList y.toList||x.toList==y.toList)))
 | .geq=>κ (.bool (!Op.bytesLess x.toList y.toList))
 | _=>none
def qmsb:Kd→Cell→Cell→Option Bool | .str,.sc (.string a),.sc (.string b)=>some (a.toList==b.toList) | .int q,.sc (.int k a),.sc (.int k' b)=>if k=q∧k'=q then some (a==b) else none | .bool,.sc (.bool a),.sc (.bool b)=>some (a==b) | _,_,_=>none
def qdk:List Kd→List Cell→List Cell→Option Bool
 | [],[],[]=>some true
 | k::ks,c::cs,d::ds=>
  match qmsb k c d with
  | some b=>match qdk ks cs ds with
   | some e=>some (b&&e)
   | none=>none
  | none=>none
 | _,_,_=>none
def bytS (s:ByteArray)(i:Int):Option Int:=if 0≤i∧i < s.size then some ((s.data.toList.getD i.toNat 0).toNat:Int) else none
def subS (s:ByteArray)(l h:Int):Option ByteArray:=if 0≤l∧l≤h∧h≤s.size then some (s.extract l.toNat h.toNat) else none
def qgr (s:ByteArray):List (List Cell):=s.data.toList.map fun b=>[.sc (.int .u8 b.toNat)]
def qah (H:List Entry)(s:Nat):Cell→Option (List (List Cell)) | .sc (.string b)=>if s=1 then some (qgr b) else none | c=>rowsOf H s c
def qdd (n:Nat)(row:List Cell):List (List Cell):=List.replicate n row
def Fr.slot (s:Fr)(t:Nat):Slot:=s.T.getD t .undef
def Fr.put (s:Fr)(d:Option Tmp)(v:Slot):Fr:=
 match d with
 | some d=>⟨s.T.set d v,s.X,s.H⟩
 | none=>s
def Fr.setX (s:Fr)(t:Nat)(cs:List Cell):Fr:=⟨s.T,s.X.set t cs,s.H⟩
def Fr.setH (s:Fr)(H:List Entry):Fr:=⟨s.T,s.X,H⟩
def qst (sz:Nat):Value→Slot | .slice none 0 0=>.av (.one (.lst true sz [])) | .agg cs=>if cs.toList.all Value.oneCell' then .av (.agg (cs.toList.map .sc)) else .undef | .tuple _=>.undef | v=>.av (.one (.sc v))
def Ctx.elt (Γ:Ctx)(t:TypeId):Nat:=
 match Γ.ty t with
 | some ⟨.slice e,_,_,_,_⟩=>match Γ.ty e with
  | some r=>r.size
  | none=>0
 | _=>0
def opd (Γ:Ctx)(s:Fr)(t:TypeId):Operand→Slot | .tmp x=>s.slot x | .const v=>qst (Γ.elt t) v | .func f=>.av (.one (.fn f [] [])) | .global _=>.undef
def qrjb:List Slot→Option (List AV)
 | []=>some []
 | .av x::r=>match qrjb r with
  | some xs=>some (x::xs)
  | none=>none
 | _=>none
def rootOf (all:List Oper):Nat→Operand→Option Tmp
 | 0,_=>none
 | n+1,.tmp t=>
  match all.find? fun o=>o.dst==some t with
  | some o=>match o.op with
   | .fieldAddr _ x _=>rootOf all n x
   | .indexAddr _ x _=>rootOf all n x
   | .nilCheck x=>rootOf all n x
   | .move x=>rootOf all n x
   | _=>some t
  | none=>some t
 | _,_=>none
def qlqb (all:List Oper)(o:Oper):Option Tmp:=
 match o.op with
 | .load _ a=>rootOf all 8 a
 | .store _ a _=>rootOf all 8 a
 | _=>none
def arrK (i:Int)(κ:Nat→Option α):Nat→Option α | 0=>none | n+1=>if i=(n:Int) then κ n else arrK i κ n
def atK (s:Fr)(root:Option Tmp)(a:Slot)(κ:List Cell→Nat→Option α):Option α:=
 match a with
 | .loc t off=>if root=some t then κ (s.X.getD t []) off else none
 | .av (.one c)=>(deref s.H c).bind fun p=>κ p.1 p.2
 | _=>none
def intK (a:Slot)(κ:Int→Option α):Option α:=
 match a with
 | .av (.one (.sc (.int .i64 n)))=>κ n
 | _=>none
def optIntK (Γ:Ctx)(s:Fr)(x:Option Operand)(κ:Option Int→Option α):Option α:=
 match x with
 | some x=>intK (opd Γ s 0 x) fun n=>κ (some n)
 | none=>κ none
def restK (cs:List Cell)(κ:List Cell→Option α):Option α:=
 match mapO qfkb cs with
 | some cs=>κ cs
 | none=>none
def partsK (Γ:Ctx)(s:Fr)(fs:List TypeId)(ps:List (Nat×Operand))(κ:List (Nat×List Cell)→Option α):Option α:=
 match ps with
 | []=>κ []
 | (i,x)::r=>
  match opd Γ s (fs.getD i 0) x with
  | .av v=>partsK Γ s fs r fun q=>κ ((i,v.cells)::q)
  | _=>none
def qifb (place:Nat→Option (Nat×Nat))(cs:List Cell):List (Nat×List Cell)→Option (List Cell)
 | []=>some cs
 | (i,v)::r=>
  match place i with
  | some (off,size)=>if v.length=size∧off+size≤cs.length then qifb place (splice cs off v) r else none
  | none=>none
def chunks (sz:Nat):Nat→List Cell→List (List Cell) | 0,_=>[] | n+1,cs=>cs.take sz::chunks sz n (cs.drop sz)
def qkq (Γ:Ctx)(r:Ty):Option (List Kd):=
 match r.kd with
 | .struct fs=>
  if fs.map (·.1)=List.range fs.length∧fs.length=r.size then
   mapO (fun p=>match Γ.ty p.2 with
    | some q=>if q.kd.plain=true then some q.kd else none
    | none=>none) fs
  else none
 | _=>none
def qbbb (Γ:Ctx)(r:Ty):Option (List Kd):=
 match r.kd with
 | .array n e=>match Γ.ty e with
  | some q=>if q.kd.plain=true then some (List.replicate n q.kd) else none
  | none=>none
 | _=>none
def binK (Γ:Ctx)(op:BinOp)(t:TypeId)(x y:Slot)(κ:Slot→Option α):Option α:=
 match x,y with
 | .av (.one (.sc (.int k a))),.av (.one (.sc (.int k' b)))=>
  match op with
  | .shl=>if 0≤b then κ (.av (.one (.sc (.int k (shlI k a b))))) else none
  | .shr=>if 0≤b then κ (.av (.one (.sc (.int k (shrI k a b))))) else none
  | _=>if k=k' then qshc op k a b fun v=>κ (.av (.one (.sc v))) else none
 | .av (.one (.sc (.string a))),.av (.one (.sc (.string b)))=>qsdc op a b fun v=>κ (.av (.one (.sc v)))
 | .av (.one (.sc (.bool a))),.av (.one (.sc (.bool b)))=>
  match Γ.ty t with
  | some ⟨.bool,_,_,_,_⟩=>
   match op with
   | .eql=>κ (.av (.one (.sc (.bool (a==b)))))
   | .neq=>κ (.av (.one (.sc (.bool (!(a==b))))))
   | _=>none
  | _=>none
 | .av (.agg xs),.av (.agg ys)=>
  match Γ.ty t with
  | some r=>match qkq Γ r with
   | some ks=>
    match op with
    | .eql=>(qdk ks xs ys).bind fun b=>κ (.av (.one (.sc (.bool b))))
    | .neq=>(qdk ks xs ys).bind fun b=>κ (.av (.one (.sc (.bool (!b)))))
    | _=>none
   | none=>match qbbb Γ r with
    | some ks=>
     match op with
     | .eql=>(qdk ks xs ys).bind fun b=>κ (.av (.one (.sc (.bool b))))
     | .neq=>(qdk ks xs ys).bind fun b=>κ (.av (.one (.sc (.bool (!b)))))
     | _=>none
    | none=>none
  | none=>none
 | _,_=>none
def nilC (c:Cell)(x y:Option α):Option α:=
 match c with
 | .lst _ _ rows=>cond rows.isEmpty x y
 | .vs _ _ _ len _=>cond (len==0) x y
 | _=>none
def nilK (Γ:Ctx)(op:BinOp)(t:TypeId)(x:Slot)(κ:Slot→Option α):Option α:=
 match Γ.ty t with
 | some ⟨.slice _,_,_,_,_⟩=>
  match op,x with
  | .eql,.av (.one c)=>nilC c (κ .anyb) (κ (.av (.one (.sc (.bool false)))))
  | .neq,.av (.one c)=>nilC c (κ .anyb) (κ (.av (.one (.sc (.bool true)))))
  | _,_=>none
 | _=>none
open Classical in
noncomputable def both (x y:Option α):Option α:=if x=y then x else none
def qdzd:List Cell→Option Int | [.sc (.int .u8 n)]=>some n | _=>none
def ofBytes (ns:List Int):ByteArray:=⟨(ns.map fun n=>UInt8.ofNat n.toNat).toArray⟩
def bytesOf (H:List Entry)(c:Cell):Option ByteArray:=(rowsOf H 1 c).bind fun rows=>(mapO qdzd rows).map ofBytes
def qhxc (Γ:Ctx)(s:Fr)(src dst:TypeId)(x:Slot)(κ:Slot→Fr→Option α):Option α:=
 match Γ.ty src,Γ.ty dst with
 | some q1,some q2=>
  match q1.kd,q2.kd,x with
  | _,.int k,.av (.one (.sc (.int _ n)))=>κ (.av (.one (.sc (.int k (k.wrap n))))) s
  | .str,.str,.av (.one (.sc (.string b)))=>κ (.av (.one (.sc (.string b)))) s
  | .slice e,.str,.av (.one c)=>
   match Γ.ty e with
   | some ⟨.int .u8,1,_,_,_⟩=>(bytesOf s.H c).bind fun b=>κ (.av (.one (.sc (.string b)))) s
   | _=>none
  | _,_,_=>none
 | _,_=>none
def qfv (Γ:Ctx)(s:Fr)(b:Builtin)(ts:List TypeId)(xs:List Slot)(κ:Slot→Fr→Option α):Option α:=
 match b,ts,xs with
 | .len,t::_,[x]=>
  match Γ.ty t with
  | some q=>
   match q.kd,x with
   | .str,.av (.one (.sc (.string b)))=>κ (.av (.one (.sc (.int .i64 b.size)))) s
   | .slice _,.av (.one c)=>(lenC c).bind fun n=>κ (.av (.one (.sc (.int .i64 n)))) s
   | .array n _,.av (.agg _)=>κ (.av (.one (.sc (.int .i64 n)))) s
   | _,_=>none
  | none=>none
 | .append,t::u::_,[.av (.one x),.av (.one y)]=>
  match Γ.ty t,Γ.ty u with
  | some ⟨.slice e,_,_,_,_⟩,some uq=>match Γ.ty e with
   | some r=>
    if 0 < r.bytes∧uq.listy=true then
     (qah s.H r.size y).bind fun ys=>(app s.H r.size r.bytes x ys).bind fun p=>κ (.av (.one p.1)) (s.setH p.2)
    else none
   | none=>none
  | _,_=>none
 | .max,_,[.av (.one (.sc (.int k a))),.av (.one (.sc (.int k' b)))]=>
  if k=k' then κ (.av (.one (.sc (.int k (if a < b then b else a))))) s else none
 | .min,_,[.av (.one (.sc (.int k a))),.av (.one (.sc (.int k' b)))]=>
  if k=k' then κ (.av (.one (.sc (.int k (if b < a then b else a))))) s else none
 | _,_,_=>none
def opds (Γ:Ctx)(s:Fr):List TypeId→List Operand→List Slot | _,[]=>[] | ts,x::xs=>opd Γ s (ts.headD 0) x::opds Γ s ts.tail xs
def qvr:List (List Cell)→ByteArray→Option Int | [],_=>some 0 | [.sc (.string k),.sc (.int .i64 n)]::r,s=>cond (k==s) (some n) (qvr r s) | _::_,_=>none
def qyh:List (List Cell)→ByteArray→Int→Option (List (List Cell)) | [],s,m=>some [[.sc (.string s),.sc (.int .i64 m)]] | [.sc (.string k),.sc (.int .i64 n)]::r,s,m=>cond (k==s) (some ([.sc (.string k),.sc (.int .i64 m)]::r)) ((qyh r s m).map fun q=>[.sc (.string k),.sc (.int .i64 n)]::q) | _::_,_,_=>none
def qdsd (H:List Entry)(id ep:Nat)(k:ByteArray):Option Int:=(entry? H id ep).bind fun e=>qvr e.rows k
def qsvb (H:List Entry)(id ep:Nat)(k:ByteArray)(n:Int):Option (List Entry):=(entry? H id ep).bind fun e=>if e.fr=false then (qyh e.rows k n).map fun rows=>H.set id ⟨e.sz,rows,ep,false⟩ else none
def qlb (H:List Entry)(c:Cell)(k:ByteArray):Option Int:=
 match c with
 | .mp id ep=>qdsd H id ep k
 | _=>none
def qls (H:List Entry)(c:Cell)(k:ByteArray)(n:Int):Option (List Entry):=
 match c with
 | .mp id ep=>qsvb H id ep k n
 | _=>none
def qjyb (Γ:Ctx)(t:TypeId):Bool:=
 match Γ.ty t with
 | some ⟨.map k e,_,_,_,_⟩=>match Γ.ty k,Γ.ty e with
  | some ⟨.str,_,_,_,_⟩,some ⟨.int .i64,_,_,_,[.sc (.int .i64 0)]⟩=>true
  | _,_=>false
 | _=>false
def constP:Nat×Operand→Bool | (_,.const _)=>true | _=>false
def deepB (fi:FI)(ps:Array (Nat×Operand)):Bool:=fi.deep&&(fi.lits||(ps.isEmpty&&!fi.bare)||!(ps.toList.all constP))
def evOp (Γ:Ctx)(fi:FI)(ev:FuncId→List AV→List Entry→Option Res)(all:List Oper)(o:Oper)(s:Fr)(κ:Slot→Fr→Option α):Option α:=
 match o.op with
 | .move x=>match opd Γ s o.type x with
  | .undef=>none
  | v=>κ v s
 | .assign x=>match opd Γ s o.type x with
  | .undef=>none
  | v=>κ v s
 | .pick c a b=>
  match opd Γ s 0 c with
  | .av (.one (.sc (.bool c)))=>cond c (match opd Γ s o.type a with | .undef=>none | v=>κ v s) (match opd Γ s o.type b with | .undef=>none | v=>κ v s)
  | _=>none
 | .alloc e=>
  match Γ.ty e,o.dst with
  | some r,some d=>
   if fi.locs.contains d then κ (.loc d 0) (s.setX d r.zero)
   else match r.kd with
    | .bld b=>κ (.av (.one (.bl e b s.H.length 0))) (s.setH (s.H++[⟨1,[[.sc (.string ⟨#[]⟩)]],0,false⟩,⟨1,[],0,false⟩]))
    | _=>κ (.av (.one (.ptr s.H.length r.size 0 0 0))) (s.setH (s.H++[⟨r.size,[r.zero],0,false⟩]))
  | _,_=>none
 | .makeMap t none=>
  match Γ.ty t with
  | some ⟨.map _ _,_,_,_,_⟩=>κ (.av (.one (.mp s.H.length 0))) (s.setH (s.H++[⟨2,[],0,false⟩]))
  | _=>none
 | .lookup t x i false=>
  match qjyb Γ t,opd Γ s 0 x,opd Γ s 0 i with
  | true,.av (.one c),.av (.one (.sc (.string k)))=>(qlb s.H c k).bind fun n=>κ (.av (.one (.sc (.int .i64 n)))) s
  | _,_,_=>none
 | .mapUpdate t x i y=>
  match qjyb Γ t,opd Γ s 0 x,opd Γ s 0 i with
  | true,.av (.one c),.av (.one (.sc (.string k)))=>intK (opd Γ s 0 y) fun n=>(qls s.H c k n).bind fun H=>κ .undef (s.setH H)
  | _,_,_=>none
 | .box e x=>
  match Γ.ty e,o.dst,opd Γ s e x with
  | some r,some d,.av v=>
   if v.cells.length=r.size then
    if fi.locs.contains d then κ (.loc d 0) (s.setX d v.cells)
    else κ (.av (.one (.ptr s.H.length r.size 0 0 0))) (s.setH (s.H++[⟨r.size,[v.cells],0,false⟩]))
   else none
  | _,_,_=>none
 | .build t ps=>
  match Γ.ty t with
  | some r=>
   match r.kd with
   | .struct fs=>
    partsK Γ s (fs.map (·.2)) ps.toList fun q=>
     match qifb (fun i=>match fs[i]? with | some (o,ft)=>(match Γ.ty ft with | some f=>some (o,f.size) | none=>none) | none=>none) r.zero q with
     | some cs=>κ (.av (.agg cs)) s
     | none=>none
   | .array n e=>
    match Γ.ty e with
    | some f=>
     partsK Γ s (List.replicate n e) ps.toList fun q=>
      match qifb (fun i=>some (i*f.size,f.size)) r.zero q with
      | some cs=>κ (.av (.agg cs)) s
      | none=>none
    | none=>none
   | _=>none
  | none=>none
 | .buildSlice t n ps=>
  match Γ.ty t with
  | some ⟨.slice e,_,_,_,_⟩=>match Γ.ty e with
   | some r=>
    if n*r.size≤16777216 then
     partsK Γ s (List.replicate n e) ps.toList fun q=>
      match qifb (fun i=>some (i*r.size,r.size)) (qdd n r.zero).flatten q with
      | some cs=>
       if deepB fi ps then κ (.av (.one (.vs s.H.length r.size 0 n 0))) (s.setH (s.H++[⟨r.size,chunks r.size n cs,0,false⟩]))
       else restK cs fun cs=>κ (.av (.one (.lst true r.size (chunks r.size n cs)))) s
      | none=>none
    else none
   | none=>none
  | _=>none
 | .load t a=>
  match Γ.ty t with
  | some r=>atK s (qlqb all o) (opd Γ s 0 a) fun row off=>ldT r row off fun v=>κ (.av v) s
  | none=>none
 | .store t a x=>
  match Γ.ty t,opd Γ s t x with
  | some r,.av v=>
   if v.cells.length=r.size then
    match opd Γ s 0 a with
    | .loc b off=>if qlqb all o=some b∧off+r.size≤(s.X.getD b []).length then κ .undef (s.setX b (splice (s.X.getD b []) off v.cells)) else none
    | .av (.one c)=>(qbu s.H c v.cells).bind fun H=>κ .undef (s.setH H)
    | _=>none
   else none
  | _,_=>none
 | .nilCheck x=>
  match opd Γ s 0 x with
  | .loc t off=>κ (.loc t off) s
  | .av (.one c)=>(ptrC c).bind fun c=>κ (.av (.one c)) s
  | _=>none
 | .binOp op t x y _=>
  match y with
  | .const (.slice none 0 0)=>nilK Γ op t (opd Γ s t x) fun v=>κ v s
  | _=>binK Γ op t (opd Γ s t x) (opd Γ s t y) fun v=>κ v s
 | .unOp op _ x=>
  match op,opd Γ s 0 x with
  | .not,.av (.one (.sc (.bool b)))=>κ (.av (.one (.sc (.bool (!b))))) s
  | .neg,.av (.one (.sc (.int k n)))=>κ (.av (.one (.sc (.int k (k.wrap (0 - n)))))) s
  | _,_=>none
 | .convert src dst x=>qhxc Γ s src dst (opd Γ s src x) κ
 | .makeFunc fn first captured=>
  match fn,qrjb (first.toList.map (opd Γ s 0)),qrjb (captured.toList.map (opd Γ s 0)) with
  | .func f,some a,some b=>match mapO (fun x=>match x with | .one c=>some c | .agg _=>none) a,mapO (fun x=>match x with | .one c=>some c | .agg _=>none) b with
   | some a,some b=>κ (.av (.one (.fn f a b))) s
   | _,_=>none
  | _,_,_=>none
 | .makeSlice t l c=>
  match Γ.ty t with
  | some ⟨.slice e,_,_,_,_⟩=>match Γ.ty e with
   | some r=>
    intK (opd Γ s 0 l) fun l=>intK (opd Γ s 0 c) fun c=>
     if 0≤l∧l≤c∧c*r.bytes≤bound∧c≤bound then
      κ (.av (.one (.vs s.H.length r.size 0 l.toNat 0))) (s.setH (s.H++[⟨r.size,qdd l.toNat r.zero,0,false⟩]))
     else none
   | none=>none
  | _=>none
 | .slice t x lo hi mx=>
  match Γ.ty t with
  | some r=>
   optIntK Γ s lo fun lo=>optIntK Γ s hi fun hi=>optIntK Γ s mx fun mx=>
    match r.kd,opd Γ s t x,mx with
    | .str,.av (.one (.sc (.string b))),none=>(subS b (lo.getD 0) (hi.getD b.size)).bind fun z=>κ (.av (.one (.sc (.string z)))) s
    | .slice e,.av (.one c),mx=>
     match Γ.ty e with
     | some q=>if mx.isSome=true∧hi.isSome=false then none else (slcC q.size c (lo.getD 0) hi mx).bind fun z=>κ (.av (.one z)) s
     | none=>none
    | _,_,_=>none
  | none=>none
 | .fieldAddr t x f=>
  match Γ.ty t with
  | some ⟨.struct fs,_,_,_,_⟩=>
   match fs[f]? with
   | some (o,_)=>
    match opd Γ s 0 x with
    | .loc b off=>κ (.loc b (off+o)) s
    | .av (.one c)=>(fldA c o).bind fun c=>κ (.av (.one c)) s
    | _=>none
   | none=>none
  | _=>none
 | .field t x f=>
  match Γ.ty t with
  | some ⟨.struct fs,_,_,_,_⟩=>
   match fs[f]?,opd Γ s t x with
   | some (o,ft),.av (.agg cs)=>match Γ.ty ft with
    | some r=>ldT r cs o fun v=>κ (.av v) s
    | none=>none
   | _,_=>none
  | _=>none
 | .indexAddr t x i=>
  match Γ.ty t with
  | some r=>
   intK (opd Γ s 0 i) fun i=>
    match r.kd,opd Γ s t x with
    | .slice e,.av (.one c)=>match Γ.ty e with
     | some q=>(idxA q.size c i).bind fun c=>κ (.av (.one c)) s
     | none=>none
    | .array n e,.loc b off=>match Γ.ty e with
     | some q=>arrK i (fun j=>κ (.loc b (off+j*q.size)) s) n
     | none=>none
    | .array n e,.av (.one c)=>match Γ.ty e with
     | some q=>if 0≤i∧i < n then (fldA c (i.toNat*q.size)).bind fun c=>κ (.av (.one c)) s else none
     | none=>none
    | _,_=>none
  | none=>none
 | .index t x i=>
  match Γ.ty t with
  | some r=>
   intK (opd Γ s 0 i) fun i=>
    match r.kd,opd Γ s t x with
    | .str,.av (.one (.sc (.string b)))=>(bytS b i).bind fun n=>κ (.av (.one (.sc (.int .u8 n)))) s
    | .array n e,.av (.agg cs)=>match Γ.ty e with
     | some q=>if 0≤i∧i < n then ldT q cs (i.toNat*q.size) fun v=>κ (.av v) s else none
     | none=>none
    | _,_=>none
  | none=>none
 | .extract x i=>
  match opd Γ s 0 x with
  | .tup xs=>match xs[i]? with
   | some v=>κ (.av v) s
   | none=>none
  | _=>none
 | .call c=>
  match c.callee with
  | .builtin b=>qfv Γ s b c.argTypes.toList (opds Γ s c.argTypes.toList c.args.toList) κ
  | .value f=>
   match qrjb (opds Γ s c.argTypes.toList c.args.toList) with
   | some args=>
    match opd Γ s 0 f with
    | .av (.one (.fn f first caps))=>callK Γ ev f (first.map .one++args++caps.map .one) s.H fun v H=>κ v (s.setH H)
    | _=>none
   | none=>none
  | .invoke _ _=>none
 | _=>none
def gslot (ops:List Oper)(g:Nat):Option Tmp:=(ops[g]?).bind (·.dst)
def qrt (Γ:Ctx)(fi:FI)(ev:FuncId→List AV→List Entry→Option Res)(all:List Oper)(free:Bool)(o:Oper)(s:Fr)(κ:Slot→Fr→Option α):Option α:=
 cond free
  (evOp Γ fi ev all o (s.setH []) fun v s'=>match s'.H with
   | []=>κ v (s'.setH s.H)
   | _::_=>none)
  (evOp Γ fi ev all o s κ)
def qss (Γ:Ctx)(fi:FI)(ev:FuncId→List AV→List Entry→Option Res)(all:List Oper):List Bool→List Oper→Fr→(Fr→Option α)→Option α
 | _,[],s,κ=>κ s
 | fl,o::r,s,κ=>
  match o.guard with
  | none=>qrt Γ fi ev all (fl.headD false) o s fun v s=>qss Γ fi ev all fl.tail r (s.put o.dst v) κ
  | some (g,want)=>
   match gslot all g with
   | none=>none
   | some t=>
    match s.slot t with
    | .av (.one (.sc (.bool b)))=>
     cond b
      (cond want (qrt Γ fi ev all (fl.headD false) o (s.put (some t) (.av (.one (.sc (.bool true))))) fun v s=>qss Γ fi ev all fl.tail r (s.put o.dst v) κ)
       (qss Γ fi ev all fl.tail r ((s.put (some t) (.av (.one (.sc (.bool true))))).put o.dst .skip) κ))
      (cond want (qss Γ fi ev all fl.tail r ((s.put (some t) (.av (.one (.sc (.bool false))))).put o.dst .skip) κ)
       (qrt Γ fi ev all (fl.headD false) o (s.put (some t) (.av (.one (.sc (.bool false))))) fun v s=>qss Γ fi ev all fl.tail r (s.put o.dst v) κ))
    | .skip=>qss Γ fi ev all fl.tail r (s.put o.dst .skip) κ
    | _=>none
def madeOf (fi:FI)(o:Oper):Option Tmp:=
 match o.op,o.dst with
 | .alloc _,some d=>if fi.locs.contains d then some d else none
 | .box _ _,some d=>if fi.locs.contains d then some d else none
 | _,_=>none
def makes (fi:FI)(ops:List Oper):List Nat:=ops.filterMap (madeOf fi)
def nodupB:List Nat→Bool | []=>true | x::xs=>!xs.contains x&&nodupB xs
def touch (fi:FI)(all:List Oper)(o:Oper):Option Tmp:=
 match o.op with
 | .store _ _ _=>qlqb all o
 | _=>madeOf fi o
def tmpsOf (xs:List Operand):List Nat:=xs.filterMap fun | .tmp t=>some (2*t) | _=>none
def optN (k:Nat):Option Tmp→List Nat | some t=>[2*t+k] | none=>[]
def readsOf (all:List Oper)(o:Oper):List Nat:=tmpsOf o.op.operands.toList++(match o.guard with | some (g,_)=>optN 0 (gslot all g) | none=>[])++optN 1 (qlqb all o)
def qcl (fi:FI)(all:List Oper)(o:Oper):List Nat:=optN 0 o.dst++optN 1 (touch fi all o)
def meets (xs ys:List Nat):Bool:=xs.any ys.contains
def hcls (Γ:Ctx)(fi:FI)(all:List Oper)(o:Oper):Nat:=
 match o.op with
 | .load _ _=>1
 | .convert _ _ _=>1
 | .store _ _ _=>match qlqb all o with
  | some b=>if fi.locs.contains b then 0 else 3
  | none=>3
 | .alloc _=>if (madeOf fi o).isSome then 0 else 3
 | .box _ _=>if (madeOf fi o).isSome then 0 else 3
 | .makeSlice _ _ _=>3
 | .makeMap _ _=>3
 | .lookup _ _ _ _=>3
 | .mapUpdate _ _ _ _=>3
 | .buildSlice _ _ ps=>if deepB fi ps then 3 else 0
 | .call c=>match c.callee with
  | .builtin b=>match b with
   | .append=>3
   | _=>0
  | .value (.func f)=>match Γ.fi f with
   | some q=>match q.mode with
    | .pure=>2
    | _=>3
   | none=>3
  | _=>3
 | _=>0
def ancOf (acc:List Nat)(o:Oper):Nat:=o.after.toList.foldl (fun m e=>if Region.binds .any e then m||| (1 <<< e.on)||| acc.getD e.on 0 else m) 0
def ancs:List Oper→List Nat→List Nat | [],acc=>acc | o::r,acc=>ancs r (acc++[ancOf acc o])
def before (A:List Nat)(i j:Nat):Bool:=(A.getD j 0).testBit i
def qccc (A cl:List Nat)(i:Nat):Bool:=
 match cl.getD i 3 with
 | 0=>true
 | 1=>(List.range cl.length).any fun j=>!before A i j&&!before A j i&&(cl.getD j 0==3)
 | 2=>(List.range cl.length).any fun j=>j != i&&!before A i j&&!before A j i&&(cl.getD j 0 != 0)
 | _=>false
def qsic (A cl:List Nat)(i:Nat):Nat:=if qccc A cl i then 0 else if cl.getD i 3==1 then 1 else 2
structure Plan where
 anc:List Nat
 rd:List (List Nat)
 wr:List (List Nat)
 free:List Bool
 eff:List Nat
def qay (Γ:Ctx)(fi:FI)(ops:List Oper):Plan:=
 let A:=ancs ops []
 let cl:=ops.map (hcls Γ fi ops)
 ⟨A,ops.map (readsOf ops),ops.map (qcl fi ops),(List.range ops.length).map (qccc A cl),(List.range ops.length).map (qsic A cl)⟩
def clash (p:Plan)(i j:Nat):Bool:=meets (p.wr.getD i []) (p.rd.getD j [])||meets (p.wr.getD i []) (p.wr.getD j [])||meets (p.rd.getD i []) (p.wr.getD j [])||(p.eff.getD i 0==2&&p.eff.getD j 0 != 0)||(p.eff.getD i 0==1&&p.eff.getD j 0==2)
def qlob (p:Plan)(ops:List Oper):Bool:=(List.range ops.length).all fun j=>(match ops[j]? with | some o=>(o.after.toList.all fun e=>!Region.binds .any e||decide (e.on < j))&&((List.range j).all fun i=>!before p.anc i j||o.after.toList.any fun e=>Region.binds .any e&&(e.on==i||(decide (i < e.on)&&before p.anc i e.on))) | none=>true)&&(List.range j).all fun i=>!clash p i j||before p.anc i j
open Classical in
noncomputable def eqC (a b:Cell):Bool:=decide (a=b)
def qlu (Γ:Ctx)(fi:FI)(p:Plan)(all:List Oper)(i:Nat)(o:Oper):Bool:=
 fi.loose&&(p.free.getD i false&&match o.op with
  | .load t _=>(match Γ.ty t with | some r=>r.size==1&&!r.isAgg | none=>false)&&(match qlqb all o with | some b=>!fi.locs.contains b | none=>true)
  | _=>false)
def qsbc (p:Plan)(n i m:Nat):Bool:=((List.range n).all fun j=>!(p.eff.getD j 0==2)||((!(decide (j < i)&&before p.anc j i)||decide (j < m))&&(!(decide (i < j)&&before p.anc i j)||decide (m≤j))))&&((List.range n).any fun j=>p.eff.getD j 0==2&&((decide (m≤j)&&decide (j < i))||(decide (i≤j)&&decide (j < m))))
noncomputable def chkH (Γ:Ctx)(fi:FI)(ev:FuncId→List AV→List Entry→Option Res)(all:List Oper)(p:Plan)(i:Nat)(o:Oper)(s:Fr)(v:Slot):List (Nat×List Entry)→Option α→Option α
 | [],k=>k
 | (m,H)::hs,k=>cond (qsbc p all.length i m)
   (evOp Γ fi ev all o (s.setH H) fun v' _=>match v,v' with
    | .av (.one a),.av (.one b)=>cond (eqC a b) (chkH Γ fi ev all p i o s v hs k) none
    | _,_=>none)
   (chkH Γ fi ev all p i o s v hs k)
noncomputable def chkL (Γ:Ctx)(fi:FI)(ev:FuncId→List AV→List Entry→Option Res)(all:List Oper)(p:Plan)(hs:List (Nat×List Entry)):List (Nat×Oper×Fr×Slot)→Option α→Option α | [],k=>k | (i,o,s,v)::ld,k=>chkH Γ fi ev all p i o s v hs (chkL Γ fi ev all p hs ld k)
def addH (p:Plan)(i:Nat)(s:Fr)(hs:List (Nat×List Entry)):List (Nat×List Entry):=cond (p.eff.getD i 0==2) ((i,s.H)::hs) hs
def addL (Γ:Ctx)(fi:FI)(p:Plan)(all:List Oper)(i:Nat)(o:Oper)(s:Fr)(v:Slot)(ld:List (Nat×Oper×Fr×Slot)):List (Nat×Oper×Fr×Slot):=cond (qlu Γ fi p all i o) ((i,o,s,v)::ld) ld
def qlpb (Γ:Ctx)(fi:FI)(p:Plan)(all:List Oper)(i:Nat)(o:Oper):Bool:=cond (qlu Γ fi p all i o) false (p.free.getD i false)
noncomputable def qgh (Γ:Ctx)(fi:FI)(ev:FuncId→List AV→List Entry→Option Res)(all:List Oper)(p:Plan):Nat→List Oper→Fr→List (Nat×List Entry)→List (Nat×Oper×Fr×Slot)→(Fr→Option α)→Option α
 | i,[],s,hs,ld,κ=>chkL Γ fi ev all p ((i,s.H)::hs) ld (κ s)
 | i,o::r,s,hs,ld,κ=>
  match o.guard with
  | none=>qrt Γ fi ev all (qlpb Γ fi p all i o) o s fun v s'=>qgh Γ fi ev all p (i+1) r (s'.put o.dst v) (addH p i s hs) (addL Γ fi p all i o s v ld) κ
  | some (g,want)=>
   match gslot all g with
   | none=>none
   | some t=>
    match s.slot t with
    | .av (.one (.sc (.bool b)))=>
     cond b
      (cond want (qrt Γ fi ev all (qlpb Γ fi p all i o) o (s.put (some t) (.av (.one (.sc (.bool true))))) fun v s'=>qgh Γ fi ev all p (i+1) r (s'.put o.dst v) (addH p i s hs) (addL Γ fi p all i o (s.put (some t) (.av (.one (.sc (.bool true))))) v ld) κ)
       (qgh Γ fi ev all p (i+1) r ((s.put (some t) (.av (.one (.sc (.bool true))))).put o.dst .skip) (addH p i s hs) ld κ))
      (cond want (qgh Γ fi ev all p (i+1) r ((s.put (some t) (.av (.one (.sc (.bool false))))).put o.dst .skip) (addH p i s hs) ld κ)
       (qrt Γ fi ev all (qlpb Γ fi p all i o) o (s.put (some t) (.av (.one (.sc (.bool false))))) fun v s'=>qgh Γ fi ev all p (i+1) r (s'.put o.dst v) (addH p i s hs) (addL Γ fi p all i o (s.put (some t) (.av (.one (.sc (.bool false))))) v ld) κ))
    | .skip=>qgh Γ fi ev all p (i+1) r (s.put o.dst .skip) (addH p i s hs) ld κ
    | _=>none
def qzo (bad:Nat→Bool)(T:List Slot):List Slot:=
 T.map fun v=>match v with
  | .loc b off=>if bad b then .undef else .loc b off
  | v=>v
def qaab (bad:Nat→Bool):Nat→List (List Cell)→List (List Cell) | _,[]=>[] | i,x::xs=>(if bad i then [] else x)::qaab bad (i+1) xs
def qflc (live:Nat→Bool):Nat→List Slot→List Slot | _,[]=>[] | i,v::vs=>(if live i then v else .undef)::qflc live (i+1) vs
def forget (bad:List Nat)(s:Fr):Fr:=
 match bad with
 | []=>s
 | _=>⟨qzo bad.contains s.T,qaab bad.contains 0 s.X,s.H⟩
def qmf (live:Option (List Nat))(s:Fr):Fr:=
 match live with
 | none=>s
 | some l=>⟨qzo (fun b=>!l.contains b) (qflc l.contains 0 s.T),qaab (fun b=>!l.contains b) 0 s.X,s.H⟩
inductive Ex where
 | normal
 | exit (id:Nat)
 | ret
def qetb (f:Fr→Option α)(K:Ex→Fr→Option α):Ex→Fr→Option α | .normal,s=>f s | e,s=>K e s
def qbj (live:Option (List Nat))(body:(Ex→Fr→Option α)→Fr→Option α)(K:Ex→Fr→Option α):Nat→Fr→Option α | 0,_=>none | n+1,s=>body (qetb (fun s=>qbj live body K n (qmf live s)) K) s
def qnic (fi:FI)(id:Option Nat):Option (List Nat):=
 match id with
 | none=>none
 | some i=>(fi.keep.find? fun p=>p.1==i).map (·.2)
def qqrb (fi:FI)(id:Nat):Option (List Nat):=(fi.joins.find? fun p=>p.1==id).map (·.2)
def seqK (next:(Ex→Fr→Option α)→Fr→Option α)(K:Ex→Fr→Option α):Ex→Fr→Option α | .normal,s=>next K s | e,s=>K e s
def qaw (id:Nat)(K:Ex→Fr→Option α):Ex→Fr→Option α | .exit i,s=>if i=id then K .normal s else K (.exit i) s | e,s=>K e s
noncomputable def evC (Γ:Ctx)(fi:FI)(ev:FuncId→List AV→List Entry→Option Res)(fuel:Nat):Code→Option Nat→(Ex→Fr→Option α)→Fr→Option α
 | .skip,_,K,s=>K .normal s
 | .region rid ops false,_,K,s=>cond (nodupB (makes fi ops.toList)) (qss Γ fi ev ops.toList [] ops.toList (forget (makes fi ops.toList) (qmf (qqrb fi rid) s)) (K .normal)) none
 | .region rid ops true,_,K,s=>cond (qlob (qay Γ fi ops.toList) ops.toList&&nodupB (makes fi ops.toList)) (cond fi.loose (qgh Γ fi ev ops.toList (qay Γ fi ops.toList) 0 ops.toList (forget (makes fi ops.toList) (qmf (qqrb fi rid) s)) [] [] (K .normal)) (qss Γ fi ev ops.toList (qay Γ fi ops.toList).free ops.toList (forget (makes fi ops.toList) (qmf (qqrb fi rid) s)) (K .normal))) none
 | .seq a b,_,K,s=>evC Γ fi ev fuel a none (seqK (evC Γ fi ev fuel b none) K) s
 | .cond c a b,_,K,s=>
  match opd Γ s 0 c with
  | .av (.one (.sc (.bool c)))=>cond c (evC Γ fi ev fuel a none K s) (evC Γ fi ev fuel b none K s)
  | .anyb=>both (evC Γ fi ev fuel a none K s) (evC Γ fi ev fuel b none K s)
  | _=>none
 | .block id c,_,K,s=>evC Γ fi ev fuel c (some id) (qaw id K) s
 | .loop c,id,K,s=>qbj (qnic fi id) (evC Γ fi ev fuel c none) K fuel (qmf (qnic fi id) s)
 | .exit id,_,K,s=>K (.exit id) s
 | .ret,_,K,s=>K .ret s
 | _,_,_,_=>none
def qstb (Γ:Ctx)(s:Fr):List ResultVar→Option (List AV)
 | []=>some []
 | .tmp t::r=>
  match s.slot t with
  | .av x=>match qstb Γ s r with
   | some xs=>some (x::xs)
   | none=>none
  | _=>none
 | .cell a t::r=>
  match Γ.ty t,s.slot a with
  | some q,.loc b 0=>
   if (s.X.getD b []).length=q.size then
    match q.isAgg,s.X.getD b [],qstb Γ s r with
    | true,cs,some xs=>some (.agg cs::xs)
    | false,c::_,some xs=>some (.one c::xs)
    | _,_,_=>none
   else none
  | _,_=>none
def retK (Γ:Ctx)(fi:FI):Ex→Fr→Option Res
 | .exit _,_=>none
 | _,s=>match qstb Γ s fi.res with
  | some xs=>some (xs,s.H)
  | none=>none
def enter (fi:FI)(args:List AV)(H:List Entry):Fr:=⟨args.map .av++List.replicate (fi.ntmps - args.length) .undef,List.replicate fi.ntmps [],H⟩
noncomputable def evF (Γ:Ctx):Nat→FuncId→List AV→List Entry→Option Res
 | 0,_,_,_=>none
 | k+1,f,args,H=>
  match Γ.prim f with
  | some p=>p args H
  | none=>
   match Γ.fi f with
   | some fi=>evC Γ fi (evF Γ k) k fi.code none (retK Γ fi) (enter fi args H)
   | none=>none
end Go.Ev
