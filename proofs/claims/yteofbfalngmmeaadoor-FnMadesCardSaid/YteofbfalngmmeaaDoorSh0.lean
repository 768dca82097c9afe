/- What the evaluator says of the functions, each as a Lean function over cells. Printed by a program of this claim. Conditions: none. -/
import Derived.Test.YteofbfalngmmeaaDoorEvPr
import Derived.KernelRfl
namespace Go.Ev
open Go Go.Proofs
noncomputable section
set_option maxRecDepth 100000
set_option linter.unusedVariables false
set_option linter.unusedSimpArgs false
def quvb:List (Nat×Run):=[]
def qdpc:Ctx:=ctx qbe qbd quvb
def qqr:Run:=lim qdpc qux
theorem ok_fbe:FnOk Tryd.prog OkT qux qqr:=qam (l:=quvb) qac tyTab_ok qad okT .nil qux
def fbe (k m:Nat)(c1:Cell):Option Res:=(lenC c1).bind fun n2=>some ([.one (Cell.bool (decide ((n2:Int) > 1048576)))],[])
theorem qshb (k m:Nat)(c1:Cell):evC qdpc qwv (evF qdpc (k+1)) m qwv.code none (retK qdpc qwv) (enter qwv [.one (c1)] [])=fbe (k+1) m c1:=by
 kernel_rfl
theorem qayb {c1:Cell}{r:Res}(k:Nat)(h:fbe (k+1) (k+1) c1=some r):qqr [.one (c1)] []=some r:=qan (k:=k+2) (Eq.trans (Eq.trans (by kernel_rfl) (qshb k (k+1) c1)) h)
def qwfb:List (Nat×Run):=[]
def qkab:Ctx:=ctx qbe qbd qwfb
def qdz:Run:=lim qkab qjl
theorem qkhb:FnOk Tryd.prog OkT qjl qdz:=qam (l:=qwfb) qac tyTab_ok qad okT .nil qjl
def qqt (k m:Nat):Nat→Cell→Int→Int→List Entry→Option Res | 0,_,_,_,_=>none | n+1,c3,i4,i5,H6=>(lenC c3).bind fun n7=>cond (decide (i5 < (n7:Int))) (cond (decide (i5 < 4000)) ((idxA 1 (c3) i5).bind fun c8=>(deref H6 (c8)).bind fun p9=>(cI .u8 p9.1 p9.2).bind fun i10=>qqt k m n (c3) (andI .i64 (IntKind.i64.wrap ((IntKind.i64.wrap ((IntKind.i64.wrap (i4*137))+(IntKind.i64.wrap i10)))+11)) 1073741823) (IntKind.i64.wrap (i5+1)) H6) (some ([.one (.ptr H6.length 3 0 0 0)],(H6++[Entry.mk 3 [[c3,Cell.int 0,Cell.int i4]] 0 false])))) (some ([.one (.ptr H6.length 3 0 0 0)],(H6++[Entry.mk 3 [[c3,Cell.int 0,Cell.int i4]] 0 false])))
def fcl (k m:Nat)(c1:Cell)(H:List Entry):Option Res:=(lenC c1).bind fun n2=>qqt k m m (c1) (IntKind.i64.wrap (778778+(n2:Int))) 0 H
abbrev qtmb (k m:Nat):TB:=evC qkab qjx (evF qkab (k+1)) m (sub [1,1,0,1,2,3] qjx.code) none
abbrev qnmb (k m:Nat):TK:=qbu 0 (seqK (evC qkab qjx (evF qkab (k+1)) m (sub [1,1,1] qjx.code) none) (retK qkab qjx))
theorem qhmb (k m:Nat):∀ (n:Nat) (c3:Cell) (i4 i5:Int) (H6:List Entry),qdp (some [0,3,4]) (qtmb k m) (qnmb k m) n ⟨fT 32 0 [(0,.av (.one (c3))),(3,.av (.one (Cell.int i4))),(4,.av (.one (Cell.int i5)))],fX 32 0 [],H6⟩=qqt (k+1) m n c3 i4 i5 H6:=by
 intro n
 induction n with
 | zero=>intros;rfl
 | succ n ih=>intros;simp only[qqt,← ih];kernel_rfl
theorem qmxb (k m:Nat)(c1:Cell)(H:List Entry):evC qkab qjx (evF qkab (k+1)) m qjx.code none (retK qkab qjx) (enter qjx [.one (c1)] H)=fcl (k+1) m c1 H:=by
 simp only[fcl,← qhmb k m]
 kernel_rfl
theorem qabb {c1:Cell}{H:List Entry}{r:Res}(k:Nat)(h:fcl (k+1) (k+1) c1 H=some r):qdz [.one (c1)] H=some r:=qan (k:=k+2) (Eq.trans (Eq.trans (by kernel_rfl) (qmxb k (k+1) c1 H)) h)
def qasc:List (Nat×Run):=[]
def qdbc:Ctx:=ctx qbe qbd qasc
def qgs:Run:=lim qdbc qtq
theorem ok_fch:FnOk Tryd.prog OkT qtq qgs:=qam (l:=qasc) qac tyTab_ok qad okT .nil qtq
def fch (k m:Nat)(c1:Cell)(H:List Entry):Option Res:=(ptrC c1).bind fun c2=>(fldA c2 2).bind fun c3=>(deref H (c3)).bind fun p4=>(cI .i64 p4.1 p4.2).bind fun i5=>(ptrC c1).bind fun c6=>(fldA c6 2).bind fun c7=>(qby H (c7) [Cell.int (IntKind.i64.wrap ((IntKind.i64.wrap (i5*6364136223846793005))+1442695040888963407))]).bind fun h8=>(ptrC c1).bind fun c9=>(fldA c9 2).bind fun c10=>(deref h8 (c10)).bind fun p11=>(cI .i64 p11.1 p11.2).bind fun i12=>(ptrC c1).bind fun c13=>(fldA c13 2).bind fun c14=>(deref h8 (c14)).bind fun p15=>(cI .i64 p15.1 p15.2).bind fun i16=>(ptrC c1).bind fun c17=>(fldA c17 1).bind fun c18=>(deref h8 (c18)).bind fun p19=>(cI .i64 p19.1 p19.2).bind fun i20=>(ptrC c1).bind fun c21=>(fldA c21 0).bind fun c22=>(deref h8 (c22)).bind fun p23=>(cC p23.1 p23.2).bind fun c24=>(lenC c24).bind fun n25=>cond (decide (i20 < (n25:Int))) ((ptrC c1).bind fun c26=>(fldA c26 0).bind fun c27=>(deref h8 (c27)).bind fun p28=>(cC p28.1 p28.2).bind fun c29=>(ptrC c1).bind fun c30=>(fldA c30 1).bind fun c31=>(deref h8 (c31)).bind fun p32=>(cI .i64 p32.1 p32.2).bind fun i33=>(idxA 1 (c29) i33).bind fun c34=>(deref h8 (c34)).bind fun p35=>(cI .u8 p35.1 p35.2).bind fun i36=>(ptrC c1).bind fun c37=>(fldA c37 1).bind fun c38=>(deref h8 (c38)).bind fun p39=>(cI .i64 p39.1 p39.2).bind fun i40=>(ptrC c1).bind fun c41=>(fldA c41 1).bind fun c42=>(qby h8 (c42) [Cell.int (IntKind.i64.wrap (i40+1))]).bind fun h43=>some ([.one (Cell.int (andI .i64 (IntKind.i64.wrap ((andI .i64 (xorI .i64 (shrI .i64 i12 33) (shrI .i64 i16 47)) 255)+(IntKind.i64.wrap i36))) 255))],h43)) (some ([.one (Cell.int (andI .i64 (xorI .i64 (shrI .i64 i12 33) (shrI .i64 i16 47)) 255))],h8))
theorem qstb (k m:Nat)(c1:Cell)(H:List Entry):evC qdbc qwg (evF qdbc (k+1)) m qwg.code none (retK qdbc qwg) (enter qwg [.one (c1)] H)=fch (k+1) m c1 H:=by
 kernel_rfl
theorem qqo {c1:Cell}{H:List Entry}{r:Res}(k:Nat)(h:fch (k+1) (k+1) c1 H=some r):qgs [.one (c1)] H=some r:=qan (k:=k+2) (Eq.trans (Eq.trans (by kernel_rfl) (qstb k (k+1) c1 H)) h)
def qvab:List (Nat×Run):=[(qtq,qgs)]
def qcsc:Ctx:=ctx qbe qbd qvab
def qbo:Run:=lim qcsc qfn
theorem qwp:FnOk Tryd.prog OkT qfn qbo:=qam (l:=qvab) qac tyTab_ok qad okT (.cons ok_fch .nil) qfn
def fcg (k m:Nat)(c1:Cell)(i2:Int)(H:List Entry):Option Res:=cond (decide (i2≤0)) (some ([.one (Cell.int 0)],H)) (cond (decide (i2≤256)) ((qgs [.one (c1)] H).bind fun r3=>cond (qab qarb r3.1) ((cI .i64 (qaa r3.1 0) 0).bind fun i4=>if i2=0 then none else some ([.one (Cell.int (i4.tmod i2))],r3.2)) none) ((qgs [.one (c1)] H).bind fun r5=>cond (qab qarb r5.1) ((cI .i64 (qaa r5.1 0) 0).bind fun i6=>(qgs [.one (c1)] r5.2).bind fun r7=>cond (qab qarb r7.1) ((cI .i64 (qaa r7.1 0) 0).bind fun i8=>(qgs [.one (c1)] r7.2).bind fun r9=>cond (qab qarb r9.1) ((cI .i64 (qaa r9.1 0) 0).bind fun i10=>if i2=0 then none else some ([.one (Cell.int ((IntKind.i64.wrap ((IntKind.i64.wrap ((IntKind.i64.wrap (i6*65536))+(IntKind.i64.wrap (i8*256))))+i10)).tmod i2))],r9.2)) none) none) none))
theorem qrbb (k m:Nat)(c1:Cell)(i2:Int)(H:List Entry):evC qcsc qwr (evF qcsc (k+1)) m qwr.code none (retK qcsc qwr) (enter qwr [.one (c1),.one (Cell.int i2)] H)=fcg (k+1) m c1 i2 H:=by
 kernel_rfl
theorem qnk {c1:Cell}{i2:Int}{H:List Entry}{r:Res}(k:Nat)(h:fcg (k+1) (k+1) c1 i2 H=some r):qbo [.one (c1),.one (Cell.int i2)] H=some r:=qan (k:=k+2) (Eq.trans (Eq.trans (by kernel_rfl) (qrbb k (k+1) c1 i2 H)) h)
def qbcc:List (Nat×Run):=[(qfn,qbo)]
def qdic:Ctx:=ctx qbe qbd qbcc
def qcz:Run:=lim qdic qnd
theorem qvib:FnOk Tryd.prog OkT qnd qcz:=qam (l:=qbcc) qac tyTab_ok qad okT (.cons qwp .nil) qnd
def fco (k m:Nat)(c1 c2:Cell)(H:List Entry):Option Res:=(lenC c2).bind fun n3=>(qbo [.one (c1),.one (Cell.int (n3:Int))] H).bind fun r4=>cond (qab qhe r4.1) ((cI .i64 (qaa r4.1 0) 0).bind fun i5=>(idxA 1 (c2) i5).bind fun c6=>(deref r4.2 (c6)).bind fun p7=>(cS p7.1 p7.2).bind fun s8=>some ([.one (Cell.str s8)],r4.2)) none
theorem qpgb (k m:Nat)(c1 c2:Cell)(H:List Entry):evC qdic qxr (evF qdic (k+1)) m qxr.code none (retK qdic qxr) (enter qxr [.one (c1),.one (c2)] H)=fco (k+1) m c1 c2 H:=by
 kernel_rfl
theorem qaqb {c1 c2:Cell}{H:List Entry}{r:Res}(k:Nat)(h:fco (k+1) (k+1) c1 c2 H=some r):qcz [.one (c1),.one (c2)] H=some r:=qan (k:=k+2) (Eq.trans (Eq.trans (by kernel_rfl) (qpgb k (k+1) c1 c2 H)) h)
def qaec:List (Nat×Run):=[]
def qcjc:Ctx:=ctx qbe qbd qaec
def qcf:Run:=lim qcjc qgb
theorem qyv:FnOk Tryd.prog OkT qgb qcf:=qam (l:=qaec) qac tyTab_ok qad okT .nil qgb
def fcj (k m:Nat)(i1 i2 i3:Int):Option Res:=cond (decide (i1≥i2)) (some ([.one (Cell.bool (decide (i1≤i3)))],[])) (some ([.one (Cell.bool false)],[]))
theorem qnwb (k m:Nat)(i1 i2 i3:Int):evC qcjc qxu (evF qcjc (k+1)) m qxu.code none (retK qcjc qxu) (enter qxu [.one (Cell.int i1),.one (Cell.int i2),.one (Cell.int i3)] [])=fcj (k+1) m i1 i2 i3:=by
 kernel_rfl
theorem qaob {i1 i2 i3:Int}{r:Res}(k:Nat)(h:fcj (k+1) (k+1) i1 i2 i3=some r):qcf [.one (Cell.int i1),.one (Cell.int i2),.one (Cell.int i3)] []=some r:=qan (k:=k+2) (Eq.trans (Eq.trans (by kernel_rfl) (qnwb k (k+1) i1 i2 i3)) h)
def qyvb:List (Nat×Run):=[(qgb,qcf)]
def qddc:Ctx:=ctx qbe qbd qyvb
def qfy:Run:=lim qddc qll
theorem qsgb:FnOk Tryd.prog OkT qll qfy:=qam (l:=qyvb) qac tyTab_ok qad okT (.cons qyv .nil) qll
def fci (k m:Nat)(i1:Int):Option Res:=(qba qcf [.one (Cell.int (IntKind.i64.wrap i1)),.one (Cell.int 48),.one (Cell.int 57)] []).bind fun r2=>cond (qab qmi r2) ((cB (qaa r2 0) 0).bind fun b3=>some ([.one (Cell.bool b3)],[])) none
theorem qqlb (k m:Nat)(i1:Int):evC qddc qyf (evF qddc (k+1)) m qyf.code none (retK qddc qyf) (enter qyf [.one (.sc (.int .u8 i1))] [])=fci (k+1) m i1:=by
 kernel_rfl
theorem qzx {i1:Int}{r:Res}(k:Nat)(h:fci (k+1) (k+1) i1=some r):qfy [.one (.sc (.int .u8 i1))] []=some r:=qan (k:=k+2) (Eq.trans (Eq.trans (by kernel_rfl) (qqlb k (k+1) i1)) h)
def qycb:List (Nat×Run):=[(qgb,qcf)]
def qdlc:Ctx:=ctx qbe qbd qycb
def qjv:Run:=lim qdlc qqd
theorem qvzb:FnOk Tryd.prog OkT qqd qjv:=qam (l:=qycb) qac tyTab_ok qad okT (.cons qyv .nil) qqd
def fcn (k m:Nat)(i1:Int):Option Res:=(qba qcf [.one (Cell.int (IntKind.i64.wrap i1)),.one (Cell.int 97),.one (Cell.int 122)] []).bind fun r2=>cond (qab qmi r2) ((cB (qaa r2 0) 0).bind fun b3=>some ([.one (Cell.bool b3)],[])) none
theorem qrsb (k m:Nat)(i1:Int):evC qdlc qyn (evF qdlc (k+1)) m qyn.code none (retK qdlc qyn) (enter qyn [.one (.sc (.int .u8 i1))] [])=fcn (k+1) m i1:=by
 kernel_rfl
theorem qehb {i1:Int}{r:Res}(k:Nat)(h:fcn (k+1) (k+1) i1=some r):qjv [.one (.sc (.int .u8 i1))] []=some r:=qan (k:=k+2) (Eq.trans (Eq.trans (by kernel_rfl) (qrsb k (k+1) i1)) h)
def qzdb:List (Nat×Run):=[(qll,qfy),(qqd,qjv)]
def qdcc:Ctx:=ctx qbe qbd qzdb
def qqf:Run:=lim qdcc qvf
theorem ok_fcp:FnOk Tryd.prog OkT qvf qqf:=qam (l:=qzdb) qac tyTab_ok qad okT (.cons qsgb (.cons qvzb .nil)) qvf
def fcp (k m:Nat)(i1:Int):Option Res:=(qba qjv [.one (.sc (.int .u8 i1))] []).bind fun r2=>cond (qab qpvb r2) ((cB (qaa r2 0) 0).bind fun b3=>cond b3 (some ([.one (Cell.bool true)],[])) ((qba qfy [.one (.sc (.int .u8 i1))] []).bind fun r4=>cond (qab qjyb r4) ((cB (qaa r4 0) 0).bind fun b5=>cond b5 (some ([.one (Cell.bool true)],[])) (cond (i1==46) (some ([.one (Cell.bool true)],[])) (cond (i1==45) (some ([.one (Cell.bool true)],[])) (some ([.one (Cell.bool (i1==95))],[]))))) none)) none
theorem qpfb (k m:Nat)(i1:Int):evC qdcc qwm (evF qdcc (k+1)) m qwm.code none (retK qdcc qwm) (enter qwm [.one (.sc (.int .u8 i1))] [])=fcp (k+1) m i1:=by
 kernel_rfl
theorem qasb {i1:Int}{r:Res}(k:Nat)(h:fcp (k+1) (k+1) i1=some r):qqf [.one (.sc (.int .u8 i1))] []=some r:=qan (k:=k+2) (Eq.trans (Eq.trans (by kernel_rfl) (qpfb k (k+1) i1)) h)
def qbjc:List (Nat×Run):=[(qgb,qcf),(qvf,qqf)]
def qfqb:Ctx:=ctx qbe qbd qbjc
def qka:Run:=lim qfqb qnb
theorem qxpb:FnOk Tryd.prog OkT qnb qka:=qam (l:=qbjc) qac tyTab_ok qad okT (.cons qyv (.cons ok_fcp .nil)) qnb
def qsj (k m:Nat):Nat→ByteArray→Int→Option Res | 0,_,_=>none | n+1,s2,i3=>cond (decide (i3 < (s2.size:Int))) ((bytS s2 i3).bind fun i4=>(qba qqf [.one (.sc (.int .u8 i4))] []).bind fun r5=>cond (qab qxlb r5) ((cB (qaa r5 0) 0).bind fun b6=>cond (!b6) (some ([.one (Cell.bool false)],[])) (qsj k m n s2 (IntKind.i64.wrap (i3+1)))) none) ((qba qcf [.one (Cell.int (s2.size:Int)),.one (Cell.int 1),.one (Cell.int 12)] []).bind fun r7=>cond (qab qmi r7) ((cB (qaa r7 0) 0).bind fun b8=>cond b8 (cond (!(s2.toList==(bs [46]).toList)) (some ([.one (Cell.bool (!(s2.toList==(bs [46,46]).toList)))],[])) (some ([.one (Cell.bool false)],[]))) (some ([.one (Cell.bool false)],[]))) none)
def fcq (k m:Nat)(s1:ByteArray):Option Res:=qsj k m m s1 0
abbrev qtyb (k m:Nat):TB:=evC qfqb qid (evF qfqb (k+1)) m (sub [1,0,1,2,3] qid.code) none
abbrev qrlb (k m:Nat):TK:=qbu 0 (seqK (evC qfqb qid (evF qfqb (k+1)) m (sub [1,1] qid.code) none) (retK qfqb qid))
theorem qkrb (k m:Nat):∀ (n:Nat) (s2:ByteArray) (i3:Int),qdp (some [0,3]) (qtyb k m) (qrlb k m) n ⟨fT 26 0 [(0,.av (.one (Cell.str s2))),(3,.av (.one (Cell.int i3)))],fX 26 0 [],[]⟩=qsj (k+1) m n s2 i3:=by
 intro n
 induction n with
 | zero=>intros;rfl
 | succ n ih=>intros;simp only[qsj,← ih];kernel_rfl
theorem qpab (k m:Nat)(s1:ByteArray):evC qfqb qid (evF qfqb (k+1)) m qid.code none (retK qfqb qid) (enter qid [.one (Cell.str s1)] [])=fcq (k+1) m s1:=by
 simp only[fcq,← qkrb k m]
 kernel_rfl
theorem qdob {s1:ByteArray}{r:Res}(k:Nat)(h:fcq (k+1) (k+1) s1=some r):qka [.one (Cell.str s1)] []=some r:=qan (k:=k+2) (Eq.trans (Eq.trans (by kernel_rfl) (qpab k (k+1) s1)) h)
def qymb:List (Nat×Run):=[]
def qerb:Ctx:=ctx qbe qbd qymb
def qgt:Run:=lim qerb qoe
theorem qyib:FnOk Tryd.prog OkT qoe qgt:=qam (l:=qymb) qac tyTab_ok qad okT .nil qoe
def qmb (k m:Nat):Nat→ByteArray→Int→Cell→Int→Int→List Entry→Option Res | 0,_,_,_,_,_,_=>none | n+1,s3,i4,c5,i6,i7,H8=>cond (decide (i7≤(s3.size:Int))) (cond (i7==(s3.size:Int)) ((subS s3 i6 i7).bind fun s9=>(app H8 1 16 (c5) [[Cell.str s9]]).bind fun p10=>qmb k m n s3 i4 (p10.1) (IntKind.i64.wrap (i7+1)) (IntKind.i64.wrap (i7+1)) p10.2) ((bytS s3 i7).bind fun i11=>cond (i11==i4) ((subS s3 i6 i7).bind fun s12=>(app H8 1 16 (c5) [[Cell.str s12]]).bind fun p13=>qmb k m n s3 i4 (p13.1) (IntKind.i64.wrap (i7+1)) (IntKind.i64.wrap (i7+1)) p13.2) (qmb k m n s3 i4 (c5) i6 (IntKind.i64.wrap (i7+1)) H8))) (some ([.one (c5)],H8))
def fby (k m:Nat)(s1:ByteArray)(i2:Int):Option Res:=qmb k m m s1 i2 (.lst true 1 []) 0 0 []
abbrev qodb (k m:Nat):TB:=evC qerb qje (evF qerb (k+1)) m (sub [1,1,1,0,1,2,3] qje.code) none
abbrev qowb (k m:Nat):TK:=qbu 0 (seqK (evC qerb qje (evF qerb (k+1)) m (sub [1,1,1,1] qje.code) none) (retK qerb qje))
theorem qgtb (k m:Nat):∀ (n:Nat) (s3:ByteArray) (i4:Int) (c5:Cell) (i6 i7:Int) (H8:List Entry),qdp (some [0,1,5,6,7]) (qodb k m) (qowb k m) n ⟨fT 36 0 [(0,.av (.one (Cell.str s3))),(1,.av (.one (.sc (.int .u8 i4)))),(5,.av (.one (c5))),(6,.av (.one (Cell.int i6))),(7,.av (.one (Cell.int i7)))],fX 36 0 [],H8⟩=qmb (k+1) m n s3 i4 c5 i6 i7 H8:=by
 intro n
 induction n with
 | zero=>intros;rfl
 | succ n ih=>intros;simp only[qmb,← ih];kernel_rfl
theorem qorb (k m:Nat)(s1:ByteArray)(i2:Int):evC qerb qje (evF qerb (k+1)) m qje.code none (retK qerb qje) (enter qje [.one (Cell.str s1),.one (.sc (.int .u8 i2))] [])=fby (k+1) m s1 i2:=by
 simp only[fby,← qgtb k m]
 kernel_rfl
theorem qcxb {s1:ByteArray}{i2:Int}{r:Res}(k:Nat)(h:fby (k+1) (k+1) s1 i2=some r):qgt [.one (Cell.str s1),.one (.sc (.int .u8 i2))] []=some r:=qan (k:=k+2) (Eq.trans (Eq.trans (by kernel_rfl) (qorb k (k+1) s1 i2)) h)
def qayc:List (Nat×Run):=[(qnb,qka),(qoe,qgt)]
def qkzb:Ctx:=ctx qbe qbd qayc
def qqp:Run:=lim qkzb qvz
theorem ok_fbu:FnOk Tryd.prog OkT qvz qqp:=qam (l:=qayc) qac tyTab_ok qad okT (.cons qxpb (.cons qyib .nil)) qvz
def qsd (k m:Nat):Nat→Cell→Int→List Entry→Option Res | 0,_,_,_=>none | n+1,c4,i5,H6=>(lenC c4).bind fun n7=>cond (decide (i5 < (n7:Int))) ((idxA 1 (c4) i5).bind fun c8=>(deref H6 (c8)).bind fun p9=>(cS p9.1 p9.2).bind fun s10=>(qba qka [.one (Cell.str s10)] H6).bind fun r11=>cond (qab qsob r11) ((cB (qaa r11 0) 0).bind fun b12=>cond (!b12) (some ([.one (Cell.bool false)],H6)) (qsd k m n (c4) (IntKind.i64.wrap (i5+1)) H6)) none) ((lenC c4).bind fun n13=>some ([.one (Cell.bool (decide ((n13:Int)≤4)))],H6))
def fbu (k m:Nat)(s1:ByteArray):Option Res:=(callL qgt [.one (Cell.str s1),.one (.sc (.int .u8 47))] []).bind fun r2=>cond (qab qncb r2.1) ((cC (qaa r2.1 0) 0).bind fun c3=>qsd k m m (c3) 0 r2.2) none
abbrev qnqb (k m:Nat):TB:=evC qkzb qim (evF qkzb (k+1)) m (sub [1,1,0,1,2,3] qim.code) none
abbrev qpdb (k m:Nat):TK:=qbu 0 (seqK (evC qkzb qim (evF qkzb (k+1)) m (sub [1,1,1] qim.code) none) (retK qkzb qim))
theorem qhob (k m:Nat):∀ (n:Nat) (c4:Cell) (i5:Int) (H6:List Entry),qdp (some [3,4]) (qnqb k m) (qpdb k m) n ⟨fT 22 0 [(3,.av (.one (c4))),(4,.av (.one (Cell.int i5)))],fX 22 0 [],H6⟩=qsd (k+1) m n c4 i5 H6:=by
 intro n
 induction n with
 | zero=>intros;rfl
 | succ n ih=>intros;simp only[qsd,← ih];kernel_rfl
theorem qrvb (k m:Nat)(s1:ByteArray):evC qkzb qim (evF qkzb (k+1)) m qim.code none (retK qkzb qim) (enter qim [.one (Cell.str s1)] [])=fbu (k+1) m s1:=by
 simp only[fbu,← qhob k m]
 kernel_rfl
theorem qzp {s1:ByteArray}{r:Res}(k:Nat)(h:fbu (k+1) (k+1) s1=some r):qqp [.one (Cell.str s1)] []=some r:=qan (k:=k+2) (Eq.trans (Eq.trans (by kernel_rfl) (qrvb k (k+1) s1)) h)
def qauc:List (Nat×Run):=[(qvz,qqp)]
def qfwb:Ctx:=ctx qbe qbd qauc
def qgr:Run:=lim qfwb qoa
theorem qbzc:FnOk Tryd.prog OkT qoa qgr:=qam (l:=qauc) qac tyTab_ok qad okT (.cons ok_fbu .nil) qoa
def qow (k m:Nat):Nat→Cell→Int→Option Res | 0,_,_=>none | n+1,c2,i3=>(lenC c2).bind fun n4=>cond (decide (i3 < (n4:Int))) ((idxA 2 (c2) i3).bind fun c5=>(fldA c5 0).bind fun c6=>(deref [] (c6)).bind fun p7=>(cS p7.1 p7.2).bind fun s8=>(qba qqp [.one (Cell.str s8)] []).bind fun r9=>cond (qab quxb r9) ((cB (qaa r9 0) 0).bind fun b10=>cond (!b10) (some ([.one (Cell.bool false)],[])) ((idxA 2 (c2) i3).bind fun c11=>(fldA c11 1).bind fun c12=>(deref [] (c12)).bind fun p13=>(cS p13.1 p13.2).bind fun s14=>cond (decide ((s14.size:Int) > 60)) (some ([.one (Cell.bool false)],[])) (cond (decide (i3 > 0)) ((idxA 2 (c2) (IntKind.i64.wrap (i3 - 1))).bind fun c15=>(fldA c15 0).bind fun c16=>(deref [] (c16)).bind fun p17=>(cS p17.1 p17.2).bind fun s18=>(idxA 2 (c2) i3).bind fun c19=>(fldA c19 0).bind fun c20=>(deref [] (c20)).bind fun p21=>(cS p21.1 p21.2).bind fun s22=>cond (!Op.bytesLess s18.toList s22.toList) (some ([.one (Cell.bool false)],[])) (qow k m n (c2) (IntKind.i64.wrap (i3+1)))) (qow k m n (c2) (IntKind.i64.wrap (i3+1)))))) none) ((lenC c2).bind fun n23=>some ([.one (Cell.bool (decide ((n23:Int)≤30)))],[]))
def fbm (k m:Nat)(c1:Cell):Option Res:=qow k m m (c1) 0
abbrev qqab (k m:Nat):TB:=evC qfwb qix (evF qfwb (k+1)) m (sub [1,0,1,2,3] qix.code) none
abbrev qtsb (k m:Nat):TK:=qbu 0 (seqK (evC qfwb qix (evF qfwb (k+1)) m (sub [1,1] qix.code) none) (retK qfwb qix))
theorem qfvb (k m:Nat):∀ (n:Nat) (c2:Cell) (i3:Int),qdp (some [0,3]) (qqab k m) (qtsb k m) n ⟨fT 47 0 [(0,.av (.one (c2))),(3,.av (.one (Cell.int i3)))],fX 47 0 [],[]⟩=qow (k+1) m n c2 i3:=by
 intro n
 induction n with
 | zero=>intros;rfl
 | succ n ih=>intros;simp only[qow,← ih];kernel_rfl
theorem qsub (k m:Nat)(c1:Cell):evC qfwb qix (evF qfwb (k+1)) m qix.code none (retK qfwb qix) (enter qix [.one (c1)] [])=fbm (k+1) m c1:=by
 simp only[fbm,← qfvb k m]
 kernel_rfl
theorem qdrb {c1:Cell}{r:Res}(k:Nat)(h:fbm (k+1) (k+1) c1=some r):qgr [.one (c1)] []=some r:=qan (k:=k+2) (Eq.trans (Eq.trans (by kernel_rfl) (qsub k (k+1) c1)) h)
def qxkb:List (Nat×Run):=[]
def qkbb:Ctx:=ctx qbe qbd qxkb
def qhz:Run:=lim qkbb qvd
theorem ok_fcr:FnOk Tryd.prog OkT qvd qhz:=qam (l:=qxkb) qac tyTab_ok qad okT .nil qvd
def qjn (k m:Nat):Nat→Cell→Cell→Bool→Int→ByteArray→ByteArray→List Entry→Option Res | 0,_,_,_,_,_,_,_=>none | n+1,c4,c5,b6,i7,s8,s9,H10=>(lenC c4).bind fun n11=>cond (decide (i7 < (n11:Int))) ((idxA 2 (c4) i7).bind fun c12=>(fldA c12 0).bind fun c13=>(deref H10 (c13)).bind fun p14=>(cS p14.1 p14.2).bind fun s15=>cond (s15.toList==s8.toList) (qjn k m n (c4) (c5) b6 (IntKind.i64.wrap (i7+1)) s8 s9 H10) (cond (!b6) ((idxA 2 (c4) i7).bind fun c16=>(fldA c16 0).bind fun c17=>(deref H10 (c17)).bind fun p18=>(cS p18.1 p18.2).bind fun s19=>cond (!(Op.bytesLess s19.toList s8.toList||s19.toList==s8.toList)) ((app H10 2 32 (c5) [[Cell.str s8,Cell.str s9]]).bind fun p20=>(idxA 2 (c4) i7).bind fun c21=>(deref p20.2 (c21)).bind fun p22=>(cS p22.1 p22.2).bind fun s23=>(cS p22.1 (p22.2+1)).bind fun s24=>(app p20.2 2 32 (p20.1) [[Cell.str s23,Cell.str s24]]).bind fun p25=>qjn k m n (c4) (p25.1) true (IntKind.i64.wrap (i7+1)) s8 s9 p25.2) ((idxA 2 (c4) i7).bind fun c26=>(deref H10 (c26)).bind fun p27=>(cS p27.1 p27.2).bind fun s28=>(cS p27.1 (p27.2+1)).bind fun s29=>(app H10 2 32 (c5) [[Cell.str s28,Cell.str s29]]).bind fun p30=>qjn k m n (c4) (p30.1) b6 (IntKind.i64.wrap (i7+1)) s8 s9 p30.2)) ((idxA 2 (c4) i7).bind fun c31=>(deref H10 (c31)).bind fun p32=>(cS p32.1 p32.2).bind fun s33=>(cS p32.1 (p32.2+1)).bind fun s34=>(app H10 2 32 (c5) [[Cell.str s33,Cell.str s34]]).bind fun p35=>qjn k m n (c4) (p35.1) b6 (IntKind.i64.wrap (i7+1)) s8 s9 p35.2))) (cond (!b6) ((app H10 2 32 (c5) [[Cell.str s8,Cell.str s9]]).bind fun p36=>some ([.one (p36.1)],p36.2)) (some ([.one (c5)],H10)))
def fcr (k m:Nat)(c1:Cell)(s2 s3:ByteArray):Option Res:=qjn k m m (c1) (.lst true 2 []) false 0 s2 s3 []
abbrev qtab (k m:Nat):TB:=evC qkbb qih (evF qkbb (k+1)) m (sub [1,1,1,0,1,2,3] qih.code) none
abbrev qtkb (k m:Nat):TK:=qbu 0 (seqK (evC qkbb qih (evF qkbb (k+1)) m (sub [1,1,1,1] qih.code) none) (retK qkbb qih))
theorem qggb (k m:Nat):∀ (n:Nat) (c4 c5:Cell) (b6:Bool) (i7:Int) (s8 s9:ByteArray) (H10:List Entry),qdp (some [0,3,5,6,7]) (qtab k m) (qtkb k m) n ⟨fT 53 0 [(0,.av (.one (c4))),(3,.loc 3 0),(5,.av (.one (c5))),(6,.av (.one (Cell.bool b6))),(7,.av (.one (Cell.int i7)))],fX 53 0 [(3,[Cell.str s8,Cell.str s9])],H10⟩=qjn (k+1) m n c4 c5 b6 i7 s8 s9 H10:=by
 intro n
 induction n with
 | zero=>intros;rfl
 | succ n ih=>intros;simp only[qjn,← ih];kernel_rfl
theorem qpqb (k m:Nat)(c1:Cell)(s2 s3:ByteArray):evC qkbb qih (evF qkbb (k+1)) m qih.code none (retK qkbb qih) (enter qih [.one (c1),.agg [Cell.str s2,Cell.str s3]] [])=fcr (k+1) m c1 s2 s3:=by
 simp only[fcr,← qggb k m]
 kernel_rfl
theorem qagb {c1:Cell}{s2 s3:ByteArray}{r:Res}(k:Nat)(h:fcr (k+1) (k+1) c1 s2 s3=some r):qhz [.one (c1),.agg [Cell.str s2,Cell.str s3]] []=some r:=qan (k:=k+2) (Eq.trans (Eq.trans (by kernel_rfl) (qpqb k (k+1) c1 s2 s3)) h)
def qvgb:List (Nat×Run):=[(qoa,qgr),(qvd,qhz)]
def qdmc:Ctx:=ctx qbe qbd qvgb
def qgv:Run:=lim qdmc quc
theorem ok_fbv:FnOk Tryd.prog OkT quc qgv:=qam (l:=qvgb) qac tyTab_ok qad okT (.cons qbzc (.cons ok_fcr .nil)) quc
def fbv (k m:Nat)(c1:Cell)(s2 s3:ByteArray):Option Res:=(qcr qhz [.one (c1),.agg [Cell.str s2,Cell.str s3]] []).bind fun r4=>cond (qab qyxb r4.1) ((cC (qaa r4.1 0) 0).bind fun c5=>(qba qgr [.one (c5)] r4.2).bind fun r6=>cond (qab qohb r6) ((cB (qaa r6 0) 0).bind fun b7=>cond (!b7) ((qbw r4.2 2 c1).bind fun r8=>(app r4.2 2 32 (.lst true 2 []) r8).bind fun p9=>some ([.one (p9.1),.one (Cell.bool false)],p9.2)) (some ([.one (c5),.one (Cell.bool true)],r4.2))) none) none
theorem quib (k m:Nat)(c1:Cell)(s2 s3:ByteArray):evC qdmc qwe (evF qdmc (k+1)) m qwe.code none (retK qdmc qwe) (enter qwe [.one (c1),.agg [Cell.str s2,Cell.str s3]] [])=fbv (k+1) m c1 s2 s3:=by
 kernel_rfl
theorem qoc {c1:Cell}{s2 s3:ByteArray}{r:Res}(k:Nat)(h:fbv (k+1) (k+1) c1 s2 s3=some r):qgv [.one (c1),.agg [Cell.str s2,Cell.str s3]] []=some r:=qan (k:=k+2) (Eq.trans (Eq.trans (by kernel_rfl) (quib k (k+1) c1 s2 s3)) h)
def qanc:List (Nat×Run):=[(qfn,qbo),(qnd,qcz),(quc,qgv)]
def qiab:Ctx:=ctx qbe qbd qanc
def qnj:Run:=lim qiab qvw
theorem ok_fca:FnOk Tryd.prog OkT qvw qnj:=qam (l:=qanc) qac tyTab_ok qad okT (.cons qwp (.cons qvib (.cons ok_fbv .nil))) qvw
def qre (k m:Nat):Nat→Cell→Int→ByteArray→Cell→ByteArray→List Entry→Option Res | 0,_,_,_,_,_,_=>none | n+1,c7,i8,s9,c10,s11,H12=>cond (decide (i8 > 0)) ((qcz [.one (c7),.one (.lst true 1 [[Cell.str (bs [111])],[Cell.str (bs [112])],[Cell.str (bs [113])]])] H12).bind fun r13=>cond (qab qzd r13.1) ((cS (qaa r13.1 0) 0).bind fun s14=>(qcz [.one (c7),.one (.lst true 1 [[Cell.str (bs [])],[Cell.str (bs [104,105])],[Cell.str (bs [104,101,108,108,111])]])] r13.2).bind fun r15=>cond (qab qzd r15.1) ((cS (qaa r15.1 0) 0).bind fun s16=>(qcr qgv [.one (c10),.agg [Cell.str s14,Cell.str s16]] r15.2).bind fun r17=>cond (qab qbqc r17.1) ((cC (qaa r17.1 0) 0).bind fun c18=>(cB (qaa r17.1 1) 0).bind fun b19=>qre k m n (c7) (IntKind.i64.wrap (i8 - 1)) s9 (c18) s11 r17.2) none) none) none) (some ([.agg [Cell.str s9,c10,Cell.str s11]],H12))
def fca (k m:Nat)(c1:Cell)(s2:ByteArray)(H:List Entry):Option Res:=(qcz [.one (c1),.one (.lst true 1 [[Cell.str (bs [])],[Cell.str (bs [100,111,110,101,10])],[Cell.str (bs [120,32,121,10])]])] H).bind fun r3=>cond (qab qzd r3.1) ((cS (qaa r3.1 0) 0).bind fun s4=>(qbo [.one (c1),.one (Cell.int 3)] r3.2).bind fun r5=>cond (qab qhe r5.1) ((cI .i64 (qaa r5.1 0) 0).bind fun i6=>qre k m m (c1) i6 s2 (.lst true 2 []) s4 r5.2) none) none
abbrev qthb (k m:Nat):TB:=evC qiab qic (evF qiab (k+1)) m (sub [1,1,0,1,2,3] qic.code) none
abbrev qrxb (k m:Nat):TK:=qbu 0 (seqK (evC qiab qic (evF qiab (k+1)) m (sub [1,1,1] qic.code) none) (retK qiab qic))
theorem qjnb (k m:Nat):∀ (n:Nat) (c7:Cell) (i8:Int) (s9:ByteArray) (c10:Cell) (s11:ByteArray) (H12:List Entry),qdp (some [0,4,5,6]) (qthb k m) (qrxb k m) n ⟨fT 33 0 [(0,.av (.one (c7))),(4,.loc 4 0),(5,.loc 5 0),(6,.av (.one (Cell.int i8)))],fX 33 0 [(4,[Cell.str (bs []),.lst true 2 [],Cell.str (bs [])]),(5,[Cell.str s9,c10,Cell.str s11])],H12⟩=qre (k+1) m n c7 i8 s9 c10 s11 H12:=by
 intro n
 induction n with
 | zero=>intros;rfl
 | succ n ih=>intros;simp only[qre,← ih];kernel_rfl
theorem qphb (k m:Nat)(c1:Cell)(s2:ByteArray)(H:List Entry):evC qiab qic (evF qiab (k+1)) m qic.code none (retK qiab qic) (enter qic [.one (c1),.one (Cell.str s2)] H)=fca (k+1) m c1 s2 H:=by
 simp only[fca,← qjnb k m]
 kernel_rfl
theorem qcvb {c1:Cell}{s2:ByteArray}{H:List Entry}{r:Res}(k:Nat)(h:fca (k+1) (k+1) c1 s2 H=some r):qnj [.one (c1),.one (Cell.str s2)] H=some r:=qan (k:=k+2) (Eq.trans (Eq.trans (by kernel_rfl) (qphb k (k+1) c1 s2 H)) h)
def qbtc:List (Nat×Run):=[]
def qflb:Ctx:=ctx qbe qbd qbtc
def qiw:Run:=lim qflb qor
theorem qxeb:FnOk Tryd.prog OkT qor qiw:=qam (l:=qbtc) qac tyTab_ok qad okT .nil qor
def qxy (k m:Nat):Nat→Int→ByteArray→Option Res | 0,_,_=>none | n+1,i5,s6=>cond (decide (i5 > 9)) ((bytesOf [] (.lst true 1 [[.sc (.int .u8 (IntKind.u8.wrap (IntKind.i64.wrap (48+((IntKind.i64.wrap (i5.tdiv 10)).tmod 10)))))]])).bind fun s7=>(catS s7 s6).bind fun s8=>qxy k m n (IntKind.i64.wrap (i5.tdiv 10)) s8) (some ([.one (Cell.str s6)],[]))
def qprb (k m:Nat):Nat→ByteArray→Option Res | 0,_=>none | n+1,s3=>some ([.one (Cell.str s3)],[])
def fbr (k m:Nat)(i1:Int):Option Res:=cond (decide (i1 < 0)) ((bytesOf [] (.lst true 1 [[.sc (.int .u8 (IntKind.u8.wrap (IntKind.i64.wrap (48+((0:Int).tmod 10)))))]])).bind fun s2=>qprb k m m s2) ((bytesOf [] (.lst true 1 [[.sc (.int .u8 (IntKind.u8.wrap (IntKind.i64.wrap (48+(i1.tmod 10)))))]])).bind fun s4=>qxy k m m i1 s4)
abbrev qdtb (k m:Nat):TB:=evC qflb qjr (evF qflb (k+1)) m (sub [1,1,1,0,2,3] qjr.code) none
abbrev qacb (k m:Nat):TK:=qbu 0 (seqK (evC qflb qjr (evF qflb (k+1)) m (sub [1,1,1,1] qjr.code) none) (retK qflb qjr))
theorem qfib (k m:Nat):∀ (n:Nat) (i5:Int) (s6:ByteArray),qdp (some [0,3]) (qdtb k m) (qacb k m) n ⟨fT 25 0 [(0,.av (.one (Cell.int i5))),(3,.av (.one (Cell.str s6)))],fX 25 0 [],[]⟩=qxy (k+1) m n i5 s6:=by
 intro n
 induction n with
 | zero=>intros;rfl
 | succ n ih=>intros;simp only[qxy,← ih];kernel_rfl
theorem qhtb (k m:Nat):∀ (n:Nat) (s3:ByteArray),qdp (some [0,3]) (qdtb k m) (qacb k m) n ⟨fT 25 0 [(0,.av (.one (Cell.int 0))),(3,.av (.one (Cell.str s3)))],fX 25 0 [],[]⟩=qprb (k+1) m n s3:=by
 intro n
 induction n with
 | zero=>intros;rfl
 | succ n ih=>intros;simp only[qprb];kernel_rfl
theorem qnsb (k m:Nat)(i1:Int):evC qflb qjr (evF qflb (k+1)) m qjr.code none (retK qflb qjr) (enter qjr [.one (Cell.int i1)] [])=fbr (k+1) m i1:=by
 simp only[fbr,← qhtb k m,← qfib k m]
 kernel_rfl
theorem qzm {i1:Int}{r:Res}(k:Nat)(h:fbr (k+1) (k+1) i1=some r):qiw [.one (Cell.int i1)] []=some r:=qan (k:=k+2) (Eq.trans (Eq.trans (by kernel_rfl) (qnsb k (k+1) i1)) h)
def qbec:List (Nat×Run):=[(qfn,qbo),(qvw,qnj),(qnd,qcz),(qor,qiw)]
def qjub:Ctx:=ctx qbe qbd qbec
def qdo:Run:=lim qjub qju
theorem qipb:FnOk Tryd.prog OkT qju qdo:=qam (l:=qbec) qac tyTab_ok qad okT (.cons qwp (.cons ok_fca (.cons qvib (.cons qxeb .nil)))) qju
def qsh (k m:Nat):Nat→Int→ByteArray→Cell→ByteArray→List Entry→Option Res | 0,_,_,_,_,_=>none | n+1,i16,s17,c18,s19,H20=>cond (decide (i16 < 6)) ((qba qiw [.one (Cell.int i16)] []).bind fun r21=>cond (qab qsvb r21) ((cS (qaa r21 0) 0).bind fun s22=>(catS (bs [122]) s22).bind fun s23=>(app H20 2 32 (c18) [[Cell.str s23,Cell.str (bs [])]]).bind fun p24=>qsh k m n (IntKind.i64.wrap (i16+1)) s17 (p24.1) s19 p24.2) none) (some ([.agg [Cell.str s17,c18,Cell.str s19]],H20))
def fcd (k m:Nat)(c1:Cell)(H:List Entry):Option Res:=(qcz [.one (c1),.one (.lst true 1 [[Cell.str (bs [97,35,98,117,105,108,100])],[Cell.str (bs [98,35,116,101,115,116])],[Cell.str (bs [120])],[Cell.str (bs [])]])] H).bind fun r2=>cond (qab qzd r2.1) ((cS (qaa r2.1 0) 0).bind fun s3=>(qnj [.one (c1),.one (Cell.str s3)] r2.2).bind fun r4=>cond (qab qajc r4.1) ((cS (qaa r4.1 0) 0).bind fun s5=>(cC (qaa r4.1 0) 1).bind fun c6=>(cS (qaa r4.1 0) 2).bind fun s7=>(qbo [.one (c1),.one (Cell.int 8)] r4.2).bind fun r8=>cond (qab qhe r8.1) ((cI .i64 (qaa r8.1 0) 0).bind fun i9=>cond (i9==0) ((qcz [.one (c1),.one (.lst true 1 [[Cell.str (bs [97,47,98])],[Cell.str (bs [])],[Cell.str (bs [97])],[Cell.str (bs [122,122])]])] r8.2).bind fun r10=>cond (qab qzd r10.1) ((cS (qaa r10.1 0) 0).bind fun s11=>(app r10.2 2 32 (c6) [[Cell.str s11,Cell.str (bs [])]]).bind fun p12=>some ([.agg [Cell.str s5,p12.1,Cell.str s7]],p12.2)) none) (cond (i9==1) ((qbo [.one (c1),.one (Cell.int 2)] r8.2).bind fun r13=>cond (qab qhe r13.1) ((cI .i64 (qaa r13.1 0) 0).bind fun i14=>if 0≤(IntKind.i64.wrap (200+i14))∧(IntKind.i64.wrap (200+i14))≤(IntKind.i64.wrap (200+i14))∧(IntKind.i64.wrap (200+i14))*1≤bound∧(IntKind.i64.wrap (200+i14))≤bound then ((bytesOf (r13.2++[Entry.mk 1 (qbh (IntKind.i64.wrap (200+i14)).toNat [.sc (.int .u8 0)]) 0 false]) ((.vs r13.2.length 1 0 (IntKind.i64.wrap (200+i14)).toNat 0))).bind fun s15=>some ([.agg [Cell.str s5,c6,Cell.str s15]],(r13.2++[Entry.mk 1 (qbh (IntKind.i64.wrap (200+i14)).toNat [.sc (.int .u8 0)]) 0 false]))) else none) none) (cond (i9==2) (qsh k m m 0 s5 (c6) s7 r8.2) (some ([.agg [Cell.str s5,c6,Cell.str s7]],r8.2))))) none) none) none
abbrev qpmb (k m:Nat):TB:=evC qjub qjk (evF qjub (k+1)) m (sub [1,1,0,1,2,1,5,1,5,1,4,1,2,3] qjk.code) none
abbrev qpub (k m:Nat):TK:=qbu 1 (qbu 0 (seqK (evC qjub qjk (evF qjub (k+1)) m (sub [1,1,1] qjk.code) none) (retK qjub qjk)))
theorem qhpb (k m:Nat):∀ (n:Nat) (i16:Int) (s17:ByteArray) (c18:Cell) (s19:ByteArray) (H20:List Entry),qdp (some [2,3,4]) (qpmb k m) (qpub k m) n ⟨fT 47 0 [(2,.loc 2 0),(3,.loc 3 0),(4,.av (.one (Cell.int i16)))],fX 47 0 [(2,[Cell.str (bs []),.lst true 2 [],Cell.str (bs [])]),(3,[Cell.str s17,c18,Cell.str s19])],H20⟩=qsh (k+1) m n i16 s17 c18 s19 H20:=by
 intro n
 induction n with
 | zero=>intros;rfl
 | succ n ih=>intros;simp only[qsh,← ih];kernel_rfl
theorem qolb (k m:Nat)(c1:Cell)(H:List Entry):evC qjub qjk (evF qjub (k+1)) m qjk.code none (retK qjub qjk) (enter qjk [.one (c1)] H)=fcd (k+1) m c1 H:=by
 simp only[fcd,← qhpb k m]
 kernel_rfl
theorem qfv {c1:Cell}{H:List Entry}{r:Res}(k:Nat)(h:fcd (k+1) (k+1) c1 H=some r):qdo [.one (c1)] H=some r:=qan (k:=k+2) (Eq.trans (Eq.trans (by kernel_rfl) (qolb k (k+1) c1 H)) h)
def qyzb:List (Nat×Run):=[(qjl,qdz),(qju,qdo)]
def qcqc:Ctx:=ctx qbe qbd qyzb
def qpj:Run:=lim qcqc qsx
theorem ok_fbk:FnOk Tryd.prog OkT qsx qpj:=qam (l:=qyzb) qac tyTab_ok qad okT (.cons qkhb (.cons qipb .nil)) qsx
def fbk (k m:Nat)(c1:Cell):Option Res:=(qdz [.one (c1)] []).bind fun r2=>cond (qab qcnb r2.1) ((cC (qaa r2.1 0) 0).bind fun c3=>(qdo [.one (c3)] r2.2).bind fun r4=>cond (qab qwy r4.1) ((cS (qaa r4.1 0) 0).bind fun s5=>(cC (qaa r4.1 0) 1).bind fun c6=>(cS (qaa r4.1 0) 2).bind fun s7=>some ([.agg [Cell.str s5,c6,Cell.str s7]],r4.2)) none) none
theorem qspb (k m:Nat)(c1:Cell):evC qcqc qxc (evF qcqc (k+1)) m qxc.code none (retK qcqc qxc) (enter qxc [.one (c1)] [])=fbk (k+1) m c1:=by
 kernel_rfl
theorem qdbb {c1:Cell}{r:Res}(k:Nat)(h:fbk (k+1) (k+1) c1=some r):qpj [.one (c1)] []=some r:=qan (k:=k+2) (Eq.trans (Eq.trans (by kernel_rfl) (qspb k (k+1) c1)) h)
def qbgc:List (Nat×Run):=[]
def qcyc:Ctx:=ctx qbe qbd qbgc
def qfb:Run:=lim qcyc qok
theorem qwpb:FnOk Tryd.prog OkT qok qfb:=qam (l:=qbgc) qac tyTab_ok qad okT .nil qok
def fau (k m:Nat)(c1:Cell)(s2:ByteArray)(H:List Entry):Option Res:=cond (decide ((s2.size:Int) > 60000)) (some ([.one (c1)],H)) ((app H 1 1 (c1) [[.sc (.int .u8 (IntKind.u8.wrap (shrI .i64 (s2.size:Int) 8)))],[.sc (.int .u8 (IntKind.u8.wrap (s2.size:Int)))]]).bind fun p3=>(app p3.2 1 1 (p3.1) (qcg s2)).bind fun p4=>some ([.one (p4.1)],p4.2))
theorem qplb (k m:Nat)(c1:Cell)(s2:ByteArray)(H:List Entry):evC qcyc qxb (evF qcyc (k+1)) m qxb.code none (retK qcyc qxb) (enter qxb [.one (c1),.one (Cell.str s2)] H)=fau (k+1) m c1 s2 H:=by
 kernel_rfl
theorem qoq {c1:Cell}{s2:ByteArray}{H:List Entry}{r:Res}(k:Nat)(h:fau (k+1) (k+1) c1 s2 H=some r):qfb [.one (c1),.one (Cell.str s2)] H=some r:=qan (k:=k+2) (Eq.trans (Eq.trans (by kernel_rfl) (qplb k (k+1) c1 s2 H)) h)
def qaqc:List (Nat×Run):=[(qmlb,qtl)]
def qdgc:Ctx:=ctx qbe qbd qaqc
def qjp:Run:=lim qdgc qpy
theorem qbuc:FnOk Tryd.prog OkT qpy qjp:=qam (l:=qaqc) qac tyTab_ok qad okT (.cons ok_fcs .nil) qpy
def fag (k m:Nat)(i1:Int):Option Res:=(qba qtl [.one (Cell.int (if i1 < 0 then 0 else i1))] []).bind fun r2=>cond (qab qvxb r2) ((cS (qaa r2 0) 0).bind fun s3=>some ([.one (Cell.str s3)],[])) none
theorem qubb (k m:Nat)(i1:Int):evC qdgc qyk (evF qdgc (k+1)) m qyk.code none (retK qdgc qyk) (enter qyk [.one (Cell.int i1)] [])=fag (k+1) m i1:=by
 kernel_rfl
theorem qdhb {i1:Int}{r:Res}(k:Nat)(h:fag (k+1) (k+1) i1=some r):qjp [.one (Cell.int i1)] []=some r:=qan (k:=k+2) (Eq.trans (Eq.trans (by kernel_rfl) (qubb k (k+1) i1)) h)
def qywb:List (Nat×Run):=[(qok,qfb),(qpy,qjp)]
def qevb:Ctx:=ctx qbe qbd qywb
def qqq:Run:=lim qevb quu
theorem ok_fat:FnOk Tryd.prog OkT quu qqq:=qam (l:=qywb) qac tyTab_ok qad okT (.cons qwpb (.cons qbuc .nil)) quu
def qsi (k m:Nat):Nat→Cell→Cell→Int→Int→List Entry→Option Res | 0,_,_,_,_,_=>none | n+1,c9,c10,i11,i12,H13=>cond (decide (i12 < i11)) ((idxA 2 (c10) i12).bind fun c14=>(deref H13 (c14)).bind fun p15=>(cS p15.1 p15.2).bind fun s16=>(cS p15.1 (p15.2+1)).bind fun s17=>(qfb [.one (c9),.one (Cell.str s16)] H13).bind fun r18=>cond (qab qxj r18.1) ((cC (qaa r18.1 0) 0).bind fun c19=>(qfb [.one (c19),.one (Cell.str s17)] r18.2).bind fun r20=>cond (qab qxj r20.1) ((cC (qaa r20.1 0) 0).bind fun c21=>qsi k m n (c21) (c10) i11 (IntKind.i64.wrap (i12+1)) r20.2) none) none) (some ([.one (c9)],H13))
def fat (k m:Nat)(c1 c2:Cell)(H:List Entry):Option Res:=(lenC c2).bind fun n3=>(qba qjp [.one (Cell.int (n3:Int))] H).bind fun r4=>cond (qab qtrb r4) ((cS (qaa r4 0) 0).bind fun s5=>(qfb [.one (c1),.one (Cell.str s5)] H).bind fun r6=>cond (qab qxj r6.1) ((cC (qaa r6.1 0) 0).bind fun c7=>(lenC c2).bind fun n8=>qsi k m m (c7) (c2) (n8:Int) 0 r6.2) none) none
abbrev qrkb (k m:Nat):TB:=evC qevb qjc (evF qevb (k+1)) m (sub [1,1,0,1,2,3] qjc.code) none
abbrev qtjb (k m:Nat):TK:=qbu 0 (seqK (evC qevb qjc (evF qevb (k+1)) m (sub [1,1,1] qjc.code) none) (retK qevb qjc))
theorem qfbb (k m:Nat):∀ (n:Nat) (c9 c10:Cell) (i11 i12:Int) (H13:List Entry),qdp (some [0,12,13,14]) (qrkb k m) (qtjb k m) n ⟨fT 27 0 [(0,.av (.one (c9))),(12,.av (.one (c10))),(13,.av (.one (Cell.int i11))),(14,.av (.one (Cell.int i12)))],fX 27 0 [],H13⟩=qsi (k+1) m n c9 c10 i11 i12 H13:=by
 intro n
 induction n with
 | zero=>intros;rfl
 | succ n ih=>intros;simp only[qsi,← ih];kernel_rfl
theorem qnab (k m:Nat)(c1 c2:Cell)(H:List Entry):evC qevb qjc (evF qevb (k+1)) m qjc.code none (retK qevb qjc) (enter qjc [.one (c1),.one (c2)] H)=fat (k+1) m c1 c2 H:=by
 simp only[fat,← qfbb k m]
 kernel_rfl
theorem qchb {c1 c2:Cell}{H:List Entry}{r:Res}(k:Nat)(h:fat (k+1) (k+1) c1 c2 H=some r):qqq [.one (c1),.one (c2)] H=some r:=qan (k:=k+2) (Eq.trans (Eq.trans (by kernel_rfl) (qnab k (k+1) c1 c2 H)) h)
def qxsb:List (Nat×Run):=[(quu,qqq),(qok,qfb)]
def qkyb:Ctx:=ctx qbe qbd qxsb
def qfs:Run:=lim qkyb qpi
theorem qyjb:FnOk Tryd.prog OkT qpi qfs:=qam (l:=qxsb) qac tyTab_ok qad okT (.cons ok_fat (.cons qwpb .nil)) qpi
def qra (k m:Nat):Nat→Cell→Int→Cell→Int→Int→List Entry→Option Res | 0,_,_,_,_,_,_=>none | n+1,c11,i12,c13,i14,i15,H16=>cond (decide (i15 < i14)) ((idxA 1 (c13) i15).bind fun c17=>(deref H16 (c17)).bind fun p18=>(cI .u8 p18.1 p18.2).bind fun i19=>qra k m n (c11) (IntKind.i64.wrap (i12+(IntKind.i64.wrap i19))) (c13) i14 (IntKind.i64.wrap (i15+1)) H16) ((app H16 1 1 (c11) [[.sc (.int .u8 (IntKind.u8.wrap (shrI .i64 i12 8)))],[.sc (.int .u8 (IntKind.u8.wrap i12))]]).bind fun p20=>some ([.one (p20.1)],p20.2))
def fak (k m:Nat)(s1:ByteArray)(c2:Cell)(s3:ByteArray):Option Res:=(qfb [.one (.lst true 1 []),.one (Cell.str s1)] []).bind fun r4=>cond (qab qxj r4.1) ((cC (qaa r4.1 0) 0).bind fun c5=>(qfb [.one (c5),.one (Cell.str s3)] r4.2).bind fun r6=>cond (qab qxj r6.1) ((cC (qaa r6.1 0) 0).bind fun c7=>(qqq [.one (c7),.one (c2)] r6.2).bind fun r8=>cond (qab qwlb r8.1) ((cC (qaa r8.1 0) 0).bind fun c9=>(lenC c9).bind fun n10=>qra k m m (c9) 0 (c9) (n10:Int) 0 r8.2) none) none) none
abbrev qtgb (k m:Nat):TB:=evC qkyb qjt (evF qkyb (k+1)) m (sub [1,1,1,0,1,2,3] qjt.code) none
abbrev qpxb (k m:Nat):TK:=qbu 0 (seqK (evC qkyb qjt (evF qkyb (k+1)) m (sub [1,1,1,1] qjt.code) none) (retK qkyb qjt))
theorem qjmb (k m:Nat):∀ (n:Nat) (c11:Cell) (i12:Int) (c13:Cell) (i14 i15:Int) (H16:List Entry),qdp (some [3,4,16,17,18]) (qtgb k m) (qpxb k m) n ⟨fT 35 0 [(3,.av (.one (c11))),(4,.av (.one (Cell.int i12))),(16,.av (.one (c13))),(17,.av (.one (Cell.int i14))),(18,.av (.one (Cell.int i15)))],fX 35 0 [],H16⟩=qra (k+1) m n c11 i12 c13 i14 i15 H16:=by
 intro n
 induction n with
 | zero=>intros;rfl
 | succ n ih=>intros;simp only[qra,← ih];kernel_rfl
theorem qqob (k m:Nat)(s1:ByteArray)(c2:Cell)(s3:ByteArray):evC qkyb qjt (evF qkyb (k+1)) m qjt.code none (retK qkyb qjt) (enter qjt [.agg [Cell.str s1,c2,Cell.str s3]] [])=fak (k+1) m s1 c2 s3:=by
 simp only[fak,← qjmb k m]
 kernel_rfl
theorem qbyb {s1:ByteArray}{c2:Cell}{s3:ByteArray}{r:Res}(k:Nat)(h:fak (k+1) (k+1) s1 c2 s3=some r):qfs [.agg [Cell.str s1,c2,Cell.str s3]] []=some r:=qan (k:=k+2) (Eq.trans (Eq.trans (by kernel_rfl) (qqob k (k+1) s1 c2 s3)) h)
def qwkb:List (Nat×Run):=[]
def qjzb:Ctx:=ctx qbe qbd qwkb
def qdx:Run:=lim qjzb qln
theorem qtib:FnOk Tryd.prog OkT qln qdx:=qam (l:=qwkb) qac tyTab_ok qad okT .nil qln
def qqx (k m:Nat):Nat→Cell→Int→Int→Option Res | 0,_,_,_=>none | n+1,c2,i3,i4=>(lenC c2).bind fun n5=>cond (decide (i4 < (n5:Int))) ((idxA 1 (c2) i4).bind fun c6=>(deref [] (c6)).bind fun p7=>(cI .u8 p7.1 p7.2).bind fun i8=>qqx k m n (c2) ((IntKind.i64.wrap (i3+(IntKind.i64.wrap i8))).tmod 65536) (IntKind.i64.wrap (i4+1))) (some ([.one (Cell.int i3)],[]))
def fce (k m:Nat)(c1:Cell):Option Res:=qqx k m m (c1) 0 0
abbrev qqzb (k m:Nat):TB:=evC qjzb qhy (evF qjzb (k+1)) m (sub [1,1,0,1,2,3] qhy.code) none
abbrev qpnb (k m:Nat):TK:=qbu 0 (seqK (evC qjzb qhy (evF qjzb (k+1)) m (sub [1,1,1] qhy.code) none) (retK qjzb qhy))
theorem qkob (k m:Nat):∀ (n:Nat) (c2:Cell) (i3 i4:Int),qdp (some [0,3,4]) (qqzb k m) (qpnb k m) n ⟨fT 20 0 [(0,.av (.one (c2))),(3,.av (.one (Cell.int i3))),(4,.av (.one (Cell.int i4)))],fX 20 0 [],[]⟩=qqx (k+1) m n c2 i3 i4:=by
 intro n
 induction n with
 | zero=>intros;rfl
 | succ n ih=>intros;simp only[qqx,← ih];kernel_rfl
theorem qokb (k m:Nat)(c1:Cell):evC qjzb qhy (evF qjzb (k+1)) m qhy.code none (retK qjzb qhy) (enter qhy [.one (c1)] [])=fce (k+1) m c1:=by
 simp only[fce,← qkob k m]
 kernel_rfl
theorem qdyb {c1:Cell}{r:Res}(k:Nat)(h:fce (k+1) (k+1) c1=some r):qdx [.one (c1)] []=some r:=qan (k:=k+2) (Eq.trans (Eq.trans (by kernel_rfl) (qokb k (k+1) c1)) h)
end
end Go.Ev
