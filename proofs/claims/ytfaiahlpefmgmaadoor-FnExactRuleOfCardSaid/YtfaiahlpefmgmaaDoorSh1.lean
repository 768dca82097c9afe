/- What the evaluator says of the functions, each as a Lean function over cells. Printed by a program of this claim. Conditions: none. -/
import Derived.Test.YtfaiahlpefmgmaaDoorSh0
import Derived.KernelRfl
namespace Go.Ev
open Go Go.Proofs
noncomputable section
set_option maxRecDepth 100000
set_option linter.unusedVariables false
set_option linter.unusedSimpArgs false
def qbqc:List (Nat×Run):=[(qvo,qno)]
def qekc:Ctx:=ctx qbk qbj qbqc
def qpi:Run:=lim qekc qvd
theorem ok_fcf:FnOk Tryd.prog OkT qvd qpi:=qao (l:=qbqc) qac tyTab_ok qad okT (.cons ok_fcr .nil) qvd
def fcf (k m:Nat)(c1:Cell)(s2:ByteArray)(i3 i4:Int)(s5:ByteArray)(c6 c7:Cell)(H:List Entry):Option Res:=(qdy qno [.agg [Cell.int i3,Cell.int i4,Cell.str s5,c6,c7]] H).bind fun r8=>cond (qab qcwc r8.1) ((cC (qaa r8.1 0) 0).bind fun c9=>(cB (qaa r8.1 1) 0).bind fun b10=>cond (s2.toList==(bs [101,110,118]).toList) ((ptrC c1).bind fun c11=>(fldA c11 3).bind fun c12=>(qbl r8.2 (c12) [c9]).bind fun h13=>some ([.one (Cell.bool b10)],h13)) (cond (s2.toList==(bs [105,110]).toList) ((ptrC c1).bind fun c14=>(fldA c14 2).bind fun c15=>(qbl r8.2 (c15) [c9]).bind fun h16=>some ([.one (Cell.bool b10)],h16)) (cond (s2.toList==(bs [111,110]).toList) ((ptrC c1).bind fun c17=>(fldA c17 1).bind fun c18=>(qbl r8.2 (c18) [c9]).bind fun h19=>some ([.one (Cell.bool b10)],h19)) (cond (s2.toList==(bs [107,101,101,112]).toList) ((ptrC c1).bind fun c20=>(fldA c20 4).bind fun c21=>(qbl r8.2 (c21) [Cell.bool (i4==1)]).bind fun h22=>some ([.one (Cell.bool (i3==1))],h22)) (some ([.one (Cell.bool false)],r8.2)))))) none
theorem qtab (k m:Nat)(c1:Cell)(s2:ByteArray)(i3 i4:Int)(s5:ByteArray)(c6 c7:Cell)(H:List Entry):evC qekc qyl (evF qekc (k+1)) m qyl.code none (retK qekc qyl) (enter qyl [.one (c1),.one (Cell.str s2),.agg [Cell.int i3,Cell.int i4,Cell.str s5,c6,c7]] H)=fcf (k+1) m c1 s2 i3 i4 s5 c6 c7 H:=by
 kernel_rfl
theorem qec {c1:Cell}{s2:ByteArray}{i3 i4:Int}{s5:ByteArray}{c6 c7:Cell}{H:List Entry}{r:Res}(k:Nat)(h:fcf (k+1) (k+1) c1 s2 i3 i4 s5 c6 c7 H=some r):qpi [.one (c1),.one (Cell.str s2),.agg [Cell.int i3,Cell.int i4,Cell.str s5,c6,c7]] H=some r:=qap (k:=k+2) (Eq.trans (Eq.trans (by kernel_rfl) (qtab k (k+1) c1 s2 i3 i4 s5 c6 c7 H)) h)
def qbkc:List (Nat×Run):=[(qfi,qag)]
def qdwc:Ctx:=ctx qbk qbj qbkc
def qgh:Run:=lim qdwc qle
theorem qvjb:FnOk Tryd.prog OkT qle qgh:=qao (l:=qbkc) qac tyTab_ok qad okT (.cons qsi .nil) qle
def fcj (k m:Nat)(i1:Int):Option Res:=(qaj qag [.one (Cell.int (IntKind.i64.wrap i1)),.one (Cell.int 97),.one (Cell.int 122)] []).bind fun r2=>cond (qab qan r2) ((cB (qaa r2 0) 0).bind fun b3=>some ([.one (Cell.bool b3)],[])) none
theorem qoxb (k m:Nat)(i1:Int):evC qdwc qxs (evF qdwc (k+1)) m qxs.code none (retK qdwc qxs) (enter qxs [.one (.sc (.int .u8 i1))] [])=fcj (k+1) m i1:=by
 kernel_rfl
theorem qarb {i1:Int}{r:Res}(k:Nat)(h:fcj (k+1) (k+1) i1=some r):qgh [.one (.sc (.int .u8 i1))] []=some r:=qap (k:=k+2) (Eq.trans (Eq.trans (by kernel_rfl) (qoxb k (k+1) i1)) h)
def qwxb:List (Nat×Run):=[(qfi,qag)]
def qeac:Ctx:=ctx qbk qbj qwxb
def qgc:Run:=lim qeac qlh
theorem qpsb:FnOk Tryd.prog OkT qlh qgc:=qao (l:=qwxb) qac tyTab_ok qad okT (.cons qsi .nil) qlh
def fch (k m:Nat)(i1:Int):Option Res:=(qaj qag [.one (Cell.int (IntKind.i64.wrap i1)),.one (Cell.int 48),.one (Cell.int 57)] []).bind fun r2=>cond (qab qan r2) ((cB (qaa r2 0) 0).bind fun b3=>some ([.one (Cell.bool b3)],[])) none
theorem qqeb (k m:Nat)(i1:Int):evC qeac qyx (evF qeac (k+1)) m qyx.code none (retK qeac qyx) (enter qyx [.one (.sc (.int .u8 i1))] [])=fch (k+1) m i1:=by
 kernel_rfl
theorem qbgb {i1:Int}{r:Res}(k:Nat)(h:fch (k+1) (k+1) i1=some r):qgc [.one (.sc (.int .u8 i1))] []=some r:=qap (k:=k+2) (Eq.trans (Eq.trans (by kernel_rfl) (qqeb k (k+1) i1)) h)
def qaoc:List (Nat×Run):=[(qle,qgh),(qlh,qgc),(qfi,qag)]
def qjxb:Ctx:=ctx qbk qbj qaoc
def qcs:Run:=lim qjxb qlb
theorem qvnb:FnOk Tryd.prog OkT qlb qcs:=qao (l:=qaoc) qac tyTab_ok qad okT (.cons qvjb (.cons qpsb (.cons qsi .nil))) qlb
def qmt (k m:Nat):Nat→ByteArray→Int→Option Res | 0,_,_=>none | n+1,s2,i3=>cond (decide (i3 < (s2.size:Int))) ((bytS s2 i3).bind fun i4=>(qaj qgh [.one (.sc (.int .u8 i4))] []).bind fun r5=>cond (qab qgkb r5) ((cB (qaa r5 0) 0).bind fun b6=>cond (!b6) (cond (i3==0) (some ([.one (Cell.bool false)],[])) ((bytS s2 i3).bind fun i7=>(qaj qgc [.one (.sc (.int .u8 i7))] []).bind fun r8=>cond (qab qfvb r8) ((cB (qaa r8 0) 0).bind fun b9=>cond (!b9) ((bytS s2 i3).bind fun i10=>cond (i10 != 45) (some ([.one (Cell.bool false)],[])) (qmt k m n s2 (IntKind.i64.wrap (i3+1)))) (qmt k m n s2 (IntKind.i64.wrap (i3+1)))) none)) (qmt k m n s2 (IntKind.i64.wrap (i3+1)))) none) ((qaj qag [.one (Cell.int (s2.size:Int)),.one (Cell.int 1),.one (Cell.int 10)] []).bind fun r11=>cond (qab qan r11) ((cB (qaa r11 0) 0).bind fun b12=>some ([.one (Cell.bool b12)],[])) none)
def fca (k m:Nat)(s1:ByteArray):Option Res:=qmt k m m s1 0
abbrev qsbb (k m:Nat):TB:=evC qjxb qib (evF qjxb (k+1)) m (sub [1,0,1,2,3] qib.code) none
abbrev qrvb (k m:Nat):TK:=qbi 0 (seqK (evC qjxb qib (evF qjxb (k+1)) m (sub [1,1] qib.code) none) (retK qjxb qib))
theorem qfeb (k m:Nat):∀ (n:Nat) (s2:ByteArray) (i3:Int),qcz (some [0,3]) (qsbb k m) (qrvb k m) n ⟨fT 35 0 [(0,.av (.one (Cell.str s2))),(3,.av (.one (Cell.int i3)))],fX 35 0 [],[]⟩=qmt (k+1) m n s2 i3:=by
 intro n
 induction n with
 | zero=>intros;rfl
 | succ n ih=>intros;simp only[qmt,← ih];kernel_rfl
theorem qtlb (k m:Nat)(s1:ByteArray):evC qjxb qib (evF qjxb (k+1)) m qib.code none (retK qjxb qib) (enter qib [.one (Cell.str s1)] [])=fca (k+1) m s1:=by
 simp only[fca,← qfeb k m]
 kernel_rfl
theorem qbjb {s1:ByteArray}{r:Res}(k:Nat)(h:fca (k+1) (k+1) s1=some r):qcs [.one (Cell.str s1)] []=some r:=qap (k:=k+2) (Eq.trans (Eq.trans (by kernel_rfl) (qtlb k (k+1) s1)) h)
def qxub:List (Nat×Run):=[]
def qgrb:Ctx:=ctx qbk qbj qxub
def qfj:Run:=lim qgrb qor
theorem qblc:FnOk Tryd.prog OkT qor qfj:=qao (l:=qxub) qac tyTab_ok qad okT .nil qor
def qmu (k m:Nat):Nat→ByteArray→Int→Cell→Int→Int→List Entry→Option Res | 0,_,_,_,_,_,_=>none | n+1,s3,i4,c5,i6,i7,H8=>cond (decide (i7≤(s3.size:Int))) (cond (i7==(s3.size:Int)) ((subS s3 i6 i7).bind fun s9=>(app H8 1 16 (c5) [[Cell.str s9]]).bind fun p10=>qmu k m n s3 i4 (p10.1) (IntKind.i64.wrap (i7+1)) (IntKind.i64.wrap (i7+1)) p10.2) ((bytS s3 i7).bind fun i11=>cond (i11==i4) ((subS s3 i6 i7).bind fun s12=>(app H8 1 16 (c5) [[Cell.str s12]]).bind fun p13=>qmu k m n s3 i4 (p13.1) (IntKind.i64.wrap (i7+1)) (IntKind.i64.wrap (i7+1)) p13.2) (qmu k m n s3 i4 (c5) i6 (IntKind.i64.wrap (i7+1)) H8))) (some ([.one (c5)],H8))
def fcd (k m:Nat)(s1:ByteArray)(i2:Int):Option Res:=qmu k m m s1 i2 (.lst true 1 []) 0 0 []
abbrev quzb (k m:Nat):TB:=evC qgrb qii (evF qgrb (k+1)) m (sub [1,1,1,0,1,2,3] qii.code) none
abbrev qsab (k m:Nat):TK:=qbi 0 (seqK (evC qgrb qii (evF qgrb (k+1)) m (sub [1,1,1,1] qii.code) none) (retK qgrb qii))
theorem qgvb (k m:Nat):∀ (n:Nat) (s3:ByteArray) (i4:Int) (c5:Cell) (i6 i7:Int) (H8:List Entry),qcz (some [0,1,5,6,7]) (quzb k m) (qsab k m) n ⟨fT 36 0 [(0,.av (.one (Cell.str s3))),(1,.av (.one (.sc (.int .u8 i4)))),(5,.av (.one (c5))),(6,.av (.one (Cell.int i6))),(7,.av (.one (Cell.int i7)))],fX 36 0 [],H8⟩=qmu (k+1) m n s3 i4 c5 i6 i7 H8:=by
 intro n
 induction n with
 | zero=>intros;rfl
 | succ n ih=>intros;simp only[qmu,← ih];kernel_rfl
theorem qvcb (k m:Nat)(s1:ByteArray)(i2:Int):evC qgrb qii (evF qgrb (k+1)) m qii.code none (retK qgrb qii) (enter qii [.one (Cell.str s1),.one (.sc (.int .u8 i2))] [])=fcd (k+1) m s1 i2:=by
 simp only[fcd,← qgvb k m]
 kernel_rfl
theorem qazb {s1:ByteArray}{i2:Int}{r:Res}(k:Nat)(h:fcd (k+1) (k+1) s1 i2=some r):qfj [.one (Cell.str s1),.one (.sc (.int .u8 i2))] []=some r:=qap (k:=k+2) (Eq.trans (Eq.trans (by kernel_rfl) (qvcb k (k+1) s1 i2)) h)
def qxpb:List (Nat×Run):=[(qlb,qcs),(qor,qfj)]
def qelc:Ctx:=ctx qbk qbj qxpb
def qpw:Run:=lim qelc qun
theorem ok_fcb:FnOk Tryd.prog OkT qun qpw:=qao (l:=qxpb) qac tyTab_ok qad okT (.cons qvnb (.cons qblc .nil)) qun
def fcb (k m:Nat)(s1:ByteArray):Option Res:=cond (decide ((s1.size:Int) > 0)) ((bytS s1 0).bind fun i2=>cond (i2==94) ((subS s1 1 (s1.size:Int)).bind fun s3=>(qaj qcs [.one (Cell.str s3)] []).bind fun r4=>cond (qab qkx r4) ((cB (qaa r4 0) 0).bind fun b5=>some ([.one (Cell.bool b5)],[])) none) ((callL qfj [.one (Cell.str s1),.one (.sc (.int .u8 35))] []).bind fun r6=>cond (qab qfcb r6.1) ((cC (qaa r6.1 0) 0).bind fun c7=>(lenC c7).bind fun n8=>cond ((n8:Int)==2) ((idxA 1 (c7) 0).bind fun c9=>(deref r6.2 (c9)).bind fun p10=>(cS p10.1 p10.2).bind fun s11=>(qaj qcs [.one (Cell.str s11)] r6.2).bind fun r12=>cond (qab qkx r12) ((cB (qaa r12 0) 0).bind fun b13=>cond b13 ((idxA 1 (c7) 1).bind fun c14=>(deref r6.2 (c14)).bind fun p15=>(cS p15.1 p15.2).bind fun s16=>(qaj qcs [.one (Cell.str s16)] r6.2).bind fun r17=>cond (qab qkx r17) ((cB (qaa r17 0) 0).bind fun b18=>some ([.one (Cell.bool b18)],r6.2)) none) (some ([.one (Cell.bool false)],r6.2))) none) ((qaj qcs [.one (Cell.str s1)] r6.2).bind fun r19=>cond (qab qkx r19) ((cB (qaa r19 0) 0).bind fun b20=>some ([.one (Cell.bool b20)],r6.2)) none)) none)) ((callL qfj [.one (Cell.str s1),.one (.sc (.int .u8 35))] []).bind fun r21=>cond (qab qfcb r21.1) ((cC (qaa r21.1 0) 0).bind fun c22=>(lenC c22).bind fun n23=>cond ((n23:Int)==2) ((idxA 1 (c22) 0).bind fun c24=>(deref r21.2 (c24)).bind fun p25=>(cS p25.1 p25.2).bind fun s26=>(qaj qcs [.one (Cell.str s26)] r21.2).bind fun r27=>cond (qab qkx r27) ((cB (qaa r27 0) 0).bind fun b28=>cond b28 ((idxA 1 (c22) 1).bind fun c29=>(deref r21.2 (c29)).bind fun p30=>(cS p30.1 p30.2).bind fun s31=>(qaj qcs [.one (Cell.str s31)] r21.2).bind fun r32=>cond (qab qkx r32) ((cB (qaa r32 0) 0).bind fun b33=>some ([.one (Cell.bool b33)],r21.2)) none) (some ([.one (Cell.bool false)],r21.2))) none) ((qaj qcs [.one (Cell.str s1)] r21.2).bind fun r34=>cond (qab qkx r34) ((cB (qaa r34 0) 0).bind fun b35=>some ([.one (Cell.bool b35)],r21.2)) none)) none)
theorem qrab (k m:Nat)(s1:ByteArray):evC qelc qxe (evF qelc (k+1)) m qxe.code none (retK qelc qxe) (enter qxe [.one (Cell.str s1)] [])=fcb (k+1) m s1:=by
 kernel_rfl
theorem qbrb {s1:ByteArray}{r:Res}(k:Nat)(h:fcb (k+1) (k+1) s1=some r):qpw [.one (Cell.str s1)] []=some r:=qap (k:=k+2) (Eq.trans (Eq.trans (by kernel_rfl) (qrab k (k+1) s1)) h)
def qaqc:List (Nat×Run):=[(qle,qgh),(qlh,qgc),(qfi,qag)]
def qkgb:Ctx:=ctx qbk qbj qaqc
def qoi:Run:=lim qkgb qvu
theorem ok_fco:FnOk Tryd.prog OkT qvu qoi:=qao (l:=qaqc) qac tyTab_ok qad okT (.cons qvjb (.cons qpsb (.cons qsi .nil))) qvu
def qko (k m:Nat):Nat→ByteArray→Int→Int→Option Res | 0,_,_,_=>none | n+1,s4,i5,i6=>cond (decide (i5 < (s4.size:Int))) ((bytS s4 i5).bind fun i7=>(qaj qgh [.one (.sc (.int .u8 i7))] []).bind fun r8=>cond (qab qgkb r8) ((cB (qaa r8 0) 0).bind fun b9=>cond b9 (qko k m n s4 (IntKind.i64.wrap (i5+1)) (IntKind.i64.wrap (i6+1))) ((bytS s4 i5).bind fun i10=>(qaj qgc [.one (.sc (.int .u8 i10))] []).bind fun r11=>cond (qab qfvb r11) ((cB (qaa r11 0) 0).bind fun b12=>cond b12 (qko k m n s4 (IntKind.i64.wrap (i5+1)) (IntKind.i64.wrap (i6+1))) ((qaj qag [.one (Cell.int i6),.one (Cell.int 1),.one (Cell.int 5)] []).bind fun r13=>cond (qab qan r13) ((cB (qaa r13 0) 0).bind fun b14=>cond (!b14) (some ([.one (Cell.int (-1))],[])) (cond (decide (i5≥(s4.size:Int))) (some ([.one (Cell.int (-1))],[])) ((bytS s4 i5).bind fun i15=>cond (i15 != 93) (some ([.one (Cell.int (-1))],[])) (some ([.one (Cell.int (IntKind.i64.wrap (i5+1)))],[]))))) none)) none)) none) ((qaj qag [.one (Cell.int i6),.one (Cell.int 1),.one (Cell.int 5)] []).bind fun r16=>cond (qab qan r16) ((cB (qaa r16 0) 0).bind fun b17=>cond (!b17) (some ([.one (Cell.int (-1))],[])) (cond (decide (i5≥(s4.size:Int))) (some ([.one (Cell.int (-1))],[])) ((bytS s4 i5).bind fun i18=>cond (i18 != 93) (some ([.one (Cell.int (-1))],[])) (some ([.one (Cell.int (IntKind.i64.wrap (i5+1)))],[]))))) none)
def fco (k m:Nat)(s1:ByteArray)(i2:Int):Option Res:=cond (decide ((IntKind.i64.wrap (i2+1)) < (s1.size:Int))) ((bytS s1 (IntKind.i64.wrap (i2+1))).bind fun i3=>cond (i3==33) (qko k m m s1 (IntKind.i64.wrap ((IntKind.i64.wrap (i2+1))+1)) 0) (qko k m m s1 (IntKind.i64.wrap (i2+1)) 0)) (qko k m m s1 (IntKind.i64.wrap (i2+1)) 0)
abbrev qofb (k m:Nat):TB:=evC qkgb qin (evF qkgb (k+1)) m (sub [1,1,1,1,0,2,3] qin.code) none
abbrev qoub (k m:Nat):TK:=qbi 0 (seqK (evC qkgb qin (evF qkgb (k+1)) m (sub [1,1,1,1,1] qin.code) none) (retK qkgb qin))
theorem qijb (k m:Nat):∀ (n:Nat) (s4:ByteArray) (i5 i6:Int),qcz (some [0,5,6]) (qofb k m) (qoub k m) n ⟨fT 58 0 [(0,.av (.one (Cell.str s4))),(5,.av (.one (Cell.int i5))),(6,.av (.one (Cell.int i6)))],fX 58 0 [],[]⟩=qko (k+1) m n s4 i5 i6:=by
 intro n
 induction n with
 | zero=>intros;rfl
 | succ n ih=>intros;simp only[qko,← ih];kernel_rfl
theorem qvgb (k m:Nat)(s1:ByteArray)(i2:Int):evC qkgb qin (evF qkgb (k+1)) m qin.code none (retK qkgb qin) (enter qin [.one (Cell.str s1),.one (Cell.int i2)] [])=fco (k+1) m s1 i2:=by
 simp only[fco,← qijb k m]
 kernel_rfl
theorem qdpb {s1:ByteArray}{i2:Int}{r:Res}(k:Nat)(h:fco (k+1) (k+1) s1 i2=some r):qoi [.one (Cell.str s1),.one (Cell.int i2)] []=some r:=qap (k:=k+2) (Eq.trans (Eq.trans (by kernel_rfl) (qvgb k (k+1) s1 i2)) h)
def qbic:List (Nat×Run):=[(qle,qgh),(qlh,qgc)]
def qduc:Ctx:=ctx qbk qbj qbic
def qpg:Run:=lim qduc qst
theorem ok_fcn:FnOk Tryd.prog OkT qst qpg:=qao (l:=qbic) qac tyTab_ok qad okT (.cons qvjb (.cons qpsb .nil)) qst
def fcn (k m:Nat)(i1:Int):Option Res:=(qaj qgh [.one (.sc (.int .u8 i1))] []).bind fun r2=>cond (qab qgkb r2) ((cB (qaa r2 0) 0).bind fun b3=>cond b3 (some ([.one (Cell.bool true)],[])) ((qaj qgc [.one (.sc (.int .u8 i1))] []).bind fun r4=>cond (qab qfvb r4) ((cB (qaa r4 0) 0).bind fun b5=>cond b5 (some ([.one (Cell.bool true)],[])) (cond (i1==46) (some ([.one (Cell.bool true)],[])) (cond (i1==45) (some ([.one (Cell.bool true)],[])) (some ([.one (Cell.bool (i1==95))],[]))))) none)) none
theorem quib (k m:Nat)(i1:Int):evC qduc qze (evF qduc (k+1)) m qze.code none (retK qduc qze) (enter qze [.one (.sc (.int .u8 i1))] [])=fcn (k+1) m i1:=by
 kernel_rfl
theorem qavb {i1:Int}{r:Res}(k:Nat)(h:fcn (k+1) (k+1) i1=some r):qpg [.one (.sc (.int .u8 i1))] []=some r:=qap (k:=k+2) (Eq.trans (Eq.trans (by kernel_rfl) (quib k (k+1) i1)) h)
def qafc:List (Nat×Run):=[(qfi,qag),(qvu,qoi),(qst,qpg)]
def qgzb:Ctx:=ctx qbk qbj qafc
def qod:Run:=lim qgzb qtk
theorem ok_fcp:FnOk Tryd.prog OkT qtk qod:=qao (l:=qafc) qac tyTab_ok qad okT (.cons qsi (.cons ok_fco (.cons ok_fcn .nil))) qtk
def qkf (k m:Nat):Nat→ByteArray→Int→Int→Option Res | 0,_,_,_=>none | n+1,s2,i3,i4=>cond (decide (i4 < (s2.size:Int))) ((bytS s2 i4).bind fun i5=>cond (i5==91) ((qaj qoi [.one (Cell.str s2),.one (Cell.int i4)] []).bind fun r6=>cond (qab qapc r6) ((cI .i64 (qaa r6 0) 0).bind fun i7=>cond (decide (i7 < 0)) (some ([.one (Cell.bool false)],[])) (qkf k m n s2 (IntKind.i64.wrap (i3+1)) i7)) none) ((bytS s2 i4).bind fun i8=>(qaj qpg [.one (.sc (.int .u8 i8))] []).bind fun r9=>cond (qab qwvb r9) ((cB (qaa r9 0) 0).bind fun b10=>cond b10 (qkf k m n s2 (IntKind.i64.wrap (i3+1)) (IntKind.i64.wrap (i4+1))) ((bytS s2 i4).bind fun i11=>cond (i11==63) (qkf k m n s2 (IntKind.i64.wrap (i3+1)) (IntKind.i64.wrap (i4+1))) ((bytS s2 i4).bind fun i12=>cond (i12==42) (qkf k m n s2 (IntKind.i64.wrap (i3+1)) (IntKind.i64.wrap (i4+1))) (some ([.one (Cell.bool false)],[]))))) none)) ((qaj qag [.one (Cell.int i3),.one (Cell.int 1),.one (Cell.int 12)] []).bind fun r13=>cond (qab qan r13) ((cB (qaa r13 0) 0).bind fun b14=>some ([.one (Cell.bool b14)],[])) none)
def fcp (k m:Nat)(s1:ByteArray):Option Res:=qkf k m m s1 0 0
abbrev qulb (k m:Nat):TB:=evC qgzb qkb (evF qgzb (k+1)) m (sub [1,1,0,1,2,3] qkb.code) none
abbrev qrib (k m:Nat):TK:=qbi 0 (seqK (evC qgzb qkb (evF qgzb (k+1)) m (sub [1,1,1] qkb.code) none) (retK qgzb qkb))
theorem qkpb (k m:Nat):∀ (n:Nat) (s2:ByteArray) (i3 i4:Int),qcz (some [0,3,4]) (qulb k m) (qrib k m) n ⟨fT 42 0 [(0,.av (.one (Cell.str s2))),(3,.av (.one (Cell.int i3))),(4,.av (.one (Cell.int i4)))],fX 42 0 [],[]⟩=qkf (k+1) m n s2 i3 i4:=by
 intro n
 induction n with
 | zero=>intros;rfl
 | succ n ih=>intros;simp only[qkf,← ih];kernel_rfl
theorem qowb (k m:Nat)(s1:ByteArray):evC qgzb qkb (evF qgzb (k+1)) m qkb.code none (retK qgzb qkb) (enter qkb [.one (Cell.str s1)] [])=fcp (k+1) m s1:=by
 simp only[fcp,← qkpb k m]
 kernel_rfl
theorem qdsb {s1:ByteArray}{r:Res}(k:Nat)(h:fcp (k+1) (k+1) s1=some r):qod [.one (Cell.str s1)] []=some r:=qap (k:=k+2) (Eq.trans (Eq.trans (by kernel_rfl) (qowb k (k+1) s1)) h)
def qydb:List (Nat×Run):=[(qor,qfj),(qtk,qod)]
def qksb:Ctx:=ctx qbk qbj qydb
def qqf:Run:=lim qksb qub
theorem ok_fbz:FnOk Tryd.prog OkT qub qqf:=qao (l:=qydb) qac tyTab_ok qad okT (.cons qblc (.cons ok_fcp .nil)) qub
def qqo (k m:Nat):Nat→Cell→Int→List Entry→Option Res | 0,_,_,_=>none | n+1,c4,i5,H6=>(lenC c4).bind fun n7=>cond (decide (i5 < (n7:Int))) ((idxA 1 (c4) i5).bind fun c8=>(deref H6 (c8)).bind fun p9=>(cS p9.1 p9.2).bind fun s10=>cond (!(s10.toList==(bs [42,42]).toList)) ((idxA 1 (c4) i5).bind fun c11=>(deref H6 (c11)).bind fun p12=>(cS p12.1 p12.2).bind fun s13=>(qaj qod [.one (Cell.str s13)] H6).bind fun r14=>cond (qab qyhb r14) ((cB (qaa r14 0) 0).bind fun b15=>cond (!b15) (some ([.one (Cell.bool false)],H6)) (qqo k m n (c4) (IntKind.i64.wrap (i5+1)) H6)) none) (qqo k m n (c4) (IntKind.i64.wrap (i5+1)) H6)) ((lenC c4).bind fun n16=>some ([.one (Cell.bool (decide ((n16:Int)≤4)))],H6))
def fbz (k m:Nat)(s1:ByteArray):Option Res:=(callL qfj [.one (Cell.str s1),.one (.sc (.int .u8 47))] []).bind fun r2=>cond (qab qfcb r2.1) ((cC (qaa r2.1 0) 0).bind fun c3=>qqo k m m (c3) 0 r2.2) none
abbrev qqbb (k m:Nat):TB:=evC qksb qjd (evF qksb (k+1)) m (sub [1,1,0,1,2,3] qjd.code) none
abbrev qodb (k m:Nat):TK:=qbi 0 (seqK (evC qksb qjd (evF qksb (k+1)) m (sub [1,1,1] qjd.code) none) (retK qksb qjd))
theorem qgpb (k m:Nat):∀ (n:Nat) (c4:Cell) (i5:Int) (H6:List Entry),qcz (some [3,4]) (qqbb k m) (qodb k m) n ⟨fT 29 0 [(3,.av (.one (c4))),(4,.av (.one (Cell.int i5)))],fX 29 0 [],H6⟩=qqo (k+1) m n c4 i5 H6:=by
 intro n
 induction n with
 | zero=>intros;rfl
 | succ n ih=>intros;simp only[qqo,← ih];kernel_rfl
theorem qoob (k m:Nat)(s1:ByteArray):evC qksb qjd (evF qksb (k+1)) m qjd.code none (retK qksb qjd) (enter qjd [.one (Cell.str s1)] [])=fbz (k+1) m s1:=by
 simp only[fbz,← qgpb k m]
 kernel_rfl
theorem qacb {s1:ByteArray}{r:Res}(k:Nat)(h:fbz (k+1) (k+1) s1=some r):qqf [.one (Cell.str s1)] []=some r:=qap (k:=k+2) (Eq.trans (Eq.trans (by kernel_rfl) (qoob k (k+1) s1)) h)
def qcxc:List (Nat×Run):=[(qlb,qcs)]
def qhwb:Ctx:=ctx qbk qbj qcxc
def qqx:Run:=lim qhwb qwb
theorem ok_fcq:FnOk Tryd.prog OkT qwb qqx:=qao (l:=qcxc) qac tyTab_ok qad okT (.cons qvnb .nil) qwb
def qso (k m:Nat):Nat→Cell→Int→Option Res | 0,_,_=>none | n+1,c2,i3=>(lenC c2).bind fun n4=>cond (decide (i3 < (n4:Int))) ((idxA 1 (c2) i3).bind fun c5=>(deref [] (c5)).bind fun p6=>(cS p6.1 p6.2).bind fun s7=>(qaj qcs [.one (Cell.str s7)] []).bind fun r8=>cond (qab qkx r8) ((cB (qaa r8 0) 0).bind fun b9=>cond (!b9) (some ([.one (Cell.bool false)],[])) (qso k m n (c2) (IntKind.i64.wrap (i3+1)))) none) (some ([.one (Cell.bool true)],[]))
def fcq (k m:Nat)(c1:Cell):Option Res:=qso k m m (c1) 0
abbrev qqqb (k m:Nat):TB:=evC qhwb qiz (evF qhwb (k+1)) m (sub [1,0,1,2,3] qiz.code) none
abbrev qrob (k m:Nat):TK:=qbi 0 (seqK (evC qhwb qiz (evF qhwb (k+1)) m (sub [1,1] qiz.code) none) (retK qhwb qiz))
theorem qfib (k m:Nat):∀ (n:Nat) (c2:Cell) (i3:Int),qcz (some [0,3]) (qqqb k m) (qrob k m) n ⟨fT 16 0 [(0,.av (.one (c2))),(3,.av (.one (Cell.int i3)))],fX 16 0 [],[]⟩=qso (k+1) m n c2 i3:=by
 intro n
 induction n with
 | zero=>intros;rfl
 | succ n ih=>intros;simp only[qso,← ih];kernel_rfl
theorem qstb (k m:Nat)(c1:Cell):evC qhwb qiz (evF qhwb (k+1)) m qiz.code none (retK qhwb qiz) (enter qiz [.one (c1)] [])=fcq (k+1) m c1:=by
 simp only[fcq,← qfib k m]
 kernel_rfl
theorem qdob {c1:Cell}{r:Res}(k:Nat)(h:fcq (k+1) (k+1) c1=some r):qqx [.one (c1)] []=some r:=qap (k:=k+2) (Eq.trans (Eq.trans (by kernel_rfl) (qstb k (k+1) c1)) h)
def qzxb:List (Nat×Run):=[(qun,qpw),(qub,qqf),(qlb,qcs),(qwb,qqx)]
def qtv:Ctx:=ctx qbk qbj qzxb
def qlv:Run:=lim qtv qvy
theorem ok_fcg:FnOk Tryd.prog OkT qvy qlv:=qao (l:=qzxb) qac tyTab_ok qad okT (.cons ok_fcb (.cons ok_fbz (.cons qvnb (.cons ok_fcq .nil)))) qvy
def qoo (k m:Nat):Nat→Int→ByteArray→Cell→Cell→Cell→Bool→Option Res | 0,_,_,_,_,_,_=>none | n+1,i18,s19,c20,c21,c22,b23=>(lenC c21).bind fun n24=>cond (decide (i18 < (n24:Int))) ((idxA 1 (c21) i18).bind fun c25=>(deref [] (c25)).bind fun p26=>(cS p26.1 p26.2).bind fun s27=>(qaj qqf [.one (Cell.str s27)] []).bind fun r28=>cond (qab qbuc r28) ((cB (qaa r28 0) 0).bind fun b29=>cond (!b29) (some ([.one (Cell.bool false)],[])) ((idxA 1 (c21) i18).bind fun c30=>(deref [] (c30)).bind fun p31=>(cS p31.1 p31.2).bind fun s32=>cond (decide ((s32.size:Int) > 60)) (some ([.one (Cell.bool false)],[])) (qoo k m n (IntKind.i64.wrap (i18+1)) s19 (c20) (c21) (c22) b23))) none) ((qaj qcs [.one (Cell.str s19)] []).bind fun r33=>cond (qab qkx r33) ((cB (qaa r33 0) 0).bind fun b34=>cond b34 ((lenC c20).bind fun n35=>cond (decide ((n35:Int)≤4)) ((lenC c21).bind fun n36=>cond (decide ((n36:Int)≤4)) ((lenC c22).bind fun n37=>cond (decide ((n37:Int)≤3)) ((qaj qqx [.one (c22)] []).bind fun r38=>cond (qab qwtb r38) ((cB (qaa r38 0) 0).bind fun b39=>some ([.one (Cell.bool b39)],[])) none) (some ([.one (Cell.bool false)],[]))) (some ([.one (Cell.bool false)],[]))) (some ([.one (Cell.bool false)],[]))) (some ([.one (Cell.bool false)],[]))) none)
def qrr (k m:Nat):Nat→Int→ByteArray→Cell→Cell→Cell→Bool→Option Res | 0,_,_,_,_,_,_=>none | n+1,i6,s7,c8,c9,c10,b11=>(lenC c8).bind fun n12=>cond (decide (i6 < (n12:Int))) ((idxA 1 (c8) i6).bind fun c13=>(deref [] (c13)).bind fun p14=>(cS p14.1 p14.2).bind fun s15=>(qaj qpw [.one (Cell.str s15)] []).bind fun r16=>cond (qab qzib r16) ((cB (qaa r16 0) 0).bind fun b17=>cond (!b17) (some ([.one (Cell.bool false)],[])) (qrr k m n (IntKind.i64.wrap (i6+1)) s7 (c8) (c9) (c10) b11)) none) (qoo k m m 0 s7 (c8) (c9) (c10) b11)
def fcg (k m:Nat)(s1:ByteArray)(c2 c3 c4:Cell)(b5:Bool):Option Res:=qrr k m m 0 s1 (c2) (c3) (c4) b5
abbrev qomb (k m:Nat):TB:=evC qtv qfc (evF qtv (k+1)) m (sub [1,0,1,2,3] qfc.code) none
abbrev qrqb (k m:Nat):TK:=qbi 0 (seqK (evC qtv qfc (evF qtv (k+1)) m (sub [1,1] qfc.code) none) (retK qtv qfc))
abbrev qufb (k m:Nat):TB:=evC qtv qfc (evF qtv (k+1)) m (sub [1,1,0,1,2,3] qfc.code) none
abbrev qvab (k m:Nat):TK:=qbi 2 (seqK (evC qtv qfc (evF qtv (k+1)) m (sub [1,1,1] qfc.code) none) (retK qtv qfc))
theorem qewb (k m:Nat):∀ (n:Nat) (i18:Int) (s19:ByteArray) (c20 c21 c22:Cell) (b23:Bool),qcz (some [1,4]) (qufb k m) (qvab k m) n ⟨fT 68 0 [(1,.loc 1 0),(4,.av (.one (Cell.int i18)))],fX 68 0 [(1,[Cell.str s19,c20,c21,c22,Cell.bool b23])],[]⟩=qoo (k+1) m n i18 s19 c20 c21 c22 b23:=by
 intro n
 induction n with
 | zero=>intros;rfl
 | succ n ih=>intros;simp only[qoo,← ih];kernel_rfl
theorem qldb (k m:Nat):∀ (n:Nat) (i6:Int) (s7:ByteArray) (c8 c9 c10:Cell) (b11:Bool),qcz (some [1,3]) (qomb k m) (qrqb k m) n ⟨fT 68 0 [(1,.loc 1 0),(3,.av (.one (Cell.int i6)))],fX 68 0 [(1,[Cell.str s7,c8,c9,c10,Cell.bool b11])],[]⟩=qrr (k+1) m n i6 s7 c8 c9 c10 b11:=by
 intro n
 induction n with
 | zero=>intros;rfl
 | succ n ih=>intros;simp only[qrr,← qewb k m,← ih];kernel_rfl
theorem qqgb (k m:Nat)(s1:ByteArray)(c2 c3 c4:Cell)(b5:Bool):evC qtv qfc (evF qtv (k+1)) m qfc.code none (retK qtv qfc) (enter qfc [.agg [Cell.str s1,c2,c3,c4,Cell.bool b5]] [])=fcg (k+1) m s1 c2 c3 c4 b5:=by
 simp only[fcg,← qldb k m]
 kernel_rfl
theorem qbyb {s1:ByteArray}{c2 c3 c4:Cell}{b5:Bool}{r:Res}(k:Nat)(h:fcg (k+1) (k+1) s1 c2 c3 c4 b5=some r):qlv [.agg [Cell.str s1,c2,c3,c4,Cell.bool b5]] []=some r:=qap (k:=k+2) (Eq.trans (Eq.trans (by kernel_rfl) (qqgb k (k+1) s1 c2 c3 c4 b5)) h)
def qalc:List (Nat×Run):=[(qvq,qpa),(qvd,qpi),(qvy,qlv)]
def qibb:Ctx:=ctx qbk qbj qalc
def qjt:Run:=lim qibb qvk
theorem ok_fcc:FnOk Tryd.prog OkT qvk qjt:=qao (l:=qalc) qac tyTab_ok qad okT (.cons ok_fce (.cons ok_fcf (.cons ok_fcg .nil))) qvk
def qrz (k m:Nat):Nat→Int→Int→Int→ByteArray→Cell→Cell→List Entry→Option Res | 0,_,_,_,_,_,_,_=>none | n+1,i9,i10,i11,s12,c13,c14,H15=>(lenC c13).bind fun n16=>cond (decide (i9 < (n16:Int))) ((idxA 1 (c14) i9).bind fun c17=>(deref H15 (c17)).bind fun p18=>(cS p18.1 p18.2).bind fun s19=>(idxA 5 (c13) i9).bind fun c20=>(deref H15 (c20)).bind fun p21=>(cI .i64 p21.1 p21.2).bind fun i22=>(cI .i64 p21.1 (p21.2+1)).bind fun i23=>(cS p21.1 ((p21.2+1)+1)).bind fun s24=>(cC p21.1 (((p21.2+1)+1)+1)).bind fun c25=>(cC p21.1 ((((p21.2+1)+1)+1)+1)).bind fun c26=>(qpi [.one (.ptr 0 5 0 0 0),.one (Cell.str s19),.agg [Cell.int i22,Cell.int i23,Cell.str s24,c25,c26]] H15).bind fun r27=>cond (qab qxmb r27.1) ((cB (qaa r27.1 0) 0).bind fun b28=>cond (!b28) (some ([.agg [Cell.str (bs []),.lst true 1 [],.lst true 1 [],.lst true 1 [],Cell.bool false],.one (Cell.bool false)],r27.2)) (qrz k m n (IntKind.i64.wrap (i9+1)) i10 i11 s12 (c13) (c14) r27.2)) none) ((deref H15 (.ptr 0 5 0 0 0)).bind fun p29=>(cS p29.1 p29.2).bind fun s30=>(cC p29.1 (p29.2+1)).bind fun c31=>(cC p29.1 ((p29.2+1)+1)).bind fun c32=>(cC p29.1 (((p29.2+1)+1)+1)).bind fun c33=>(cB p29.1 ((((p29.2+1)+1)+1)+1)).bind fun b34=>(qaj qlv [.agg [Cell.str s30,c31,c32,c33,Cell.bool b34]] H15).bind fun r35=>cond (qab qxfb r35) ((cB (qaa r35 0) 0).bind fun b36=>cond (!b36) (some ([.agg [Cell.str (bs []),.lst true 1 [],.lst true 1 [],.lst true 1 [],Cell.bool false],.one (Cell.bool false)],H15)) ((deref H15 (.ptr 0 5 0 0 0)).bind fun p37=>(cS p37.1 p37.2).bind fun s38=>(cC p37.1 (p37.2+1)).bind fun c39=>(cC p37.1 ((p37.2+1)+1)).bind fun c40=>(cC p37.1 (((p37.2+1)+1)+1)).bind fun c41=>(cB p37.1 ((((p37.2+1)+1)+1)+1)).bind fun b42=>some ([.agg [Cell.str s38,c39,c40,c41,Cell.bool b42],.one (Cell.bool true)],H15))) none)
def fcc (k m:Nat)(s1:ByteArray)(i2 i3:Int)(s4:ByteArray)(c5 c6:Cell):Option Res:=(qaj qpa [.agg [Cell.int i2,Cell.int i3,Cell.str s4,c5,c6]] [Entry.mk 5 [[Cell.str s1,.lst true 1 [],.lst true 1 [],.lst true 1 [],Cell.bool true]] 0 false]).bind fun r7=>cond (qab qclc r7) ((cB (qaa r7 0) 0).bind fun b8=>cond (!b8) (some ([.agg [Cell.str (bs []),.lst true 1 [],.lst true 1 [],.lst true 1 [],Cell.bool false],.one (Cell.bool false)],[Entry.mk 5 [[Cell.str s1,.lst true 1 [],.lst true 1 [],.lst true 1 [],Cell.bool true]] 0 false])) (cond (i2 != 5) (some ([.agg [Cell.str (bs []),.lst true 1 [],.lst true 1 [],.lst true 1 [],Cell.bool false],.one (Cell.bool false)],[Entry.mk 5 [[Cell.str s1,.lst true 1 [],.lst true 1 [],.lst true 1 [],Cell.bool true]] 0 false])) (qrz k m m 0 i2 i3 s4 (c5) (c6) [Entry.mk 5 [[Cell.str s1,.lst true 1 [],.lst true 1 [],.lst true 1 [],Cell.bool true]] 0 false]))) none
abbrev qqib (k m:Nat):TB:=evC qibb qjl (evF qibb (k+1)) m (sub [1,1,1,0,1,2,3] qjl.code) none
abbrev qnvb (k m:Nat):TK:=qbi 0 (seqK (evC qibb qjl (evF qibb (k+1)) m (sub [1,1,1,1] qjl.code) none) (retK qibb qjl))
theorem qmbb (k m:Nat):∀ (n:Nat) (i9 i10 i11:Int) (s12:ByteArray) (c13 c14:Cell) (H15:List Entry),qcz (some [3,4,6,7]) (qqib k m) (qnvb k m) n ⟨fT 44 0 [(3,.loc 3 0),(4,.loc 4 0),(6,.av (.one (.ptr 0 5 0 0 0))),(7,.av (.one (Cell.int i9)))],fX 44 0 [(3,[Cell.int i10,Cell.int i11,Cell.str s12,c13,c14]),(4,[Cell.str (bs []),.lst true 1 [],.lst true 1 [],.lst true 1 [],Cell.bool false])],H15⟩=qrz (k+1) m n i9 i10 i11 s12 c13 c14 H15:=by
 intro n
 induction n with
 | zero=>intros;rfl
 | succ n ih=>intros;simp only[qrz,← ih];kernel_rfl
theorem qrtb (k m:Nat)(s1:ByteArray)(i2 i3:Int)(s4:ByteArray)(c5 c6:Cell):evC qibb qjl (evF qibb (k+1)) m qjl.code none (retK qibb qjl) (enter qjl [.one (Cell.str s1),.agg [Cell.int i2,Cell.int i3,Cell.str s4,c5,c6]] [])=fcc (k+1) m s1 i2 i3 s4 c5 c6:=by
 simp only[fcc,← qmbb k m]
 kernel_rfl
theorem qji {s1:ByteArray}{i2 i3:Int}{s4:ByteArray}{c5 c6:Cell}{r:Res}(k:Nat)(h:fcc (k+1) (k+1) s1 i2 i3 s4 c5 c6=some r):qjt [.one (Cell.str s1),.agg [Cell.int i2,Cell.int i3,Cell.str s4,c5,c6]] []=some r:=qap (k:=k+2) (Eq.trans (Eq.trans (by kernel_rfl) (qrtb k (k+1) s1 i2 i3 s4 c5 c6)) h)
def qwkb:List (Nat×Run):=[]
def qfmb:Ctx:=ctx qbk qbj qwkb
def qpj:Run:=lim qfmb quk
theorem ok_fbu:FnOk Tryd.prog OkT quk qpj:=qao (l:=qwkb) qac tyTab_ok qad okT .nil quk
def qrm (k m:Nat):Nat→Cell→Cell→Int→List Entry→Option Res | 0,_,_,_,_=>none | n+1,c3,c4,i5,H6=>(lenC c3).bind fun n7=>cond (decide (i5 < (n7:Int))) ((idxA 1 (c3) i5).bind fun c8=>(deref H6 (c8)).bind fun p9=>(cS p9.1 p9.2).bind fun s10=>(idxA 1 (c4) i5).bind fun c11=>(qbl H6 (c11) [Cell.str s10]).bind fun h12=>qrm k m n (c3) (c4) (IntKind.i64.wrap (i5+1)) h12) (some ([.one (c4)],H6))
def fbu (k m:Nat)(c1:Cell):Option Res:=(lenC c1).bind fun n2=>if 0≤(n2:Int)∧(n2:Int)≤(n2:Int)∧(n2:Int)*16≤bound∧(n2:Int)≤bound then (qrm k m m (c1) ((.vs 0 1 0 (n2:Int).toNat 0)) 0 [Entry.mk 1 (qbr (n2:Int).toNat [Cell.str (bs [])]) 0 false]) else none
abbrev qnub (k m:Nat):TB:=evC qfmb qia (evF qfmb (k+1)) m (sub [1,1,0,1,2,3] qia.code) none
abbrev qrlb (k m:Nat):TK:=qbi 0 (seqK (evC qfmb qia (evF qfmb (k+1)) m (sub [1,1,1] qia.code) none) (retK qfmb qia))
theorem qhbb (k m:Nat):∀ (n:Nat) (c3 c4:Cell) (i5:Int) (H6:List Entry),qcz (some [0,3,4]) (qnub k m) (qrlb k m) n ⟨fT 22 0 [(0,.av (.one (c3))),(3,.av (.one (c4))),(4,.av (.one (Cell.int i5)))],fX 22 0 [],H6⟩=qrm (k+1) m n c3 c4 i5 H6:=by
 intro n
 induction n with
 | zero=>intros;rfl
 | succ n ih=>intros;simp only[qrm,← ih];kernel_rfl
theorem qpcb (k m:Nat)(c1:Cell):evC qfmb qia (evF qfmb (k+1)) m qia.code none (retK qfmb qia) (enter qia [.one (c1)] [])=fbu (k+1) m c1:=by
 simp only[fbu,← qhbb k m]
 kernel_rfl
theorem qbkb {c1:Cell}{r:Res}(k:Nat)(h:fbu (k+1) (k+1) c1=some r):qpj [.one (c1)] []=some r:=qap (k:=k+2) (Eq.trans (Eq.trans (by kernel_rfl) (qpcb k (k+1) c1)) h)
def qbdc:List (Nat×Run):=[(quk,qpj)]
def qkp:Ctx:=ctx qbk qbj qbdc
def qjh:Run:=lim qkp qhd
theorem ok_fbv:FnOk Tryd.prog OkT qhd qjh:=qao (l:=qbdc) qac tyTab_ok qad okT (.cons ok_fbu .nil) qhd
def fbv (k m:Nat)(i1 i2:Int)(s3:ByteArray)(c4 c5:Cell):Option Res:=(qdy (evF qkp k qqh) [.one (c4)] []).bind fun r6=>cond (qab qaic r6.1) ((cC (qaa r6.1 0) 0).bind fun c7=>(qdy qpj [.one (c5)] r6.2).bind fun r8=>cond (qab qwfb r8.1) ((cC (qaa r8.1 0) 0).bind fun c9=>some ([.agg [Cell.int i1,Cell.int i2,Cell.str s3,c7,c9]],r8.2)) none) none
theorem qprb (k m:Nat)(i1 i2:Int)(s3:ByteArray)(c4 c5:Cell):evC qkp qxp (evF qkp (k+1)) m qxp.code none (retK qkp qxp) (enter qxp [.agg [Cell.int i1,Cell.int i2,Cell.str s3,c4,c5]] [])=fbv (k+1) m i1 i2 s3 c4 c5:=by
 kernel_rfl
theorem fbv_eq (k:Nat)(i1 i2:Int)(s3:ByteArray)(c4 c5:Cell):evF qkp (k+2) qhd [.agg [Cell.int i1,Cell.int i2,Cell.str s3,c4,c5]] []=fbv (k+1) (k+1) i1 i2 s3 c4 c5:=
 Eq.trans (by kernel_rfl) (qprb k (k+1) i1 i2 s3 c4 c5)
def qsh (k m:Nat):Nat→Cell→Cell→Int→List Entry→Option Res | 0,_,_,_,_=>none | n+1,c3,c4,i5,H6=>(lenC c3).bind fun n7=>cond (decide (i5 < (n7:Int))) ((idxA 5 (c3) i5).bind fun c8=>(deref H6 (c8)).bind fun p9=>(cI .i64 p9.1 p9.2).bind fun i10=>(cI .i64 p9.1 (p9.2+1)).bind fun i11=>(cS p9.1 ((p9.2+1)+1)).bind fun s12=>(cC p9.1 (((p9.2+1)+1)+1)).bind fun c13=>(cC p9.1 ((((p9.2+1)+1)+1)+1)).bind fun c14=>(qdy (evF qkp k qhd) [.agg [Cell.int i10,Cell.int i11,Cell.str s12,c13,c14]] H6).bind fun r15=>cond (qab qyq r15.1) ((cI .i64 (qaa r15.1 0) 0).bind fun i16=>(cI .i64 (qaa r15.1 0) 1).bind fun i17=>(cS (qaa r15.1 0) 2).bind fun s18=>(cC (qaa r15.1 0) 3).bind fun c19=>(cC (qaa r15.1 0) 4).bind fun c20=>(idxA 5 (c4) i5).bind fun c21=>(qbl r15.2 (c21) [Cell.int i16,Cell.int i17,Cell.str s18,c19,c20]).bind fun h22=>qsh k m n (c3) (c4) (IntKind.i64.wrap (i5+1)) h22) none) (some ([.one (c4)],H6))
def fbw (k m:Nat)(c1:Cell):Option Res:=(lenC c1).bind fun n2=>if 0≤(n2:Int)∧(n2:Int)≤(n2:Int)∧(n2:Int)*80≤bound∧(n2:Int)≤bound then (qsh k m m (c1) ((.vs 0 5 0 (n2:Int).toNat 0)) 0 [Entry.mk 5 (qbr (n2:Int).toNat [Cell.int 0,Cell.int 0,Cell.str (bs []),.lst true 5 [],.lst true 1 []]) 0 false]) else none
abbrev qrfb (k m:Nat):TB:=evC qkp qhv (evF qkp (k+1)) m (sub [1,1,0,1,2,3] qhv.code) none
abbrev qteb (k m:Nat):TK:=qbi 0 (seqK (evC qkp qhv (evF qkp (k+1)) m (sub [1,1,1] qhv.code) none) (retK qkp qhv))
theorem qlbb (k m:Nat):∀ (n:Nat) (c3 c4:Cell) (i5:Int) (H6:List Entry),qcz (some [0,3,4]) (qrfb k m) (qteb k m) n ⟨fT 23 0 [(0,.av (.one (c3))),(3,.av (.one (c4))),(4,.av (.one (Cell.int i5)))],fX 23 0 [],H6⟩=qsh (k+1) m n c3 c4 i5 H6:=by
 intro n
 induction n with
 | zero=>intros;rfl
 | succ n ih=>intros;simp only[qsh,← ih];kernel_rfl
theorem quwb (k m:Nat)(c1:Cell):evC qkp qhv (evF qkp (k+1)) m qhv.code none (retK qkp qhv) (enter qhv [.one (c1)] [])=fbw (k+1) m c1:=by
 simp only[fbw,← qlbb k m]
 kernel_rfl
theorem fbw_eq (k:Nat)(c1:Cell):evF qkp (k+2) qqh [.one (c1)] []=fbw (k+1) (k+1) c1:=
 Eq.trans (by kernel_rfl) (quwb k (k+1) c1)
def qbrc:List (Nat×Run):=[]
def qdqc:Ctx:=ctx qbk qbj qbrc
def qnw:Run:=lim qdqc que
theorem ok_fag:FnOk Tryd.prog OkT que qnw:=qao (l:=qbrc) qac tyTab_ok qad okT .nil que
def fag (k m:Nat)(i1 i2:Int)(s3:ByteArray)(c4 c5:Cell):Option Res:=cond (i1==5) ((lenC c4).bind fun n6=>(lenC c5).bind fun n7=>some ([.one (Cell.bool ((n6:Int)==(n7:Int)))],[])) (some ([.one (Cell.bool false)],[]))
theorem qumb (k m:Nat)(i1 i2:Int)(s3:ByteArray)(c4 c5:Cell):evC qdqc qyt (evF qdqc (k+1)) m qyt.code none (retK qdqc qyt) (enter qyt [.agg [Cell.int i1,Cell.int i2,Cell.str s3,c4,c5]] [])=fag (k+1) m i1 i2 s3 c4 c5:=by
 kernel_rfl
theorem qzs {i1 i2:Int}{s3:ByteArray}{c4 c5:Cell}{r:Res}(k:Nat)(h:fag (k+1) (k+1) i1 i2 s3 c4 c5=some r):qnw [.agg [Cell.int i1,Cell.int i2,Cell.str s3,c4,c5]] []=some r:=qap (k:=k+2) (Eq.trans (Eq.trans (by kernel_rfl) (qumb k (k+1) i1 i2 s3 c4 c5)) h)
def qbnc:List (Nat×Run):=[]
def qdtc:Ctx:=ctx qbk qbj qbnc
def qcr:Run:=lim qdtc qir
theorem qlib:FnOk Tryd.prog OkT qir qcr:=qao (l:=qbnc) qac tyTab_ok qad okT .nil qir
def faj (k m:Nat)(i1 i2 i3:Int):Option Res:=cond (decide (i1≥i2)) (some ([.one (Cell.bool (decide (i1≤i3)))],[])) (some ([.one (Cell.bool false)],[]))
theorem qrmb (k m:Nat)(i1 i2 i3:Int):evC qdtc qxh (evF qdtc (k+1)) m qxh.code none (retK qdtc qxh) (enter qxh [.one (Cell.int i1),.one (Cell.int i2),.one (Cell.int i3)] [])=faj (k+1) m i1 i2 i3:=by
 kernel_rfl
theorem qchb {i1 i2 i3:Int}{r:Res}(k:Nat)(h:faj (k+1) (k+1) i1 i2 i3=some r):qcr [.one (Cell.int i1),.one (Cell.int i2),.one (Cell.int i3)] []=some r:=qap (k:=k+2) (Eq.trans (Eq.trans (by kernel_rfl) (qrmb k (k+1) i1 i2 i3)) h)
def qcec:List (Nat×Run):=[]
def qdxc:Ctx:=ctx qbk qbj qcec
def qqc:Run:=lim qdxc qtt
theorem ok_fao:FnOk Tryd.prog OkT qtt qqc:=qao (l:=qcec) qac tyTab_ok qad okT .nil qtt
def fao (k m:Nat)(i1:Int):Option Res:=cond (decide (i1≥32)) (some ([.one (Cell.bool (decide (i1≤126)))],[])) (some ([.one (Cell.bool false)],[]))
theorem qusb (k m:Nat)(i1:Int):evC qdxc qyc (evF qdxc (k+1)) m qyc.code none (retK qdxc qyc) (enter qyc [.one (.sc (.int .u8 i1))] [])=fao (k+1) m i1:=by
 kernel_rfl
theorem qemb {i1:Int}{r:Res}(k:Nat)(h:fao (k+1) (k+1) i1=some r):qqc [.one (.sc (.int .u8 i1))] []=some r:=qap (k:=k+2) (Eq.trans (Eq.trans (by kernel_rfl) (qusb k (k+1) i1)) h)
def qbyc:List (Nat×Run):=[(qtt,qqc)]
def qdec:Ctx:=ctx qbk qbj qbyc
def qol:Run:=lim qdec quf
theorem ok_faq:FnOk Tryd.prog OkT quf qol:=qao (l:=qbyc) qac tyTab_ok qad okT (.cons ok_fao .nil) quf
def faq (k m:Nat)(i1:Int):Option Res:=(qaj qqc [.one (.sc (.int .u8 i1))] []).bind fun r2=>cond (qab qvzb r2) ((cB (qaa r2 0) 0).bind fun b3=>cond b3 (some ([.one (Cell.bool true)],[])) (cond (i1==10) (some ([.one (Cell.bool true)],[])) (some ([.one (Cell.bool (i1==9))],[])))) none
theorem qtdb (k m:Nat)(i1:Int):evC qdec qzc (evF qdec (k+1)) m qzc.code none (retK qdec qzc) (enter qzc [.one (.sc (.int .u8 i1))] [])=faq (k+1) m i1:=by
 kernel_rfl
theorem qcvb {i1:Int}{r:Res}(k:Nat)(h:faq (k+1) (k+1) i1=some r):qol [.one (.sc (.int .u8 i1))] []=some r:=qap (k:=k+2) (Eq.trans (Eq.trans (by kernel_rfl) (qtdb k (k+1) i1)) h)
def qxcb:List (Nat×Run):=[(quf,qol)]
def qicb:Ctx:=ctx qbk qbj qxcb
def qjw:Run:=lim qicb qqw
theorem qarc:FnOk Tryd.prog OkT qqw qjw:=qao (l:=qxcb) qac tyTab_ok qad okT (.cons ok_faq .nil) qqw
def qrb (k m:Nat):Nat→ByteArray→Int→Option Res | 0,_,_=>none | n+1,s2,i3=>cond (decide (i3 < (s2.size:Int))) ((bytS s2 i3).bind fun i4=>(qaj qol [.one (.sc (.int .u8 i4))] []).bind fun r5=>cond (qab qzbb r5) ((cB (qaa r5 0) 0).bind fun b6=>cond (!b6) (some ([.one (Cell.bool false)],[])) (qrb k m n s2 (IntKind.i64.wrap (i3+1)))) none) (some ([.one (Cell.bool (decide ((s2.size:Int)≤60)))],[]))
def faw (k m:Nat)(s1:ByteArray):Option Res:=qrb k m m s1 0
abbrev qohb (k m:Nat):TB:=evC qicb qjy (evF qicb (k+1)) m (sub [1,0,1,2,3] qjy.code) none
abbrev qsob (k m:Nat):TK:=qbi 0 (seqK (evC qicb qjy (evF qicb (k+1)) m (sub [1,1] qjy.code) none) (retK qicb qjy))
theorem qkxb (k m:Nat):∀ (n:Nat) (s2:ByteArray) (i3:Int),qcz (some [0,3]) (qohb k m) (qsob k m) n ⟨fT 18 0 [(0,.av (.one (Cell.str s2))),(3,.av (.one (Cell.int i3)))],fX 18 0 [],[]⟩=qrb (k+1) m n s2 i3:=by
 intro n
 induction n with
 | zero=>intros;rfl
 | succ n ih=>intros;simp only[qrb,← ih];kernel_rfl
theorem qolb (k m:Nat)(s1:ByteArray):evC qicb qjy (evF qicb (k+1)) m qjy.code none (retK qicb qjy) (enter qjy [.one (Cell.str s1)] [])=faw (k+1) m s1:=by
 simp only[faw,← qkxb k m]
 kernel_rfl
theorem qdub {s1:ByteArray}{r:Res}(k:Nat)(h:faw (k+1) (k+1) s1=some r):qjw [.one (Cell.str s1)] []=some r:=qap (k:=k+2) (Eq.trans (Eq.trans (by kernel_rfl) (qolb k (k+1) s1)) h)
def qzzb:List (Nat×Run):=[]
def qfsb:Ctx:=ctx qbk qbj qzzb
def qlf:Run:=lim qfsb qvj
theorem ok_fak:FnOk Tryd.prog OkT qvj qlf:=qao (l:=qzzb) qac tyTab_ok qad okT .nil qvj
def qqb (k m:Nat):Nat→Cell→Int→Option Res | 0,_,_=>none | n+1,c2,i3=>(lenC c2).bind fun n4=>cond (decide (i3 < (n4:Int))) ((idxA 1 (c2) i3).bind fun c5=>(deref [] (c5)).bind fun p6=>(cS p6.1 p6.2).bind fun s7=>(idxA 1 (c2) (IntKind.i64.wrap (i3 - 1))).bind fun c8=>(deref [] (c8)).bind fun p9=>(cS p9.1 p9.2).bind fun s10=>cond (Op.bytesLess s7.toList s10.toList||s7.toList==s10.toList) (some ([.one (Cell.bool false)],[])) (qqb k m n (c2) (IntKind.i64.wrap (i3+1)))) (some ([.one (Cell.bool true)],[]))
def fak (k m:Nat)(c1:Cell):Option Res:=qqb k m m (c1) 1
abbrev qpyb (k m:Nat):TB:=evC qfsb qiy (evF qfsb (k+1)) m (sub [1,0,1,2,3] qiy.code) none
abbrev quob (k m:Nat):TK:=qbi 0 (seqK (evC qfsb qiy (evF qfsb (k+1)) m (sub [1,1] qiy.code) none) (retK qfsb qiy))
theorem qlqb (k m:Nat):∀ (n:Nat) (c2:Cell) (i3:Int),qcz (some [0,3]) (qpyb k m) (quob k m) n ⟨fT 20 0 [(0,.av (.one (c2))),(3,.av (.one (Cell.int i3)))],fX 20 0 [],[]⟩=qqb (k+1) m n c2 i3:=by
 intro n
 induction n with
 | zero=>intros;rfl
 | succ n ih=>intros;simp only[qqb,← ih];kernel_rfl
theorem qsib (k m:Nat)(c1:Cell):evC qfsb qiy (evF qfsb (k+1)) m qiy.code none (retK qfsb qiy) (enter qiy [.one (c1)] [])=fak (k+1) m c1:=by
 simp only[fak,← qlqb k m]
 kernel_rfl
theorem qaeb {c1:Cell}{r:Res}(k:Nat)(h:fak (k+1) (k+1) c1=some r):qlf [.one (c1)] []=some r:=qap (k:=k+2) (Eq.trans (Eq.trans (by kernel_rfl) (qsib k (k+1) c1)) h)
end
end Go.Ev
