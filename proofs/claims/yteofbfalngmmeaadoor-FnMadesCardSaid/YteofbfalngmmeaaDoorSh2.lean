/- What the evaluator says of the functions, each as a Lean function over cells. Printed by a program of this claim. Conditions: none. -/
import Derived.Test.YteofbfalngmmeaaDoorSh1
import Derived.KernelRfl
namespace Go.Ev
open Go Go.Proofs
noncomputable section
set_option maxRecDepth 100000
set_option linter.unusedVariables false
set_option linter.unusedSimpArgs false
def qwsb:List (Nat×Run):=[]
def G_fay:Ctx:=ctx qbe qbd qwsb
def qmfb:Run:=lim G_fay qvx
theorem ok_fay:FnOk Tryd.prog OkT qvx qmfb:=qam (l:=qwsb) qac tyTab_ok qad okT .nil qvx
def qbyc:List (Nat×Run):=[(qvx,qmfb)]
def G_fax:Ctx:=ctx qbe qbd qbyc
def qlob:Run:=lim G_fax qtv
theorem ok_fax:FnOk Tryd.prog OkT qtv qlob:=qam (l:=qbyc) qac tyTab_ok qad okT (.cons ok_fay .nil) qtv
def qblc:List (Nat×Run):=[(qmcb,qkx),(qvb,qmeb),(qtv,qlob)]
def qdhc:Ctx:=ctx qbe qbd qblc
def qjf:Run:=lim qdhc qnz
theorem qzyb:FnOk Tryd.prog OkT qnz qjf:=qam (l:=qblc) qac tyTab_ok qad okT (.cons ok_fbb (.cons ok_faw (.cons ok_fax .nil))) qnz
def fba (k m:Nat)(s1 s2:ByteArray):Option Res:=cond ((s2.size:Int)==0) (some ([.one (Cell.int 0)],[])) (cond (s2.toList==s1.toList) (some ([.one (Cell.int 0)],[])) (cond ((s2.size:Int)==1) ((bytS s2 0).bind fun i3=>(qba qkx [.one (Cell.str s1),.one (.sc (.int .u8 i3))] []).bind fun r4=>cond (qab qveb r4) ((cI .i64 (qaa r4 0) 0).bind fun i5=>some ([.one (Cell.int i5)],[])) none) (cond (decide ((s2.size:Int)≥(s1.size:Int))) (some ([.one (Cell.int (-1))],[])) (none))))
theorem qndb (k m:Nat)(s1 s2:ByteArray):evC qdhc qza (evF qdhc (k+1)) m qza.code none (retK qdhc qza) (enter qza [.one (Cell.str s1),.one (Cell.str s2)] [])=fba (k+1) m s1 s2:=by
 kernel_rfl
theorem qzu {s1 s2:ByteArray}{r:Res}(k:Nat)(h:fba (k+1) (k+1) s1 s2=some r):qjf [.one (Cell.str s1),.one (Cell.str s2)] []=some r:=qan (k:=k+2) (Eq.trans (Eq.trans (by kernel_rfl) (qndb k (k+1) s1 s2)) h)
def qvqb:List (Nat×Run):=[(qnz,qjf)]
def qdyc:Ctx:=ctx qbe qbd qvqb
def qps:Run:=lim qdyc quz
theorem ok_faz:FnOk Tryd.prog OkT quz qps:=qam (l:=qvqb) qac tyTab_ok qad okT (.cons qzyb .nil) quz
def faz (k m:Nat)(s1 s2:ByteArray):Option Res:=(qba qjf [.one (Cell.str s1),.one (Cell.str s2)] []).bind fun r3=>cond (qab qnpb r3) ((cI .i64 (qaa r3 0) 0).bind fun i4=>cond (decide (i4≥0)) ((subS s1 0 i4).bind fun s5=>(subS s1 (IntKind.i64.wrap (i4+(s2.size:Int))) (s1.size:Int)).bind fun s6=>some ([.one (Cell.str s5),.one (Cell.str s6),.one (Cell.bool true)],[])) (some ([.one (Cell.str s1),.one (Cell.str (bs [])),.one (Cell.bool false)],[]))) none
theorem qrhb (k m:Nat)(s1 s2:ByteArray):evC qdyc qxm (evF qdyc (k+1)) m qxm.code none (retK qdyc qxm) (enter qxm [.one (Cell.str s1),.one (Cell.str s2)] [])=faz (k+1) m s1 s2:=by
 kernel_rfl
theorem qbob {s1 s2:ByteArray}{r:Res}(k:Nat)(h:faz (k+1) (k+1) s1 s2=some r):qps [.one (Cell.str s1),.one (Cell.str s2)] []=some r:=qan (k:=k+2) (Eq.trans (Eq.trans (by kernel_rfl) (qrhb k (k+1) s1 s2)) h)
def qxcb:List (Nat×Run):=[(quz,qps)]
def qdec:Ctx:=ctx qbe qbd qxcb
def qnc:Run:=lim qdec quv
theorem ok_fcu:FnOk Tryd.prog OkT quv qnc:=qam (l:=qxcb) qac tyTab_ok qad okT (.cons ok_faz .nil) quv
def fcu (k m:Nat)(s1 s2:ByteArray):Option Res:=(qba qps [.one (Cell.str s1),.one (Cell.str s2)] []).bind fun r3=>cond (qab qwvb r3) ((cS (qaa r3 0) 0).bind fun s4=>(cS (qaa r3 1) 0).bind fun s5=>(cB (qaa r3 2) 0).bind fun b6=>some ([.one (Cell.str s4),.one (Cell.str s5),.one (Cell.bool b6)],[])) none
theorem qoib (k m:Nat)(s1 s2:ByteArray):evC qdec qwh (evF qdec (k+1)) m qwh.code none (retK qdec qwh) (enter qwh [.one (Cell.str s1),.one (Cell.str s2)] [])=fcu (k+1) m s1 s2:=by
 kernel_rfl
theorem qzt {s1 s2:ByteArray}{r:Res}(k:Nat)(h:fcu (k+1) (k+1) s1 s2=some r):qnc [.one (Cell.str s1),.one (Cell.str s2)] []=some r:=qan (k:=k+2) (Eq.trans (Eq.trans (by kernel_rfl) (qoib k (k+1) s1 s2)) h)
def qalc:List (Nat×Run):=[]
def qctc:Ctx:=ctx qbe qbd qalc
def qjj:Run:=lim qctc qpq
theorem qbkc:FnOk Tryd.prog OkT qpq qjj:=qam (l:=qalc) qac tyTab_ok qad okT .nil qpq
def faq (k m:Nat)(i1:Int):Option Res:=cond (decide (i1≥97)) (some ([.one (Cell.bool (decide (i1≤122)))],[])) (some ([.one (Cell.bool false)],[]))
theorem qpcb (k m:Nat)(i1:Int):evC qctc qyd (evF qctc (k+1)) m qyd.code none (retK qctc qyd) (enter qyd [.one (.sc (.int .u8 i1))] [])=faq (k+1) m i1:=by
 kernel_rfl
theorem qdub {i1:Int}{r:Res}(k:Nat)(h:faq (k+1) (k+1) i1=some r):qjj [.one (.sc (.int .u8 i1))] []=some r:=qan (k:=k+2) (Eq.trans (Eq.trans (by kernel_rfl) (qpcb k (k+1) i1)) h)
def qbwc:List (Nat×Run):=[(qlk,qga),(qly,qfw),(qpq,qjj)]
def qkfb:Ctx:=ctx qbe qbd qbwc
def qlc:Run:=lim qkfb qto
theorem ok_faf:FnOk Tryd.prog OkT qto qlc:=qam (l:=qbwc) qac tyTab_ok qad okT (.cons qomb (.cons qsnb (.cons qbkc .nil))) qto
def qmm (k m:Nat):Nat→ByteArray→Int→Option Res | 0,_,_=>none | n+1,s2,i3=>cond (decide (i3 < (s2.size:Int))) ((bytS s2 i3).bind fun i4=>(qba qjj [.one (.sc (.int .u8 i4))] []).bind fun r5=>cond (qab qqxb r5) ((cB (qaa r5 0) 0).bind fun b6=>cond (!b6) (cond (i3==0) (some ([.one (Cell.bool false)],[])) ((bytS s2 i3).bind fun i7=>(qba qfw [.one (.sc (.int .u8 i7))] []).bind fun r8=>cond (qab qjwb r8) ((cB (qaa r8 0) 0).bind fun b9=>cond (!b9) ((bytS s2 i3).bind fun i10=>cond (i10 != 45) (some ([.one (Cell.bool false)],[])) (qmm k m n s2 (IntKind.i64.wrap (i3+1)))) (qmm k m n s2 (IntKind.i64.wrap (i3+1)))) none)) (qmm k m n s2 (IntKind.i64.wrap (i3+1)))) none) ((qba qga [.one (Cell.int (s2.size:Int)),.one (Cell.int 1),.one (Cell.int 10)] []).bind fun r11=>cond (qab qihb r11) ((cB (qaa r11 0) 0).bind fun b12=>some ([.one (Cell.bool b12)],[])) none)
def faf (k m:Nat)(s1:ByteArray):Option Res:=qmm k m m s1 0
abbrev qmyb (k m:Nat):TB:=evC qkfb qjb (evF qkfb (k+1)) m (sub [1,0,1,2,3] qjb.code) none
abbrev qosb (k m:Nat):TK:=qbu 0 (seqK (evC qkfb qjb (evF qkfb (k+1)) m (sub [1,1] qjb.code) none) (retK qkfb qjb))
theorem qktb (k m:Nat):∀ (n:Nat) (s2:ByteArray) (i3:Int),qdp (some [0,3]) (qmyb k m) (qosb k m) n ⟨fT 35 0 [(0,.av (.one (Cell.str s2))),(3,.av (.one (Cell.int i3)))],fX 35 0 [],[]⟩=qmm (k+1) m n s2 i3:=by
 intro n
 induction n with
 | zero=>intros;rfl
 | succ n ih=>intros;simp only[qmm,← ih];kernel_rfl
theorem qufb (k m:Nat)(s1:ByteArray):evC qkfb qjb (evF qkfb (k+1)) m qjb.code none (retK qkfb qjb) (enter qjb [.one (Cell.str s1)] [])=faf (k+1) m s1:=by
 simp only[faf,← qktb k m]
 kernel_rfl
theorem qcdb {s1:ByteArray}{r:Res}(k:Nat)(h:faf (k+1) (k+1) s1=some r):qlc [.one (Cell.str s1)] []=some r:=qan (k:=k+2) (Eq.trans (Eq.trans (by kernel_rfl) (qufb k (k+1) s1)) h)
def qcbc:List (Nat×Run):=[(quv,qnc),(qto,qlc)]
def qdwc:Ctx:=ctx qbe qbd qcbc
def qoy:Run:=lim qdwc qul
theorem ok_fai:FnOk Tryd.prog OkT qul qoy:=qam (l:=qcbc) qac tyTab_ok qad okT (.cons ok_fcu (.cons ok_faf .nil)) qul
def fai (k m:Nat)(s1:ByteArray):Option Res:=(qba qnc [.one (Cell.str s1),.one (Cell.str (bs [35]))] []).bind fun r2=>cond (qab qvmb r2) ((cS (qaa r2 0) 0).bind fun s3=>(cS (qaa r2 1) 0).bind fun s4=>(cB (qaa r2 2) 0).bind fun b5=>(qba qlc [.one (Cell.str s3)] []).bind fun r6=>cond (qab qsxb r6) ((cB (qaa r6 0) 0).bind fun b7=>cond (!b7) (some ([.one (Cell.str (bs [])),.one (Cell.str (bs [])),.one (Cell.bool false)],[])) ((qba qlc [.one (Cell.str s4)] []).bind fun r8=>cond (qab qsxb r8) ((cB (qaa r8 0) 0).bind fun b9=>cond (!b9) (some ([.one (Cell.str (bs [])),.one (Cell.str (bs [])),.one (Cell.bool false)],[])) (some ([.one (Cell.str s3),.one (Cell.str s4),.one (Cell.bool true)],[]))) none)) none) none
theorem qoxb (k m:Nat)(s1:ByteArray):evC qdwc qyz (evF qdwc (k+1)) m qyz.code none (retK qdwc qyz) (enter qyz [.one (Cell.str s1)] [])=fai (k+1) m s1:=by
 kernel_rfl
theorem qdnb {s1:ByteArray}{r:Res}(k:Nat)(h:fai (k+1) (k+1) s1=some r):qoy [.one (Cell.str s1)] []=some r:=qan (k:=k+2) (Eq.trans (Eq.trans (by kernel_rfl) (qoxb k (k+1) s1)) h)
def qvjb:List (Nat×Run):=[(qul,qoy)]
def qdoc:Ctx:=ctx qbe qbd qvjb
def qot:Run:=lim qdoc qvt
theorem ok_far:FnOk Tryd.prog OkT qvt qot:=qam (l:=qvjb) qac tyTab_ok qad okT (.cons ok_fai .nil) qvt
def far (k m:Nat)(s1:ByteArray):Option Res:=(qba qoy [.one (Cell.str s1)] []).bind fun r2=>cond (qab qamc r2) ((cS (qaa r2 0) 0).bind fun s3=>(cS (qaa r2 1) 0).bind fun s4=>(cB (qaa r2 2) 0).bind fun b5=>some ([.one (Cell.bool b5)],[])) none
theorem qnxb (k m:Nat)(s1:ByteArray):evC qdoc qym (evF qdoc (k+1)) m qym.code none (retK qdoc qym) (enter qym [.one (Cell.str s1)] [])=far (k+1) m s1:=by
 kernel_rfl
theorem qctb {s1:ByteArray}{r:Res}(k:Nat)(h:far (k+1) (k+1) s1=some r):qot [.one (Cell.str s1)] []=some r:=qan (k:=k+2) (Eq.trans (Eq.trans (by kernel_rfl) (qnxb k (k+1) s1)) h)
def qzbb:List (Nat×Run):=[(qly,qfw),(qpq,qjj)]
def qdjc:Ctx:=ctx qbe qbd qzbb
def qql:Run:=lim qdjc qsm
theorem ok_fap:FnOk Tryd.prog OkT qsm qql:=qam (l:=qzbb) qac tyTab_ok qad okT (.cons qsnb (.cons qbkc .nil)) qsm
def fap (k m:Nat)(i1:Int):Option Res:=(qba qjj [.one (.sc (.int .u8 i1))] []).bind fun r2=>cond (qab qqxb r2) ((cB (qaa r2 0) 0).bind fun b3=>cond b3 (some ([.one (Cell.bool true)],[])) ((qba qfw [.one (.sc (.int .u8 i1))] []).bind fun r4=>cond (qab qjwb r4) ((cB (qaa r4 0) 0).bind fun b5=>cond b5 (some ([.one (Cell.bool true)],[])) (cond (i1==46) (some ([.one (Cell.bool true)],[])) (cond (i1==45) (some ([.one (Cell.bool true)],[])) (some ([.one (Cell.bool (i1==95))],[]))))) none)) none
theorem qptb (k m:Nat)(i1:Int):evC qdjc qwl (evF qdjc (k+1)) m qwl.code none (retK qdjc qwl) (enter qwl [.one (.sc (.int .u8 i1))] [])=fap (k+1) m i1:=by
 kernel_rfl
theorem qecb {i1:Int}{r:Res}(k:Nat)(h:fap (k+1) (k+1) i1=some r):qql [.one (.sc (.int .u8 i1))] []=some r:=qan (k:=k+2) (Eq.trans (Eq.trans (by kernel_rfl) (qptb k (k+1) i1)) h)
def qatc:List (Nat×Run):=[(qlk,qga),(qsm,qql)]
def qhrb:Ctx:=ctx qbe qbd qatc
def qjw:Run:=lim qhrb qod
theorem qxxb:FnOk Tryd.prog OkT qod qjw:=qam (l:=qatc) qac tyTab_ok qad okT (.cons qomb (.cons ok_fap .nil)) qod
def qrm (k m:Nat):Nat→ByteArray→Int→Option Res | 0,_,_=>none | n+1,s2,i3=>cond (decide (i3 < (s2.size:Int))) ((bytS s2 i3).bind fun i4=>(qba qql [.one (.sc (.int .u8 i4))] []).bind fun r5=>cond (qab qvtb r5) ((cB (qaa r5 0) 0).bind fun b6=>cond (!b6) (some ([.one (Cell.bool false)],[])) (qrm k m n s2 (IntKind.i64.wrap (i3+1)))) none) ((qba qga [.one (Cell.int (s2.size:Int)),.one (Cell.int 1),.one (Cell.int 12)] []).bind fun r7=>cond (qab qihb r7) ((cB (qaa r7 0) 0).bind fun b8=>cond b8 (cond (!(s2.toList==(bs [46]).toList)) (some ([.one (Cell.bool (!(s2.toList==(bs [46,46]).toList)))],[])) (some ([.one (Cell.bool false)],[]))) (some ([.one (Cell.bool false)],[]))) none)
def fam (k m:Nat)(s1:ByteArray):Option Res:=qrm k m m s1 0
abbrev qmzb (k m:Nat):TB:=evC qhrb qiz (evF qhrb (k+1)) m (sub [1,0,1,2,3] qiz.code) none
abbrev qtwb (k m:Nat):TK:=qbu 0 (seqK (evC qhrb qiz (evF qhrb (k+1)) m (sub [1,1] qiz.code) none) (retK qhrb qiz))
theorem qfjb (k m:Nat):∀ (n:Nat) (s2:ByteArray) (i3:Int),qdp (some [0,3]) (qmzb k m) (qtwb k m) n ⟨fT 26 0 [(0,.av (.one (Cell.str s2))),(3,.av (.one (Cell.int i3)))],fX 26 0 [],[]⟩=qrm (k+1) m n s2 i3:=by
 intro n
 induction n with
 | zero=>intros;rfl
 | succ n ih=>intros;simp only[qrm,← ih];kernel_rfl
theorem qoab (k m:Nat)(s1:ByteArray):evC qhrb qiz (evF qhrb (k+1)) m qiz.code none (retK qhrb qiz) (enter qiz [.one (Cell.str s1)] [])=fam (k+1) m s1:=by
 simp only[fam,← qfjb k m]
 kernel_rfl
theorem qatb {s1:ByteArray}{r:Res}(k:Nat)(h:fam (k+1) (k+1) s1=some r):qjw [.one (Cell.str s1)] []=some r:=qan (k:=k+2) (Eq.trans (Eq.trans (by kernel_rfl) (qoab k (k+1) s1)) h)
def qwxb:List (Nat×Run):=[]
def G_fda:Ctx:=ctx qbe qbd qwxb
def qmub:Run:=lim G_fda qsv
theorem ok_fda:FnOk Tryd.prog OkT qsv qmub:=qam (l:=qwxb) qac tyTab_ok qad okT .nil qsv
def qxmb:List (Nat×Run):=[]
def G_fdb:Ctx:=ctx qbe qbd qxmb
def qmmb:Run:=lim G_fdb qtr
theorem ok_fdb:FnOk Tryd.prog OkT qtr qmmb:=qam (l:=qxmb) qac tyTab_ok qad okT .nil qtr
def qylb:List (Nat×Run):=[(qtr,qmmb)]
def G_fcz:Ctx:=ctx qbe qbd qylb
def qmob:Run:=lim G_fcz qtd
theorem ok_fcz:FnOk Tryd.prog OkT qtd qmob:=qam (l:=qylb) qac tyTab_ok qad okT (.cons ok_fdb .nil) qtd
def qzwb:List (Nat×Run):=[(qsv,qmub),(qtd,qmob)]
def G_fcx:Ctx:=ctx qbe qbd qzwb
def qalb:Run:=lim G_fcx qvy
theorem ok_fcx:FnOk Tryd.prog OkT qvy qalb:=qam (l:=qzwb) qac tyTab_ok qad okT (.cons ok_fda (.cons ok_fcz .nil)) qvy
def qvfb:List (Nat×Run):=[(qnz,qjf)]
def qchc:Ctx:=ctx qbe qbd qvfb
def qne:Run:=lim qchc qsy
theorem ok_fcv:FnOk Tryd.prog OkT qsy qne:=qam (l:=qvfb) qac tyTab_ok qad okT (.cons qzyb .nil) qsy
def fcv (k m:Nat)(s1 s2:ByteArray):Option Res:=(qba qjf [.one (Cell.str s1),.one (Cell.str s2)] []).bind fun r3=>cond (qab qnpb r3) ((cI .i64 (qaa r3 0) 0).bind fun i4=>some ([.one (Cell.int i4)],[])) none
theorem qqib (k m:Nat)(s1 s2:ByteArray):evC qchc qxg (evF qchc (k+1)) m qxg.code none (retK qchc qxg) (enter qxg [.one (Cell.str s1),.one (Cell.str s2)] [])=fcv (k+1) m s1 s2:=by
 kernel_rfl
theorem qzq {s1 s2:ByteArray}{r:Res}(k:Nat)(h:fcv (k+1) (k+1) s1 s2=some r):qne [.one (Cell.str s1),.one (Cell.str s2)] []=some r:=qan (k:=k+2) (Eq.trans (Eq.trans (by kernel_rfl) (qqib k (k+1) s1 s2)) h)
def qvub:List (Nat×Run):=[(qvy,qalb),(qlrb,qvg),(qsy,qne)]
def qisb:Ctx:=ctx qbe qbd qvub
def qlj:Run:=lim qisb qud
theorem ok_fcy:FnOk Tryd.prog OkT qud qlj:=qam (l:=qvub) qac tyTab_ok qad okT (.cons ok_fcx (.cons ok_fct (.cons ok_fcv .nil))) qud
def qog (k m:Nat):Nat→ByteArray→ByteArray→Int→Int→Cell→Int→List Entry→Option Res | 0,_,_,_,_,_,_,_=>none | n+1,s9,s10,i11,i12,c13,i14,H15=>cond (decide (i14 < i12)) ((qba qne [.one (Cell.str s9),.one (Cell.str s10)] H15).bind fun r16=>cond (qab qwdb r16) ((cI .i64 (qaa r16 0) 0).bind fun i17=>cond (decide (i17 < 0)) ((idxA 1 (c13) i14).bind fun c18=>(qby H15 (c18) [Cell.str s9]).bind fun h19=>(slcC 1 (c13) 0 (some (IntKind.i64.wrap (i14+1))) none).bind fun c20=>some ([.one (c20)],h19)) ((subS s9 0 (IntKind.i64.wrap (i17+i11))).bind fun s21=>(idxA 1 (c13) i14).bind fun c22=>(qby H15 (c22) [Cell.str s21]).bind fun h23=>(subS s9 (IntKind.i64.wrap (i17+(s10.size:Int))) (s9.size:Int)).bind fun s24=>qog k m n s24 s10 i11 i12 (c13) (IntKind.i64.wrap (i14+1)) h23)) none) ((idxA 1 (c13) i14).bind fun c25=>(qby H15 (c25) [Cell.str s9]).bind fun h26=>(slcC 1 (c13) 0 (some (IntKind.i64.wrap (i14+1))) none).bind fun c27=>some ([.one (c27)],h26))
def fcy (k m:Nat)(s1 s2:ByteArray)(i3 i4:Int):Option Res:=cond (i4==0) (some ([.one (.lst true 1 [])],[])) (cond (s2.toList==(bs []).toList) ((callL qalb [.one (Cell.str s1),.one (Cell.int i4)] []).bind fun r5=>cond (qab qapc r5.1) ((cC (qaa r5.1 0) 0).bind fun c6=>some ([.one (c6)],r5.2)) none) (cond (decide (i4 < 0)) ((qba qvg [.one (Cell.str s1),.one (Cell.str s2)] []).bind fun r7=>cond (qab qwtb r7) ((cI .i64 (qaa r7 0) 0).bind fun i8=>if 0≤(if (IntKind.i64.wrap ((s1.size:Int)+1)) < (IntKind.i64.wrap (i8+1)) then (IntKind.i64.wrap ((s1.size:Int)+1)) else (IntKind.i64.wrap (i8+1)))∧(if (IntKind.i64.wrap ((s1.size:Int)+1)) < (IntKind.i64.wrap (i8+1)) then (IntKind.i64.wrap ((s1.size:Int)+1)) else (IntKind.i64.wrap (i8+1)))≤(if (IntKind.i64.wrap ((s1.size:Int)+1)) < (IntKind.i64.wrap (i8+1)) then (IntKind.i64.wrap ((s1.size:Int)+1)) else (IntKind.i64.wrap (i8+1)))∧(if (IntKind.i64.wrap ((s1.size:Int)+1)) < (IntKind.i64.wrap (i8+1)) then (IntKind.i64.wrap ((s1.size:Int)+1)) else (IntKind.i64.wrap (i8+1)))*16≤bound∧(if (IntKind.i64.wrap ((s1.size:Int)+1)) < (IntKind.i64.wrap (i8+1)) then (IntKind.i64.wrap ((s1.size:Int)+1)) else (IntKind.i64.wrap (i8+1)))≤bound then (qog k m m s1 s2 i3 (IntKind.i64.wrap ((if (IntKind.i64.wrap ((s1.size:Int)+1)) < (IntKind.i64.wrap (i8+1)) then (IntKind.i64.wrap ((s1.size:Int)+1)) else (IntKind.i64.wrap (i8+1))) - 1)) ((.vs 0 1 0 (if (IntKind.i64.wrap ((s1.size:Int)+1)) < (IntKind.i64.wrap (i8+1)) then (IntKind.i64.wrap ((s1.size:Int)+1)) else (IntKind.i64.wrap (i8+1))).toNat 0)) 0 [Entry.mk 1 (qbh (if (IntKind.i64.wrap ((s1.size:Int)+1)) < (IntKind.i64.wrap (i8+1)) then (IntKind.i64.wrap ((s1.size:Int)+1)) else (IntKind.i64.wrap (i8+1))).toNat [Cell.str (bs [])]) 0 false]) else none) none) (if 0≤(if (IntKind.i64.wrap ((s1.size:Int)+1)) < i4 then (IntKind.i64.wrap ((s1.size:Int)+1)) else i4)∧(if (IntKind.i64.wrap ((s1.size:Int)+1)) < i4 then (IntKind.i64.wrap ((s1.size:Int)+1)) else i4)≤(if (IntKind.i64.wrap ((s1.size:Int)+1)) < i4 then (IntKind.i64.wrap ((s1.size:Int)+1)) else i4)∧(if (IntKind.i64.wrap ((s1.size:Int)+1)) < i4 then (IntKind.i64.wrap ((s1.size:Int)+1)) else i4)*16≤bound∧(if (IntKind.i64.wrap ((s1.size:Int)+1)) < i4 then (IntKind.i64.wrap ((s1.size:Int)+1)) else i4)≤bound then (qog k m m s1 s2 i3 (IntKind.i64.wrap ((if (IntKind.i64.wrap ((s1.size:Int)+1)) < i4 then (IntKind.i64.wrap ((s1.size:Int)+1)) else i4) - 1)) ((.vs 0 1 0 (if (IntKind.i64.wrap ((s1.size:Int)+1)) < i4 then (IntKind.i64.wrap ((s1.size:Int)+1)) else i4).toNat 0)) 0 [Entry.mk 1 (qbh (if (IntKind.i64.wrap ((s1.size:Int)+1)) < i4 then (IntKind.i64.wrap ((s1.size:Int)+1)) else i4).toNat [Cell.str (bs [])]) 0 false]) else none)))
abbrev qqhb (k m:Nat):TB:=evC qisb qis (evF qisb (k+1)) m (sub [1,1,1,1,1,1,1,1,0,2,3] qis.code) none
abbrev qszb (k m:Nat):TK:=qbu 0 (seqK (evC qisb qis (evF qisb (k+1)) m (sub [1,1,1,1,1,1,1,1,1] qis.code) none) (retK qisb qis))
theorem qimb (k m:Nat):∀ (n:Nat) (s9 s10:ByteArray) (i11 i12:Int) (c13:Cell) (i14:Int) (H15:List Entry),qdp (some [0,1,2,3,9,10]) (qqhb k m) (qszb k m) n ⟨fT 66 0 [(0,.av (.one (Cell.str s9))),(1,.av (.one (Cell.str s10))),(2,.av (.one (Cell.int i11))),(3,.av (.one (Cell.int i12))),(9,.av (.one (c13))),(10,.av (.one (Cell.int i14)))],fX 66 0 [],H15⟩=qog (k+1) m n s9 s10 i11 i12 c13 i14 H15:=by
 intro n
 induction n with
 | zero=>intros;rfl
 | succ n ih=>intros;simp only[qog,← ih];kernel_rfl
theorem qrdb (k m:Nat)(s1 s2:ByteArray)(i3 i4:Int):evC qisb qis (evF qisb (k+1)) m qis.code none (retK qisb qis) (enter qis [.one (Cell.str s1),.one (Cell.str s2),.one (Cell.int i3),.one (Cell.int i4)] [])=fcy (k+1) m s1 s2 i3 i4:=by
 simp only[fcy,← qimb k m]
 kernel_rfl
theorem qdcb {s1 s2:ByteArray}{i3 i4:Int}{r:Res}(k:Nat)(h:fcy (k+1) (k+1) s1 s2 i3 i4=some r):qlj [.one (Cell.str s1),.one (Cell.str s2),.one (Cell.int i3),.one (Cell.int i4)] []=some r:=qan (k:=k+2) (Eq.trans (Eq.trans (by kernel_rfl) (qrdb k (k+1) s1 s2 i3 i4)) h)
def qzhb:List (Nat×Run):=[(qud,qlj)]
def qcnc:Ctx:=ctx qbe qbd qzhb
def qox:Run:=lim qcnc quy
theorem ok_fcw:FnOk Tryd.prog OkT quy qox:=qam (l:=qzhb) qac tyTab_ok qad okT (.cons ok_fcy .nil) quy
def fcw (k m:Nat)(s1 s2:ByteArray):Option Res:=(callL qlj [.one (Cell.str s1),.one (Cell.str s2),.one (Cell.int 0),.one (Cell.int (-1))] []).bind fun r3=>cond (qab qbvc r3.1) ((cC (qaa r3.1 0) 0).bind fun c4=>some ([.one (c4)],r3.2)) none
theorem qmwb (k m:Nat)(s1 s2:ByteArray):evC qcnc qxk (evF qcnc (k+1)) m qxk.code none (retK qcnc qxk) (enter qxk [.one (Cell.str s1),.one (Cell.str s2)] [])=fcw (k+1) m s1 s2:=by
 kernel_rfl
theorem qekb {s1 s2:ByteArray}{r:Res}(k:Nat)(h:fcw (k+1) (k+1) s1 s2=some r):qox [.one (Cell.str s1),.one (Cell.str s2)] []=some r:=qan (k:=k+2) (Eq.trans (Eq.trans (by kernel_rfl) (qmwb k (k+1) s1 s2)) h)
def qcdc:List (Nat×Run):=[(qod,qjw),(quy,qox)]
def qglb:Ctx:=ctx qbe qbd qcdc
def qpl:Run:=lim qglb qvl
theorem ok_faj:FnOk Tryd.prog OkT qvl qpl:=qam (l:=qcdc) qac tyTab_ok qad okT (.cons qxxb (.cons ok_fcw .nil)) qvl
def qsg (k m:Nat):Nat→Cell→Cell→Int→Int→List Entry→Option Res | 0,_,_,_,_,_=>none | n+1,c5,c6,i7,i8,H9=>cond (decide (i8 < i7)) ((idxA 1 (c6) i8).bind fun c10=>(deref H9 (c10)).bind fun p11=>(cS p11.1 p11.2).bind fun s12=>(qba qjw [.one (Cell.str s12)] H9).bind fun r13=>cond (qab qnbb r13) ((cB (qaa r13 0) 0).bind fun b14=>cond (!b14) (some ([.one (Cell.bool false)],H9)) (qsg k m n (c5) (c6) i7 (IntKind.i64.wrap (i8+1)) H9)) none) ((lenC c5).bind fun n15=>some ([.one (Cell.bool (decide ((n15:Int)≤4)))],H9))
def faj (k m:Nat)(s1:ByteArray):Option Res:=(callL qox [.one (Cell.str s1),.one (Cell.str (bs [47]))] []).bind fun r2=>cond (qab qyub r2.1) ((cC (qaa r2.1 0) 0).bind fun c3=>(lenC c3).bind fun n4=>qsg k m m (c3) (c3) (n4:Int) 0 r2.2) none
abbrev qrib (k m:Nat):TB:=evC qglb qip (evF qglb (k+1)) m (sub [1,1,0,1,2,3] qip.code) none
abbrev qqjb (k m:Nat):TK:=qbu 0 (seqK (evC qglb qip (evF qglb (k+1)) m (sub [1,1,1] qip.code) none) (retK qglb qip))
theorem qkvb (k m:Nat):∀ (n:Nat) (c5 c6:Cell) (i7 i8:Int) (H9:List Entry),qdp (some [3,8,9,10]) (qrib k m) (qqjb k m) n ⟨fT 21 0 [(3,.av (.one (c5))),(8,.av (.one (c6))),(9,.av (.one (Cell.int i7))),(10,.av (.one (Cell.int i8)))],fX 21 0 [],H9⟩=qsg (k+1) m n c5 c6 i7 i8 H9:=by
 intro n
 induction n with
 | zero=>intros;rfl
 | succ n ih=>intros;simp only[qsg,← ih];kernel_rfl
theorem qqyb (k m:Nat)(s1:ByteArray):evC qglb qip (evF qglb (k+1)) m qip.code none (retK qglb qip) (enter qip [.one (Cell.str s1)] [])=faj (k+1) m s1:=by
 simp only[faj,← qkvb k m]
 kernel_rfl
theorem qebb {s1:ByteArray}{r:Res}(k:Nat)(h:faj (k+1) (k+1) s1=some r):qpl [.one (Cell.str s1)] []=some r:=qan (k:=k+2) (Eq.trans (Eq.trans (by kernel_rfl) (qqyb k (k+1) s1)) h)
def qygb:List (Nat×Run):=[(qvl,qpl)]
def qhkb:Ctx:=ctx qbe qbd qygb
def qpb:Run:=lim qhkb qvj
theorem ok_fab:FnOk Tryd.prog OkT qvj qpb:=qam (l:=qygb) qac tyTab_ok qad okT (.cons ok_faj .nil) qvj
def qpx (k m:Nat):Nat→Cell→Cell→Int→Int→Option Res | 0,_,_,_,_=>none | n+1,c3,c4,i5,i6=>cond (decide (i6 < i5)) ((idxA 2 (c4) i6).bind fun c7=>(deref [] (c7)).bind fun p8=>(cS p8.1 p8.2).bind fun s9=>(cS p8.1 (p8.2+1)).bind fun s10=>(qba qpl [.one (Cell.str s9)] []).bind fun r11=>cond (qab qyob r11) ((cB (qaa r11 0) 0).bind fun b12=>cond (!b12) (some ([.one (Cell.bool false)],[])) (cond (decide ((s10.size:Int) > 60)) (some ([.one (Cell.bool false)],[])) (cond (decide (i6 > 0)) ((idxA 2 (c3) (IntKind.i64.wrap (i6 - 1))).bind fun c13=>(fldA c13 0).bind fun c14=>(deref [] (c14)).bind fun p15=>(cS p15.1 p15.2).bind fun s16=>cond (Op.bytesLess s9.toList s16.toList||s9.toList==s16.toList) (some ([.one (Cell.bool false)],[])) (qpx k m n (c3) (c4) i5 (IntKind.i64.wrap (i6+1)))) (qpx k m n (c3) (c4) i5 (IntKind.i64.wrap (i6+1)))))) none) ((lenC c3).bind fun n17=>some ([.one (Cell.bool (decide ((n17:Int)≤30)))],[]))
def fab (k m:Nat)(c1:Cell):Option Res:=(lenC c1).bind fun n2=>qpx k m m (c1) (c1) (n2:Int) 0
abbrev qsdb (k m:Nat):TB:=evC qhkb qir (evF qhkb (k+1)) m (sub [1,0,1,2,3] qir.code) none
abbrev qrab (k m:Nat):TK:=qbu 0 (seqK (evC qhkb qir (evF qhkb (k+1)) m (sub [1,1] qir.code) none) (retK qhkb qir))
theorem qhub (k m:Nat):∀ (n:Nat) (c3 c4:Cell) (i5 i6:Int),qdp (some [0,5,6,7]) (qsdb k m) (qrab k m) n ⟨fT 41 0 [(0,.av (.one (c3))),(5,.av (.one (c4))),(6,.av (.one (Cell.int i5))),(7,.av (.one (Cell.int i6)))],fX 41 0 [],[]⟩=qpx (k+1) m n c3 c4 i5 i6:=by
 intro n
 induction n with
 | zero=>intros;rfl
 | succ n ih=>intros;simp only[qpx,← ih];kernel_rfl
theorem qtub (k m:Nat)(c1:Cell):evC qhkb qir (evF qhkb (k+1)) m qir.code none (retK qhkb qir) (enter qir [.one (c1)] [])=fab (k+1) m c1:=by
 simp only[fab,← qhub k m]
 kernel_rfl
theorem qdfb {c1:Cell}{r:Res}(k:Nat)(h:fab (k+1) (k+1) c1=some r):qpb [.one (c1)] []=some r:=qan (k:=k+2) (Eq.trans (Eq.trans (by kernel_rfl) (qtub k (k+1) c1)) h)
def qvcb:List (Nat×Run):=[(qod,qjw),(qvj,qpb)]
def qhhb:Ctx:=ctx qbe qbd qvcb
def qqm:Run:=lim qhhb qts
theorem ok_fas:FnOk Tryd.prog OkT qts qqm:=qam (l:=qvcb) qac tyTab_ok qad okT (.cons qxxb (.cons ok_fab .nil)) qts
def qru (k m:Nat):Nat→Cell→Cell→Int→Int→Option Res | 0,_,_,_,_=>none | n+1,c3,c4,i5,i6=>cond (decide (i6 < i5)) ((idxA 2 (c4) i6).bind fun c7=>(deref [] (c7)).bind fun p8=>(cS p8.1 p8.2).bind fun s9=>(cS p8.1 (p8.2+1)).bind fun s10=>(qba qjw [.one (Cell.str s9)] []).bind fun r11=>cond (qab qnbb r11) ((cB (qaa r11 0) 0).bind fun b12=>cond (!b12) (some ([.one (Cell.bool false)],[])) (qru k m n (c3) (c4) i5 (IntKind.i64.wrap (i6+1)))) none) ((lenC c3).bind fun n13=>cond (decide ((n13:Int)≤6)) ((qba qpb [.one (c3)] []).bind fun r14=>cond (qab qbhc r14) ((cB (qaa r14 0) 0).bind fun b15=>some ([.one (Cell.bool b15)],[])) none) (some ([.one (Cell.bool false)],[])))
def fas (k m:Nat)(c1:Cell):Option Res:=(lenC c1).bind fun n2=>qru k m m (c1) (c1) (n2:Int) 0
abbrev qsab (k m:Nat):TB:=evC qhhb qit (evF qhhb (k+1)) m (sub [1,0,1,2,3] qit.code) none
abbrev qofb (k m:Nat):TK:=qbu 0 (seqK (evC qhhb qit (evF qhhb (k+1)) m (sub [1,1] qit.code) none) (retK qhhb qit))
theorem qicb (k m:Nat):∀ (n:Nat) (c3 c4:Cell) (i5 i6:Int),qdp (some [0,5,6,7]) (qsab k m) (qofb k m) n ⟨fT 23 0 [(0,.av (.one (c3))),(5,.av (.one (c4))),(6,.av (.one (Cell.int i5))),(7,.av (.one (Cell.int i6)))],fX 23 0 [],[]⟩=qru (k+1) m n c3 c4 i5 i6:=by
 intro n
 induction n with
 | zero=>intros;rfl
 | succ n ih=>intros;simp only[qru,← ih];kernel_rfl
theorem qrzb (k m:Nat)(c1:Cell):evC qhhb qit (evF qhhb (k+1)) m qit.code none (retK qhhb qit) (enter qit [.one (c1)] [])=fas (k+1) m c1:=by
 simp only[fas,← qicb k m]
 kernel_rfl
theorem qbdb {c1:Cell}{r:Res}(k:Nat)(h:fas (k+1) (k+1) c1=some r):qqm [.one (c1)] []=some r:=qan (k:=k+2) (Eq.trans (Eq.trans (by kernel_rfl) (qrzb k (k+1) c1)) h)
end
end Go.Ev
