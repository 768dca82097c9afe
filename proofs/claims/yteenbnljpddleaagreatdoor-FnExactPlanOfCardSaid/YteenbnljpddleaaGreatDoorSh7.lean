/- What the evaluator says of the functions, each as a Lean function over cells. Printed by a program of this claim. Conditions: none. -/
import Derived.Test.YteenbnljpddleaaGreatDoorSh6
import Derived.KernelRfl
namespace Go.Ev
open Go Go.Proofs
noncomputable section
set_option maxRecDepth 100000
set_option linter.unusedVariables false
set_option linter.unusedSimpArgs false
def qusd:List (Nat×Run):=[(qodb,qayb)]
def qcpe:Ctx:=ctx qbd qbe qusd
def qur:Run:=lim qcpe qonb
theorem ok_fdy:FnOk Tryz.prog OkT qonb qur:=qan (l:=qusd) qac tyTab_ok qad okT (.cons ok_fea .nil) qonb
def fdy (k m:Nat)(c1:Cell)(s2:ByteArray):Option Res:=(qar qayb [.one (c1),.one (Cell.str s2)] []).bind fun r3=>cond (qab qvfd r3) ((cI .i64 (qaa r3 0) 0).bind fun i4=>some ([.one (Cell.bool (decide (i4≥0)))],[])) none
theorem qlkd (k m:Nat)(c1:Cell)(s2:ByteArray):evC qcpe qryb (evF qcpe (k+1)) m qryb.code none (retK qcpe qryb) (enter qryb [.one (c1),.one (Cell.str s2)] [])=fdy (k+1) m c1 s2:=by
 kernel_rfl
theorem qufb {c1:Cell}{s2:ByteArray}{r:Res}(k:Nat)(h:fdy (k+1) (k+1) c1 s2=some r):qur [.one (c1),.one (Cell.str s2)] []=some r:=qap (k:=k+2) (Eq.trans (Eq.trans (by kernel_rfl) (qlkd k (k+1) c1 s2)) h)
def qngd:List (Nat×Run):=[(qiz,qdl),(qpn,qgt)]
def qece:Ctx:=ctx qbd qbe qngd
def qoi:Run:=lim qece qyj
theorem qthd:FnOk Tryz.prog OkT qyj qoi:=qan (l:=qngd) qac tyTab_ok qad okT (.cons qhzb (.cons qhic .nil)) qyj
def fak (k m:Nat)(s1:ByteArray):Option Res:=(qar qgt [.one (Cell.str s1),.one (Cell.str (bs [35]))] []).bind fun r2=>cond (qab quhb r2) ((cS (qaa r2 0) 0).bind fun s3=>(cS (qaa r2 1) 0).bind fun s4=>(cB (qaa r2 2) 0).bind fun b5=>(qar qdl [.one (Cell.str s3)] []).bind fun r6=>cond (qab qqs r6) ((cB (qaa r6 0) 0).bind fun b7=>cond (!b7) (some ([.one (Cell.str (bs [])),.one (Cell.str (bs [])),.one (Cell.bool false)],[])) ((qar qdl [.one (Cell.str s4)] []).bind fun r8=>cond (qab qqs r8) ((cB (qaa r8 0) 0).bind fun b9=>cond (!b9) (some ([.one (Cell.str (bs [])),.one (Cell.str (bs [])),.one (Cell.bool false)],[])) (some ([.one (Cell.str s3),.one (Cell.str s4),.one (Cell.bool true)],[]))) none)) none) none
theorem qhbd (k m:Nat)(s1:ByteArray):evC qece qrmb (evF qece (k+1)) m qrmb.code none (retK qece qrmb) (enter qrmb [.one (Cell.str s1)] [])=fak (k+1) m s1:=by
 kernel_rfl
theorem qwib {s1:ByteArray}{r:Res}(k:Nat)(h:fak (k+1) (k+1) s1=some r):qoi [.one (Cell.str s1)] []=some r:=qap (k:=k+2) (Eq.trans (Eq.trans (by kernel_rfl) (qhbd k (k+1) s1)) h)
def qtbd:List (Nat×Run):=[(qnr,qhq)]
def qnec:Ctx:=ctx qbd qbe qtbd
def qyk:Run:=lim qnec qisb
theorem ok_fax:FnOk Tryz.prog OkT qisb qyk:=qan (l:=qtbd) qac tyTab_ok qad okT (.cons qevc .nil) qisb
def qelb (k m:Nat):Nat→ByteArray→Cell→Int→Int→Option Res | 0,_,_,_,_=>none | n+1,s11,c12,i13,i14=>cond (decide (i14 < i13)) ((idxA 2 (c12) i14).bind fun c15=>(deref [] (c15)).bind fun p16=>(cS p16.1 p16.2).bind fun s17=>(cC p16.1 (p16.2+1)).bind fun c18=>cond (s17.toList==s11.toList) (some ([.agg [Cell.str s17,c18],.one (Cell.bool true)],[])) (qelb k m n s11 (c12) i13 (IntKind.i64.wrap (i14+1)))) (some ([.agg [Cell.str (bs []),.lst true 1 []],.one (Cell.bool false)],[]))
def fax (k m:Nat)(c1:Cell)(s2 s3:ByteArray):Option Res:=(qar qhq [.one (c1),.one (Cell.str s2)] []).bind fun r4=>cond (qab qusb r4) ((cI .i64 (qaa r4 0) 0).bind fun i5=>cond (decide (i5 < 0)) (some ([.agg [Cell.str (bs []),.lst true 1 []],.one (Cell.bool false)],[])) ((idxA 4 (c1) i5).bind fun c6=>(fldA c6 3).bind fun c7=>(deref [] (c7)).bind fun p8=>(cC p8.1 p8.2).bind fun c9=>(lenC c9).bind fun n10=>qelb k m m s3 (c9) (n10:Int) 0)) none
abbrev qewd (k m:Nat):TB:=evC qnec qop (evF qnec (k+1)) m (sub [1,1,1,0,1,2,3] qop.code) none
abbrev qgbd (k m:Nat):TK:=qav 0 (seqK (evC qnec qop (evF qnec (k+1)) m (sub [1,1,1,1] qop.code) none) (retK qnec qop))
theorem qeec (k m:Nat):∀ (n:Nat) (s11:ByteArray) (c12:Cell) (i13 i14:Int),qbo (some [2,6,21,22,23]) (qewd k m) (qgbd k m) n ⟨fT 34 0 [(2,.av (.one (Cell.str s11))),(6,.loc 6 0),(21,.av (.one (c12))),(22,.av (.one (Cell.int i13))),(23,.av (.one (Cell.int i14)))],fX 34 0 [(6,[Cell.str (bs []),.lst true 1 []])],[]⟩=qelb (k+1) m n s11 c12 i13 i14:=by
 intro n
 induction n with
 | zero=>intros;rfl
 | succ n ih=>intros;simp only[qelb,← ih];kernel_rfl
theorem qkbd (k m:Nat)(c1:Cell)(s2 s3:ByteArray):evC qnec qop (evF qnec (k+1)) m qop.code none (retK qnec qop) (enter qop [.one (c1),.one (Cell.str s2),.one (Cell.str s3)] [])=fax (k+1) m c1 s2 s3:=by
 simp only[fax,← qeec k m]
 kernel_rfl
theorem qyl {c1:Cell}{s2 s3:ByteArray}{r:Res}(k:Nat)(h:fax (k+1) (k+1) c1 s2 s3=some r):qyk [.one (c1),.one (Cell.str s2),.one (Cell.str s3)] []=some r:=qap (k:=k+2) (Eq.trans (Eq.trans (by kernel_rfl) (qkbd k (k+1) c1 s2 s3)) h)
def qrod:List (Nat×Run):=[(qyj,qoi),(qisb,qyk)]
def qdve:Ctx:=ctx qbd qbe qrod
def qzb:Run:=lim qdve qkhb
theorem ok_fbj:FnOk Tryz.prog OkT qkhb qzb:=qan (l:=qrod) qac tyTab_ok qad okT (.cons qthd (.cons ok_fax .nil)) qkhb
def fbj (k m:Nat)(c1:Cell)(s2:ByteArray):Option Res:=(qar qoi [.one (Cell.str s2)] []).bind fun r3=>cond (qab qjid r3) ((cS (qaa r3 0) 0).bind fun s4=>(cS (qaa r3 1) 0).bind fun s5=>(cB (qaa r3 2) 0).bind fun b6=>cond (!b6) (some ([.one (Cell.bool false)],[])) ((callL qyk [.one (c1),.one (Cell.str s4),.one (Cell.str s5)] []).bind fun r7=>cond (qab qvgd r7.1) ((cS (qaa r7.1 0) 0).bind fun s8=>(cC (qaa r7.1 0) 1).bind fun c9=>(cB (qaa r7.1 1) 0).bind fun b10=>some ([.one (Cell.bool b10)],r7.2)) none)) none
theorem qeid (k m:Nat)(c1:Cell)(s2:ByteArray):evC qdve qqob (evF qdve (k+1)) m qqob.code none (retK qdve qqob) (enter qqob [.one (c1),.one (Cell.str s2)] [])=fbj (k+1) m c1 s2:=by
 kernel_rfl
theorem qvcb {c1:Cell}{s2:ByteArray}{r:Res}(k:Nat)(h:fbj (k+1) (k+1) c1 s2=some r):qzb [.one (c1),.one (Cell.str s2)] []=some r:=qap (k:=k+2) (Eq.trans (Eq.trans (by kernel_rfl) (qeid k (k+1) c1 s2)) h)
def qned:List (Nat×Run):=[(qonb,qur),(qkhb,qzb)]
def qdoe:Ctx:=ctx qbd qbe qned
def qts:Run:=lim qdoe qmp
theorem ok_fao:FnOk Tryz.prog OkT qmp qts:=qan (l:=qned) qac tyTab_ok qad okT (.cons ok_fdy (.cons ok_fbj .nil)) qmp
def fao (k m:Nat)(s1:ByteArray)(c2 c3:Cell)(H:List Entry):Option Res:=(deref H (c2)).bind fun p4=>(cC p4.1 p4.2).bind fun c5=>(qar qur [.one (c5),.one (Cell.str s1)] H).bind fun r6=>cond (qab qodd r6) ((cB (qaa r6 0) 0).bind fun b7=>cond (!b7) ((deref H (c3)).bind fun p8=>(cC p8.1 p8.2).bind fun c9=>(qar qzb [.one (c9),.one (Cell.str s1)] H).bind fun r10=>cond (qab qvcd r10) ((cB (qaa r10 0) 0).bind fun b11=>cond b11 ((deref H (c2)).bind fun p12=>(cC p12.1 p12.2).bind fun c13=>(app H 1 16 (c13) [[Cell.str s1]]).bind fun p14=>(qca p14.2 (c2) [p14.1]).bind fun h15=>some ([],h15)) (some ([],H))) none) (some ([],H))) none
theorem qdcd (k m:Nat)(s1:ByteArray)(c2 c3:Cell)(H:List Entry):evC qdoe qpub (evF qdoe (k+1)) m qpub.code none (retK qdoe qpub) (enter qpub [.one (Cell.str s1),.one (c2),.one (c3)] H)=fao (k+1) m s1 c2 c3 H:=by
 kernel_rfl
theorem qrv {s1:ByteArray}{c2 c3:Cell}{H:List Entry}{r:Res}(k:Nat)(h:fao (k+1) (k+1) s1 c2 c3 H=some r):qts [.one (Cell.str s1),.one (c2),.one (c3)] H=some r:=qap (k:=k+2) (Eq.trans (Eq.trans (by kernel_rfl) (qdcd k (k+1) s1 c2 c3 H)) h)
def qyzd:List (Nat×Run):=[]
def qcre:Ctx:=ctx qbd qbe qyzd
def qlf:Run:=lim qcre qaqb
theorem qyed:FnOk Tryz.prog OkT qaqb qlf:=qan (l:=qyzd) qac tyTab_ok qad okT .nil qaqb
def fdw (k m:Nat)(c1:Cell):Option Res:=nilC (c1) (both (some ([.one (.lst true 1 [])],[])) ((qbp [] 1 c1).bind fun r2=>(app [] 1 16 (.lst true 1 []) r2).bind fun p3=>some ([.one (p3.1)],p3.2))) ((qbp [] 1 c1).bind fun r4=>(app [] 1 16 (.lst true 1 []) r4).bind fun p5=>some ([.one (p5.1)],p5.2))
theorem qbod (k m:Nat)(c1:Cell):evC qcre qsgb (evF qcre (k+1)) m qsgb.code none (retK qcre qsgb) (enter qsgb [.one (c1)] [])=fdw (k+1) m c1:=by
 kernel_rfl
theorem qxbb {c1:Cell}{r:Res}(k:Nat)(h:fdw (k+1) (k+1) c1=some r):qlf [.one (c1)] []=some r:=qap (k:=k+2) (Eq.trans (Eq.trans (by kernel_rfl) (qbod k (k+1) c1)) h)
def qvbd:List (Nat×Run):=[]
def qdze:Ctx:=ctx qbd qbe qvbd
def qup:Run:=lim qdze qkxb
theorem ok_fdv:FnOk Tryz.prog OkT qkxb qup:=qan (l:=qvbd) qac tyTab_ok qad okT .nil qkxb
def fdv (k m:Nat)(c1:Cell)(H:List Entry):Option Res:=(lenC c1).bind fun n2=>(lenC c1).bind fun n3=>(slcC 1 (c1) 0 (some (n2:Int)) (some (n3:Int))).bind fun c4=>some ([.one (c4)],H)
theorem qyfc (k m:Nat)(c1:Cell)(H:List Entry):evC qdze qqcb (evF qdze (k+1)) m qqcb.code none (retK qdze qqcb) (enter qqcb [.one (c1)] H)=fdv (k+1) m c1 H:=by
 kernel_rfl
theorem qacb {c1:Cell}{H:List Entry}{r:Res}(k:Nat)(h:fdv (k+1) (k+1) c1 H=some r):qup [.one (c1)] H=some r:=qap (k:=k+2) (Eq.trans (Eq.trans (by kernel_rfl) (qyfc k (k+1) c1 H)) h)
def qved:List (Nat×Run):=[(qaqb,qlf),(quac,qbyb),(qkxb,qup),(qtoc,qzr)]
def qbie:Ctx:=ctx qbd qbe qved
def qnk:Run:=lim qbie qxv
theorem qqxd:FnOk Tryz.prog OkT qxv qnk:=qan (l:=qved) qac tyTab_ok qad okT (.cons qyed (.cons ok_feb (.cons ok_fdv (.cons ok_fdx .nil)))) qxv
def far (k m:Nat)(c1:Cell):Option Res:=(qdk qlf [.one (c1)] []).bind fun r2=>cond (qab qwfb r2.1) ((cC (qaa r2.1 0) 0).bind fun c3=>(qbyb [.one (c3)] r2.2).bind fun r4=>cond (qab qshd r4.1) ((qzr [.one (c3)] r4.2).bind fun r5=>cond (qab qsdd r5.1) ((cC (qaa r5.1 0) 0).bind fun c6=>(qup [.one (c6)] r5.2).bind fun r7=>cond (qab quud r7.1) ((cC (qaa r7.1 0) 0).bind fun c8=>some ([.one (c8)],r7.2)) none) none) none) none
theorem qhsd (k m:Nat)(c1:Cell):evC qbie qstb (evF qbie (k+1)) m qstb.code none (retK qbie qstb) (enter qstb [.one (c1)] [])=far (k+1) m c1:=by
 kernel_rfl
theorem qzn {c1:Cell}{r:Res}(k:Nat)(h:far (k+1) (k+1) c1=some r):qnk [.one (c1)] []=some r:=qap (k:=k+2) (Eq.trans (Eq.trans (by kernel_rfl) (qhsd k (k+1) c1)) h)
def qnod:List (Nat×Run):=[(qaqb,qlf)]
def qbue:Ctx:=ctx qbd qbe qnod
def qdwb:Run:=lim qbue qmyb
theorem ok_fba:FnOk Tryz.prog OkT qmyb qdwb:=qan (l:=qnod) qac tyTab_ok qad okT (.cons qyed .nil) qmyb
def fba (k m:Nat)(s1:ByteArray)(c2 c3 c4:Cell)(b5:Bool):Option Res:=(qdk qlf [.one (c2)] []).bind fun r6=>cond (qab qwfb r6.1) ((cC (qaa r6.1 0) 0).bind fun c7=>(qdk qlf [.one (c3)] r6.2).bind fun r8=>cond (qab qwfb r8.1) ((cC (qaa r8.1 0) 0).bind fun c9=>(qdk qlf [.one (c4)] r8.2).bind fun r10=>cond (qab qwfb r10.1) ((cC (qaa r10.1 0) 0).bind fun c11=>some ([.agg [Cell.str s1,c7,c9,c11,Cell.bool b5]],r10.2)) none) none) none
theorem qbud (k m:Nat)(s1:ByteArray)(c2 c3 c4:Cell)(b5:Bool):evC qbue qrkb (evF qbue (k+1)) m qrkb.code none (retK qbue qrkb) (enter qrkb [.agg [Cell.str s1,c2,c3,c4,Cell.bool b5]] [])=fba (k+1) m s1 c2 c3 c4 b5:=by
 kernel_rfl
theorem qyhb {s1:ByteArray}{c2 c3 c4:Cell}{b5:Bool}{r:Res}(k:Nat)(h:fba (k+1) (k+1) s1 c2 c3 c4 b5=some r):qdwb [.agg [Cell.str s1,c2,c3,c4,Cell.bool b5]] []=some r:=qap (k:=k+2) (Eq.trans (Eq.trans (by kernel_rfl) (qbud k (k+1) s1 c2 c3 c4 b5)) h)
def qond:List (Nat×Run):=[(qmyb,qdwb)]
def qrfc:Ctx:=ctx qbd qbe qond
def qyb:Run:=lim qrfc qlub
theorem ok_fap:FnOk Tryz.prog OkT qlub qyb:=qan (l:=qond) qac tyTab_ok qad okT (.cons ok_fba .nil) qlub
def qyq (k m:Nat):Nat→ByteArray→Cell→Int→Int→Option Res | 0,_,_,_,_=>none | n+1,s4,c5,i6,i7=>cond (decide (i7 < i6)) ((idxA 5 (c5) i7).bind fun c8=>(deref [] (c8)).bind fun p9=>(cS p9.1 p9.2).bind fun s10=>(cC p9.1 (p9.2+1)).bind fun c11=>(cC p9.1 ((p9.2+1)+1)).bind fun c12=>(cC p9.1 (((p9.2+1)+1)+1)).bind fun c13=>(cB p9.1 ((((p9.2+1)+1)+1)+1)).bind fun b14=>cond (s10.toList==s4.toList) ((qdk qdwb [.agg [Cell.str s10,c11,c12,c13,Cell.bool b14]] []).bind fun r15=>cond (qab qale r15.1) ((cS (qaa r15.1 0) 0).bind fun s16=>(cC (qaa r15.1 0) 1).bind fun c17=>(cC (qaa r15.1 0) 2).bind fun c18=>(cC (qaa r15.1 0) 3).bind fun c19=>(cB (qaa r15.1 0) 4).bind fun b20=>some ([.agg [Cell.str s16,c17,c18,c19,Cell.bool b20],.one (Cell.bool true)],r15.2)) none) (qyq k m n s4 (c5) i6 (IntKind.i64.wrap (i7+1)))) (some ([.agg [Cell.str s4,.lst true 1 [],.lst true 1 [],.lst true 1 [],Cell.bool false],.one (Cell.bool false)],[]))
def fap (k m:Nat)(c1:Cell)(s2:ByteArray):Option Res:=(lenC c1).bind fun n3=>qyq k m m s2 (c1) (n3:Int) 0
abbrev qdkd (k m:Nat):TB:=evC qrfc qnn (evF qrfc (k+1)) m (sub [1,0,1,2,3] qnn.code) none
abbrev qakd (k m:Nat):TK:=qav 0 (seqK (evC qrfc qnn (evF qrfc (k+1)) m (sub [1,1] qnn.code) none) (retK qrfc qnn))
theorem qgxc (k m:Nat):∀ (n:Nat) (s4:ByteArray) (c5:Cell) (i6 i7:Int),qbo (some [1,4,8,9,10]) (qdkd k m) (qakd k m) n ⟨fT 23 0 [(1,.av (.one (Cell.str s4))),(4,.loc 4 0),(8,.av (.one (c5))),(9,.av (.one (Cell.int i6))),(10,.av (.one (Cell.int i7)))],fX 23 0 [(4,[Cell.str (bs []),.lst true 1 [],.lst true 1 [],.lst true 1 [],Cell.bool false])],[]⟩=qyq (k+1) m n s4 c5 i6 i7:=by
 intro n
 induction n with
 | zero=>intros;rfl
 | succ n ih=>intros;simp only[qyq,← ih];kernel_rfl
theorem qwlc (k m:Nat)(c1:Cell)(s2:ByteArray):evC qrfc qnn (evF qrfc (k+1)) m qnn.code none (retK qrfc qnn) (enter qnn [.one (c1),.one (Cell.str s2)] [])=fap (k+1) m c1 s2:=by
 simp only[fap,← qgxc k m]
 kernel_rfl
theorem qwob {c1:Cell}{s2:ByteArray}{r:Res}(k:Nat)(h:fap (k+1) (k+1) c1 s2=some r):qyb [.one (c1),.one (Cell.str s2)] []=some r:=qap (k:=k+2) (Eq.trans (Eq.trans (by kernel_rfl) (qwlc k (k+1) c1 s2)) h)
def qrkd:List (Nat×Run):=[(qnr,qhq),(qpn,qgt),(qxj,qnw)]
def qnpc:Ctx:=ctx qbd qbe qrkd
def qcpb:Run:=lim qnpc qobb
theorem ok_fbt:FnOk Tryz.prog OkT qobb qcpb:=qan (l:=qrkd) qac tyTab_ok qad okT (.cons qevc (.cons qhic (.cons qyid .nil))) qobb
def qhib (k m:Nat):Nat→ByteArray→Cell→Cell→Int→Int→List Entry→Option Res | 0,_,_,_,_,_,_=>none | n+1,s18,c19,c20,i21,i22,H23=>cond (decide (i22 < i21)) ((idxA 1 (c20) i22).bind fun c24=>(deref H23 (c24)).bind fun p25=>(cS p25.1 p25.2).bind fun s26=>(app H23 2 32 (c19) [[Cell.str s26,Cell.str s18]]).bind fun p27=>qhib k m n s18 (p27.1) (c20) i21 (IntKind.i64.wrap (i22+1)) p27.2) (some ([.one (c19)],H23))
def fbt (k m:Nat)(c1:Cell)(s2 s3:ByteArray):Option Res:=(qar qgt [.one (Cell.str s3),.one (Cell.str (bs [35]))] []).bind fun r4=>cond (qab quhb r4) ((cS (qaa r4 0) 0).bind fun s5=>(cS (qaa r4 1) 0).bind fun s6=>(cB (qaa r4 2) 0).bind fun b7=>cond b7 (some ([.one (.lst true 2 [[Cell.str s5,Cell.str s6]])],[])) ((qar qnw [.one (Cell.str s3),.one (Cell.str (bs [94]))] []).bind fun r8=>cond (qab qlfd r8) ((cS (qaa r8 0) 0).bind fun s9=>(cB (qaa r8 1) 0).bind fun b10=>cond (!b10) (some ([.one (.lst true 2 [[Cell.str s2,Cell.str s9]])],[])) ((qar qhq [.one (c1),.one (Cell.str s2)] []).bind fun r11=>cond (qab qusb r11) ((cI .i64 (qaa r11 0) 0).bind fun i12=>cond (decide (i12≥0)) ((idxA 4 (c1) i12).bind fun c13=>(fldA c13 1).bind fun c14=>(deref [] (c14)).bind fun p15=>(cC p15.1 p15.2).bind fun c16=>(lenC c16).bind fun n17=>qhib k m m s9 (.lst true 2 []) (c16) (n17:Int) 0 []) (some ([.one (.lst true 2 [])],[]))) none)) none)) none
abbrev qatd (k m:Nat):TB:=evC qnpc qqf (evF qnpc (k+1)) m (sub [1,1,1,1,1,0,1,1,4,1,2,3] qqf.code) none
abbrev qcxd (k m:Nat):TK:=qav 0 (seqK (evC qnpc qqf (evF qnpc (k+1)) m (sub [1,1,1,1,1,1] qqf.code) none) (retK qnpc qqf))
theorem qexc (k m:Nat):∀ (n:Nat) (s18:ByteArray) (c19 c20:Cell) (i21 i22:Int) (H23:List Entry),qbo (some [10,12,47,48,49]) (qatd k m) (qcxd k m) n ⟨fT 61 0 [(10,.av (.one (Cell.str s18))),(12,.av (.one (c19))),(47,.av (.one (c20))),(48,.av (.one (Cell.int i21))),(49,.av (.one (Cell.int i22)))],fX 61 0 [],H23⟩=qhib (k+1) m n s18 c19 c20 i21 i22 H23:=by
 intro n
 induction n with
 | zero=>intros;rfl
 | succ n ih=>intros;simp only[qhib,← ih];kernel_rfl
theorem qhrd (k m:Nat)(c1:Cell)(s2 s3:ByteArray):evC qnpc qqf (evF qnpc (k+1)) m qqf.code none (retK qnpc qqf) (enter qqf [.one (c1),.one (Cell.str s2),.one (Cell.str s3)] [])=fbt (k+1) m c1 s2 s3:=by
 simp only[fbt,← qexc k m]
 kernel_rfl
theorem qld {c1:Cell}{s2 s3:ByteArray}{r:Res}(k:Nat)(h:fbt (k+1) (k+1) c1 s2 s3=some r):qcpb [.one (c1),.one (Cell.str s2),.one (Cell.str s3)] []=some r:=qap (k:=k+2) (Eq.trans (Eq.trans (by kernel_rfl) (qhrd k (k+1) c1 s2 s3)) h)
def qyxd:List (Nat×Run):=[(qnr,qhq)]
def qjcc:Ctx:=ctx qbd qbe qyxd
def qdab:Run:=lim qjcc qmvb
theorem ok_fbb:FnOk Tryz.prog OkT qmvb qdab:=qan (l:=qyxd) qac tyTab_ok qad okT (.cons qevc .nil) qmvb
def qhnb (k m:Nat):Nat→ByteArray→Cell→Int→Int→Option Res | 0,_,_,_,_=>none | n+1,s11,c12,i13,i14=>cond (decide (i14 < i13)) ((idxA 2 (c12) i14).bind fun c15=>(deref [] (c15)).bind fun p16=>(cS p16.1 p16.2).bind fun s17=>(cC p16.1 (p16.2+1)).bind fun c18=>cond (s17.toList==s11.toList) (some ([.one (Cell.bool true)],[])) (qhnb k m n s11 (c12) i13 (IntKind.i64.wrap (i14+1)))) (some ([.one (Cell.bool false)],[]))
def fbb (k m:Nat)(c1:Cell)(s2 s3:ByteArray):Option Res:=(qar qhq [.one (c1),.one (Cell.str s2)] []).bind fun r4=>cond (qab qusb r4) ((cI .i64 (qaa r4 0) 0).bind fun i5=>cond (decide (i5 < 0)) (some ([.one (Cell.bool false)],[])) ((idxA 4 (c1) i5).bind fun c6=>(fldA c6 3).bind fun c7=>(deref [] (c7)).bind fun p8=>(cC p8.1 p8.2).bind fun c9=>(lenC c9).bind fun n10=>qhnb k m m s3 (c9) (n10:Int) 0)) none
abbrev qced (k m:Nat):TB:=evC qjcc qob (evF qjcc (k+1)) m (sub [1,1,1,0,1,2,3] qob.code) none
abbrev qadd (k m:Nat):TK:=qav 0 (seqK (evC qjcc qob (evF qjcc (k+1)) m (sub [1,1,1,1] qob.code) none) (retK qjcc qob))
theorem qdoc (k m:Nat):∀ (n:Nat) (s11:ByteArray) (c12:Cell) (i13 i14:Int),qbo (some [2,19,20,21]) (qced k m) (qadd k m) n ⟨fT 30 0 [(2,.av (.one (Cell.str s11))),(19,.av (.one (c12))),(20,.av (.one (Cell.int i13))),(21,.av (.one (Cell.int i14)))],fX 30 0 [],[]⟩=qhnb (k+1) m n s11 c12 i13 i14:=by
 intro n
 induction n with
 | zero=>intros;rfl
 | succ n ih=>intros;simp only[qhnb,← ih];kernel_rfl
theorem qkxd (k m:Nat)(c1:Cell)(s2 s3:ByteArray):evC qjcc qob (evF qjcc (k+1)) m qob.code none (retK qjcc qob) (enter qob [.one (c1),.one (Cell.str s2),.one (Cell.str s3)] [])=fbb (k+1) m c1 s2 s3:=by
 simp only[fbb,← qdoc k m]
 kernel_rfl
theorem qzf {c1:Cell}{s2 s3:ByteArray}{r:Res}(k:Nat)(h:fbb (k+1) (k+1) c1 s2 s3=some r):qdab [.one (c1),.one (Cell.str s2),.one (Cell.str s3)] []=some r:=qap (k:=k+2) (Eq.trans (Eq.trans (by kernel_rfl) (qkxd k (k+1) c1 s2 s3)) h)
def qzvd:List (Nat×Run):=[(qxv,qnk),(qlub,qyb),(qobb,qcpb),(qmvb,qdab)]
def qpob:Ctx:=ctx qbd qbe qzvd
def qcgb:Run:=lim qpob qkgb
theorem ok_fau:FnOk Tryz.prog OkT qkgb qcgb:=qan (l:=qzvd) qac tyTab_ok qad okT (.cons qqxd (.cons ok_fap (.cons ok_fbt (.cons ok_fbb .nil)))) qkgb
def quy (k m:Nat)(b_l0:Cell→ByteArray→ByteArray→Cell→Cell→Int→Int→List Entry→Option Res):Nat→Cell→ByteArray→ByteArray→Cell→Cell→Int→Int→Cell→Int→Int→List Entry→Option Res | 0,_,_,_,_,_,_,_,_,_,_,_=>none | n+1,c27,s28,s29,c30,c31,i32,i33,c34,i35,i36,H37=>cond (decide (i36 < i35)) ((idxA 2 (c34) i36).bind fun c38=>(deref H37 (c38)).bind fun p39=>(cS p39.1 p39.2).bind fun s40=>(cS p39.1 (p39.2+1)).bind fun s41=>(qde [.str,.str] [Cell.str s40,Cell.str s41] [Cell.str s28,Cell.str s29]).bind fun b42=>cond (!b42) ((qar qdab [.one (c27),.one (Cell.str s40),.one (Cell.str s41)] H37).bind fun r43=>cond (qab qpmd r43) ((cB (qaa r43 0) 0).bind fun b44=>cond b44 ((catS s40 (bs [35])).bind fun s45=>(catS s45 s41).bind fun s46=>(app H37 1 16 (c30) [[Cell.str s46]]).bind fun p47=>quy k m b_l0 n (c27) s28 s29 (p47.1) (c31) i32 i33 (c34) i35 (IntKind.i64.wrap (i36+1)) p47.2) (quy k m b_l0 n (c27) s28 s29 (c30) (c31) i32 i33 (c34) i35 (IntKind.i64.wrap (i36+1)) H37)) none) (quy k m b_l0 n (c27) s28 s29 (c30) (c31) i32 i33 (c34) i35 (IntKind.i64.wrap (i36+1)) H37)) (b_l0 (c27) s28 s29 (c30) (c31) i32 (IntKind.i64.wrap (i33+1)) H37)
def qdgb (k m:Nat):Nat→Cell→ByteArray→ByteArray→Cell→Cell→Int→Int→List Entry→Option Res | 0,_,_,_,_,_,_,_,_=>none | n+1,c13,s14,s15,c16,c17,i18,i19,H20=>cond (decide (i19 < i18)) ((idxA 1 (c17) i19).bind fun c21=>(deref H20 (c21)).bind fun p22=>(cS p22.1 p22.2).bind fun s23=>(callL qcpb [.one (c13),.one (Cell.str s14),.one (Cell.str s23)] H20).bind fun r24=>cond (qab qmod r24.1) ((cC (qaa r24.1 0) 0).bind fun c25=>(lenC c25).bind fun n26=>quy k m (qdgb k m n) m (c13) s14 s15 (c16) (c17) i18 i19 (c25) (n26:Int) 0 r24.2) none) ((qdk qnk [.one (c16)] H20).bind fun r48=>cond (qab qlbd r48.1) ((cC (qaa r48.1 0) 0).bind fun c49=>some ([.one (c49)],r48.2)) none)
def fau (k m:Nat)(c1 c2:Cell)(s3 s4:ByteArray):Option Res:=(qdk qyb [.one (c2),.one (Cell.str s4)] []).bind fun r5=>cond (qab qtrd r5.1) ((cS (qaa r5.1 0) 0).bind fun s6=>(cC (qaa r5.1 0) 1).bind fun c7=>(cC (qaa r5.1 0) 2).bind fun c8=>(cC (qaa r5.1 0) 3).bind fun c9=>(cB (qaa r5.1 0) 4).bind fun b10=>(cB (qaa r5.1 1) 0).bind fun b11=>(lenC c7).bind fun n12=>qdgb k m m (c1) s3 s4 (.lst true 1 []) (c7) (n12:Int) 0 r5.2) none
abbrev qexb (k m:Nat):TB:=evC qpob qjd (evF qpob (k+1)) m (sub [1,1,1,0,1,2,3] qjd.code) none
abbrev qwa (k m:Nat):TK:=qav 0 (seqK (evC qpob qjd (evF qpob (k+1)) m (sub [1,1,1,1] qjd.code) none) (retK qpob qjd))
abbrev qkqd (k m:Nat):TB:=evC qpob qjd (evF qpob (k+1)) m (sub [1,1,1,0,1,2,3,1,1,0,2,1,1,2,3] qjd.code) none
abbrev qzvc (k m:Nat)(n_l0:Nat):TK:=qav 2 (qav 1 (seqK (evC qpob qjd (evF qpob (k+1)) m (sub [1,1,1,0,1,2,3,1,1,1] qjd.code) none) (qjsd (fun s=>qbo (some [0,2,3,11,23,24,25]) (qexb k m) (qwa k m) n_l0 (qebb (some [0,2,3,11,23,24,25]) s)) (qwa k m))))
theorem qgkc (k m:Nat)(b_l0:Cell→ByteArray→ByteArray→Cell→Cell→Int→Int→List Entry→Option Res)(n_l0:Nat)(h_l0:∀ (c13:Cell) (s14 s15:ByteArray) (c16 c17:Cell) (i18 i19:Int) (H20:List Entry),qbo (some [0,2,3,11,23,24,25]) (qexb k m) (qwa k m) n_l0 ⟨fT 64 0 [(0,.av (.one (c13))),(2,.av (.one (Cell.str s14))),(3,.av (.one (Cell.str s15))),(11,.av (.one (c16))),(23,.av (.one (c17))),(24,.av (.one (Cell.int i18))),(25,.av (.one (Cell.int i19)))],fX 64 0 [],H20⟩=b_l0 c13 s14 s15 c16 c17 i18 i19 H20):∀ (n:Nat) (c27:Cell) (s28 s29:ByteArray) (c30 c31:Cell) (i32 i33:Int) (c34:Cell) (i35 i36:Int) (H37:List Entry),qbo (some [0,2,3,11,23,24,25,32,33,34]) (qkqd k m) (qzvc k m n_l0) n ⟨fT 64 0 [(0,.av (.one (c27))),(2,.av (.one (Cell.str s28))),(3,.av (.one (Cell.str s29))),(11,.av (.one (c30))),(23,.av (.one (c31))),(24,.av (.one (Cell.int i32))),(25,.av (.one (Cell.int i33))),(32,.av (.one (c34))),(33,.av (.one (Cell.int i35))),(34,.av (.one (Cell.int i36)))],fX 64 0 [],H37⟩=quy (k+1) m b_l0 n c27 s28 s29 c30 c31 i32 i33 c34 i35 i36 H37:=by
 intro n
 induction n with
 | zero=>intros;rfl
 | succ n ih=>intros;simp only[quy,← h_l0,← ih];kernel_rfl
theorem qikc (k m:Nat):∀ (n:Nat) (c13:Cell) (s14 s15:ByteArray) (c16 c17:Cell) (i18 i19:Int) (H20:List Entry),qbo (some [0,2,3,11,23,24,25]) (qexb k m) (qwa k m) n ⟨fT 64 0 [(0,.av (.one (c13))),(2,.av (.one (Cell.str s14))),(3,.av (.one (Cell.str s15))),(11,.av (.one (c16))),(23,.av (.one (c17))),(24,.av (.one (Cell.int i18))),(25,.av (.one (Cell.int i19)))],fX 64 0 [],H20⟩=qdgb (k+1) m n c13 s14 s15 c16 c17 i18 i19 H20:=by
 intro n
 induction n with
 | zero=>intros;rfl
 | succ n ih=>intros;simp only[qdgb,← qgkc k m _ _ (ih)];kernel_rfl
theorem qxoc (k m:Nat)(c1 c2:Cell)(s3 s4:ByteArray):evC qpob qjd (evF qpob (k+1)) m qjd.code none (retK qpob qjd) (enter qjd [.one (c1),.one (c2),.one (Cell.str s3),.one (Cell.str s4)] [])=fau (k+1) m c1 c2 s3 s4:=by
 simp only[fau,← qikc k m]
 kernel_rfl
theorem qxkb {c1 c2:Cell}{s3 s4:ByteArray}{r:Res}(k:Nat)(h:fau (k+1) (k+1) c1 c2 s3 s4=some r):qcgb [.one (c1),.one (c2),.one (Cell.str s3),.one (Cell.str s4)] []=some r:=qap (k:=k+2) (Eq.trans (Eq.trans (by kernel_rfl) (qxoc k (k+1) c1 c2 s3 s4)) h)
def qxhd:List (Nat×Run):=[(qyj,qoi),(qkgb,qcgb)]
def qcge:Ctx:=ctx qbd qbe qxhd
def qun:Run:=lim qcge qolb
theorem ok_fbv:FnOk Tryz.prog OkT qolb qun:=qan (l:=qxhd) qac tyTab_ok qad okT (.cons qthd (.cons ok_fau .nil)) qolb
def fbv (k m:Nat)(c1 c2:Cell)(s3:ByteArray):Option Res:=(qar qoi [.one (Cell.str s3)] []).bind fun r4=>cond (qab qjid r4) ((cS (qaa r4 0) 0).bind fun s5=>(cS (qaa r4 1) 0).bind fun s6=>(cB (qaa r4 2) 0).bind fun b7=>(qdk qcgb [.one (c1),.one (c2),.one (Cell.str s5),.one (Cell.str s6)] []).bind fun r8=>cond (qab qmmd r8.1) ((cC (qaa r8.1 0) 0).bind fun c9=>some ([.one (c9)],r8.2)) none) none
theorem quvc (k m:Nat)(c1 c2:Cell)(s3:ByteArray):evC qcge qoyb (evF qcge (k+1)) m qoyb.code none (retK qcge qoyb) (enter qoyb [.one (c1),.one (c2),.one (Cell.str s3)] [])=fbv (k+1) m c1 c2 s3:=by
 kernel_rfl
theorem qblc {c1 c2:Cell}{s3:ByteArray}{r:Res}(k:Nat)(h:fbv (k+1) (k+1) c1 c2 s3=some r):qun [.one (c1),.one (c2),.one (Cell.str s3)] []=some r:=qap (k:=k+2) (Eq.trans (Eq.trans (by kernel_rfl) (quvc k (k+1) c1 c2 s3)) h)
def qnyd:List (Nat×Run):=[(qjyb,qym),(qkzb,qwo),(qmp,qts),(qolb,qun),(qxv,qnk)]
def qqv:Ctx:=ctx qbd qbe qnyd
def qmn:Run:=lim qqv qnvb
theorem ok_fan:FnOk Tryz.prog OkT qnvb qmn:=qan (l:=qnyd) qac tyTab_ok qad okT (.cons ok_fah (.cons ok_faq (.cons ok_fao (.cons ok_fbv (.cons qqxd .nil))))) qnvb
def qfrb (k m:Nat):Nat→Cell→Cell→Int→Int→Cell→Cell→List Entry→Option Res | 0,_,_,_,_,_,_,_=>none | n+1,c52,c53,i54,i55,c56,c57,H58=>cond (decide (i55 < i54)) ((idxA 1 (c53) i55).bind fun c59=>(deref H58 (c59)).bind fun p60=>(cS p60.1 p60.2).bind fun s61=>(deref H58 (.ptr 0 1 0 0 0)).bind fun p62=>(cC p62.1 p62.2).bind fun c63=>(qdk qun [.one (c63),.one (c52),.one (Cell.str s61)] H58).bind fun r64=>cond (qab qwsc r64.1) ((cC (qaa r64.1 0) 0).bind fun c65=>(qbp (r64.2++[Entry.mk 1 [[c65]] 0 false]) 1 (.vs r64.2.length 1 0 1 0)).bind fun r66=>(app (r64.2++[Entry.mk 1 [[c65]] 0 false]) 1 24 (c57) r66).bind fun p67=>qfrb k m n (c52) (c53) i54 (IntKind.i64.wrap (i55+1)) (c56) (p67.1) p67.2) none) (some ([.agg [c56,c57],.one (Cell.bool true)],H58))
def qgzb (k m:Nat)(b_l1:Cell→Int→List Entry→Option Res):Nat→Cell→Int→Cell→Int→Int→List Entry→Option Res | 0,_,_,_,_,_,_=>none | n+1,c34,i35,c36,i37,i38,H39=>cond (decide (i38 < i37)) ((idxA 1 (c36) i38).bind fun c40=>(deref H39 (c40)).bind fun p41=>(cS p41.1 p41.2).bind fun s42=>(qts [.one (Cell.str s42),.one (.ptr 1 1 0 0 0),.one (.ptr 0 1 0 0 0)] H39).bind fun r43=>cond (qab qerd r43.1) (qgzb k m b_l1 n (c34) i35 (c36) i37 (IntKind.i64.wrap (i38+1)) r43.2) none) (b_l1 (c34) (IntKind.i64.wrap (i35+1)) H39)
def qtd (k m:Nat):Nat→Cell→Int→List Entry→Option Res | 0,_,_,_=>none | n+1,c18,i19,H20=>(deref H20 (.ptr 1 1 0 0 0)).bind fun p21=>(cC p21.1 p21.2).bind fun c22=>(lenC c22).bind fun n23=>cond (decide (i19 < (n23:Int))) ((deref H20 (.ptr 0 1 0 0 0)).bind fun p24=>(cC p24.1 p24.2).bind fun c25=>(deref H20 (.ptr 1 1 0 0 0)).bind fun p26=>(cC p26.1 p26.2).bind fun c27=>(idxA 1 (c27) i19).bind fun c28=>(deref H20 (c28)).bind fun p29=>(cS p29.1 p29.2).bind fun s30=>(qdk qun [.one (c25),.one (c18),.one (Cell.str s30)] H20).bind fun r31=>cond (qab qwsc r31.1) ((cC (qaa r31.1 0) 0).bind fun c32=>(lenC c32).bind fun n33=>qgzb k m (qtd k m n) m (c18) i19 (c32) (n33:Int) 0 r31.2) none) ((deref H20 (.ptr 1 1 0 0 0)).bind fun p44=>(cC p44.1 p44.2).bind fun c45=>(lenC c45).bind fun n46=>cond (decide ((n46:Int) > 16)) (some ([.agg [.lst true 1 [],.lst true 1 []],.one (Cell.bool false)],H20)) ((deref H20 (.ptr 1 1 0 0 0)).bind fun p47=>(cC p47.1 p47.2).bind fun c48=>(qdk qnk [.one (c48)] H20).bind fun r49=>cond (qab qlbd r49.1) ((cC (qaa r49.1 0) 0).bind fun c50=>(lenC c50).bind fun n51=>qfrb k m m (c18) (c50) (n51:Int) 0 (c50) (.lst true 1 []) r49.2) none))
def qhsb (k m:Nat):Nat→Cell→Cell→Int→Int→List Entry→Option Res | 0,_,_,_,_,_=>none | n+1,c9,c10,i11,i12,H13=>cond (decide (i12 < i11)) ((idxA 1 (c10) i12).bind fun c14=>(deref H13 (c14)).bind fun p15=>(cS p15.1 p15.2).bind fun s16=>(qts [.one (Cell.str s16),.one (.ptr 1 1 0 0 0),.one (.ptr 0 1 0 0 0)] H13).bind fun r17=>cond (qab qerd r17.1) (qhsb k m n (c9) (c10) i11 (IntKind.i64.wrap (i12+1)) r17.2) none) (qtd k m m (c9) 0 H13)
def fan (k m:Nat)(c1 c2 c3:Cell):Option Res:=(qar qym [.one (c1)] [Entry.mk 1 [[c1]] 0 false]).bind fun r4=>cond (qab qxjd r4) ((cB (qaa r4 0) 0).bind fun b5=>cond (!b5) (some ([.agg [.lst true 1 [],.lst true 1 []],.one (Cell.bool false)],[Entry.mk 1 [[c1]] 0 false])) ((qar qwo [.one (c2)] [Entry.mk 1 [[c1]] 0 false]).bind fun r6=>cond (qab qpxd r6) ((cB (qaa r6 0) 0).bind fun b7=>cond (!b7) (some ([.agg [.lst true 1 [],.lst true 1 []],.one (Cell.bool false)],[Entry.mk 1 [[c1]] 0 false])) ((lenC c3).bind fun n8=>qhsb k m m (c2) (c3) (n8:Int) 0 [Entry.mk 1 [[c1]] 0 false,Entry.mk 1 [[.lst true 1 []]] 0 false])) none)) none
abbrev qjgd (k m:Nat):TB:=evC qqv qei (evF qqv (k+1)) m (sub [1,1,1,1,0,1,2,3] qei.code) none
abbrev qukc (k m:Nat):TK:=qav 0 (seqK (evC qqv qei (evF qqv (k+1)) m (sub [1,1,1,1,1] qei.code) none) (retK qqv qei))
abbrev qgeb (k m:Nat):TB:=evC qqv qei (evF qqv (k+1)) m (sub [1,1,1,1,1,0,1,2,3] qei.code) none
abbrev qwf (k m:Nat):TK:=qav 2 (seqK (evC qqv qei (evF qqv (k+1)) m (sub [1,1,1,1,1,1] qei.code) none) (retK qqv qei))
abbrev qufc (k m:Nat):TB:=evC qqv qei (evF qqv (k+1)) m (sub [1,1,1,1,1,0,1,2,3,1,0,2,1,2,3] qei.code) none
abbrev qvpc (k m:Nat)(n_l1:Nat):TK:=qav 4 (qav 3 (seqK (evC qqv qei (evF qqv (k+1)) m (sub [1,1,1,1,1,0,1,2,3,1,1] qei.code) none) (qjsd (fun s=>qbo (some [1,3,6,8,9,12]) (qgeb k m) (qwf k m) n_l1 (qebb (some [1,3,6,8,9,12]) s)) (qwf k m))))
abbrev qxmc (k m:Nat):TB:=evC qqv qei (evF qqv (k+1)) m (sub [1,1,1,1,1,1,1,1,0,1,2,3] qei.code) none
abbrev qxfc (k m:Nat):TK:=qav 6 (seqK (evC qqv qei (evF qqv (k+1)) m (sub [1,1,1,1,1,1,1,1,1] qei.code) none) (retK qqv qei))
theorem qfqc (k m:Nat):∀ (n:Nat) (c52 c53:Cell) (i54 i55:Int) (c56 c57:Cell) (H58:List Entry),qbo (some [1,3,6,15,68,69,70]) (qxmc k m) (qxfc k m) n ⟨fT 85 0 [(1,.av (.one (c52))),(3,.av (.one (.ptr 0 1 0 0 0))),(6,.loc 6 0),(15,.loc 15 0),(68,.av (.one (c53))),(69,.av (.one (Cell.int i54))),(70,.av (.one (Cell.int i55)))],fX 85 0 [(6,[.lst true 1 [],.lst true 1 []]),(15,[c56,c57])],H58⟩=qfrb (k+1) m n c52 c53 i54 i55 c56 c57 H58:=by
 intro n
 induction n with
 | zero=>intros;rfl
 | succ n ih=>intros;simp only[qfrb,← ih];kernel_rfl
theorem qgyc (k m:Nat)(b_l1:Cell→Int→List Entry→Option Res)(n_l1:Nat)(h_l1:∀ (c18:Cell) (i19:Int) (H20:List Entry),qbo (some [1,3,6,8,9,12]) (qgeb k m) (qwf k m) n_l1 ⟨fT 85 0 [(1,.av (.one (c18))),(3,.av (.one (.ptr 0 1 0 0 0))),(6,.loc 6 0),(8,.av (.one (.ptr 1 1 0 0 0))),(9,.av (.one (.fn qmp [] [.ptr 1 1 0 0 0,.ptr 0 1 0 0 0]))),(12,.av (.one (Cell.int i19)))],fX 85 0 [(6,[.lst true 1 [],.lst true 1 []])],H20⟩=b_l1 c18 i19 H20):∀ (n:Nat) (c34:Cell) (i35:Int) (c36:Cell) (i37 i38:Int) (H39:List Entry),qbo (some [1,3,6,8,9,12,50,51,52]) (qufc k m) (qvpc k m n_l1) n ⟨fT 85 0 [(1,.av (.one (c34))),(3,.av (.one (.ptr 0 1 0 0 0))),(6,.loc 6 0),(8,.av (.one (.ptr 1 1 0 0 0))),(9,.av (.one (.fn qmp [] [.ptr 1 1 0 0 0,.ptr 0 1 0 0 0]))),(12,.av (.one (Cell.int i35))),(50,.av (.one (c36))),(51,.av (.one (Cell.int i37))),(52,.av (.one (Cell.int i38)))],fX 85 0 [(6,[.lst true 1 [],.lst true 1 []])],H39⟩=qgzb (k+1) m b_l1 n c34 i35 c36 i37 i38 H39:=by
 intro n
 induction n with
 | zero=>intros;rfl
 | succ n ih=>intros;simp only[qgzb,← h_l1,← ih];kernel_rfl
theorem qcxc (k m:Nat):∀ (n:Nat) (c18:Cell) (i19:Int) (H20:List Entry),qbo (some [1,3,6,8,9,12]) (qgeb k m) (qwf k m) n ⟨fT 85 0 [(1,.av (.one (c18))),(3,.av (.one (.ptr 0 1 0 0 0))),(6,.loc 6 0),(8,.av (.one (.ptr 1 1 0 0 0))),(9,.av (.one (.fn qmp [] [.ptr 1 1 0 0 0,.ptr 0 1 0 0 0]))),(12,.av (.one (Cell.int i19)))],fX 85 0 [(6,[.lst true 1 [],.lst true 1 []])],H20⟩=qtd (k+1) m n c18 i19 H20:=by
 intro n
 induction n with
 | zero=>intros;rfl
 | succ n ih=>intros;simp only[qtd,← qgyc k m _ _ (ih),← qfqc k m];kernel_rfl
theorem qgnc (k m:Nat):∀ (n:Nat) (c9 c10:Cell) (i11 i12:Int) (H13:List Entry),qbo (some [1,3,6,8,9,28,29,30]) (qjgd k m) (qukc k m) n ⟨fT 85 0 [(1,.av (.one (c9))),(3,.av (.one (.ptr 0 1 0 0 0))),(6,.loc 6 0),(8,.av (.one (.ptr 1 1 0 0 0))),(9,.av (.one (.fn qmp [] [.ptr 1 1 0 0 0,.ptr 0 1 0 0 0]))),(28,.av (.one (c10))),(29,.av (.one (Cell.int i11))),(30,.av (.one (Cell.int i12)))],fX 85 0 [(6,[.lst true 1 [],.lst true 1 []])],H13⟩=qhsb (k+1) m n c9 c10 i11 i12 H13:=by
 intro n
 induction n with
 | zero=>intros;rfl
 | succ n ih=>intros;simp only[qhsb,← qcxc k m,← ih];kernel_rfl
theorem qzic (k m:Nat)(c1 c2 c3:Cell):evC qqv qei (evF qqv (k+1)) m qei.code none (retK qqv qei) (enter qei [.one (c1),.one (c2),.one (c3)] [])=fan (k+1) m c1 c2 c3:=by
 simp only[fan,← qgnc k m]
 kernel_rfl
theorem qsn {c1 c2 c3:Cell}{r:Res}(k:Nat)(h:fan (k+1) (k+1) c1 c2 c3=some r):qmn [.one (c1),.one (c2),.one (c3)] []=some r:=qap (k:=k+2) (Eq.trans (Eq.trans (by kernel_rfl) (qzic k (k+1) c1 c2 c3)) h)
def quld:List (Nat×Run):=[]
def qeic:Ctx:=ctx qbd qbe quld
def qdu:Run:=lim qeic qla
theorem qrgb:FnOk Tryz.prog OkT qla qdu:=qan (l:=quld) qac tyTab_ok qad okT .nil qla
def qggb (k m:Nat):Nat→Cell→Cell→Int→Option Res | 0,_,_,_=>none | n+1,c5,c6,i7=>(lenC c5).bind fun n8=>cond (decide (i7 < (n8:Int))) ((idxA 1 (c5) i7).bind fun c9=>(deref [] (c9)).bind fun p10=>(cS p10.1 p10.2).bind fun s11=>(idxA 1 (c6) i7).bind fun c12=>(deref [] (c12)).bind fun p13=>(cS p13.1 p13.2).bind fun s14=>cond (!(s11.toList==s14.toList)) (some ([.one (Cell.bool false)],[])) (qggb k m n (c5) (c6) (IntKind.i64.wrap (i7+1)))) (some ([.one (Cell.bool true)],[]))
def fcq (k m:Nat)(c1 c2:Cell):Option Res:=(lenC c1).bind fun n3=>(lenC c2).bind fun n4=>cond ((n3:Int) != (n4:Int)) (some ([.one (Cell.bool false)],[])) (qggb k m m (c1) (c2) 0)
abbrev qwbc (k m:Nat):TB:=evC qeic qnv (evF qeic (k+1)) m (sub [1,1,0,1,2,3] qnv.code) none
abbrev qdid (k m:Nat):TK:=qav 0 (seqK (evC qeic qnv (evF qeic (k+1)) m (sub [1,1,1] qnv.code) none) (retK qeic qnv))
theorem qqrc (k m:Nat):∀ (n:Nat) (c5 c6:Cell) (i7:Int),qbo (some [0,1,5]) (qwbc k m) (qdid k m) n ⟨fT 26 0 [(0,.av (.one (c5))),(1,.av (.one (c6))),(5,.av (.one (Cell.int i7)))],fX 26 0 [],[]⟩=qggb (k+1) m n c5 c6 i7:=by
 intro n
 induction n with
 | zero=>intros;rfl
 | succ n ih=>intros;simp only[qggb,← ih];kernel_rfl
theorem qkjd (k m:Nat)(c1 c2:Cell):evC qeic qnv (evF qeic (k+1)) m qnv.code none (retK qeic qnv) (enter qnv [.one (c1),.one (c2)] [])=fcq (k+1) m c1 c2:=by
 simp only[fcq,← qqrc k m]
 kernel_rfl
theorem qbfc {c1 c2:Cell}{r:Res}(k:Nat)(h:fcq (k+1) (k+1) c1 c2=some r):qdu [.one (c1),.one (c2)] []=some r:=qap (k:=k+2) (Eq.trans (Eq.trans (by kernel_rfl) (qkjd k (k+1) c1 c2)) h)
def qmgd:List (Nat×Run):=[(qla,qdu)]
def qejc:Ctx:=ctx qbd qbe qmgd
def qxb:Run:=lim qejc qoib
theorem ok_fcr:FnOk Tryz.prog OkT qoib qxb:=qan (l:=qmgd) qac tyTab_ok qad okT (.cons qrgb .nil) qoib
def qfxb (k m:Nat):Nat→Cell→Cell→Int→Option Res | 0,_,_,_=>none | n+1,c5,c6,i7=>(lenC c5).bind fun n8=>cond (decide (i7 < (n8:Int))) ((idxA 1 (c5) i7).bind fun c9=>(deref [] (c9)).bind fun p10=>(cC p10.1 p10.2).bind fun c11=>(idxA 1 (c6) i7).bind fun c12=>(deref [] (c12)).bind fun p13=>(cC p13.1 p13.2).bind fun c14=>(qar qdu [.one (c11),.one (c14)] []).bind fun r15=>cond (qab qvu r15) ((cB (qaa r15 0) 0).bind fun b16=>cond (!b16) (some ([.one (Cell.bool false)],[])) (qfxb k m n (c5) (c6) (IntKind.i64.wrap (i7+1)))) none) (some ([.one (Cell.bool true)],[]))
def fcr (k m:Nat)(c1 c2:Cell):Option Res:=(lenC c1).bind fun n3=>(lenC c2).bind fun n4=>cond ((n3:Int) != (n4:Int)) (some ([.one (Cell.bool false)],[])) (qfxb k m m (c1) (c2) 0)
abbrev qyec (k m:Nat):TB:=evC qejc qoz (evF qejc (k+1)) m (sub [1,1,0,1,2,3] qoz.code) none
abbrev qwoc (k m:Nat):TK:=qav 0 (seqK (evC qejc qoz (evF qejc (k+1)) m (sub [1,1,1] qoz.code) none) (retK qejc qoz))
theorem qnzc (k m:Nat):∀ (n:Nat) (c5 c6:Cell) (i7:Int),qbo (some [0,1,5]) (qyec k m) (qwoc k m) n ⟨fT 27 0 [(0,.av (.one (c5))),(1,.av (.one (c6))),(5,.av (.one (Cell.int i7)))],fX 27 0 [],[]⟩=qfxb (k+1) m n c5 c6 i7:=by
 intro n
 induction n with
 | zero=>intros;rfl
 | succ n ih=>intros;simp only[qfxb,← ih];kernel_rfl
theorem qgsd (k m:Nat)(c1 c2:Cell):evC qejc qoz (evF qejc (k+1)) m qoz.code none (retK qejc qoz) (enter qoz [.one (c1),.one (c2)] [])=fcr (k+1) m c1 c2:=by
 simp only[fcr,← qnzc k m]
 kernel_rfl
theorem qcec {c1 c2:Cell}{r:Res}(k:Nat)(h:fcr (k+1) (k+1) c1 c2=some r):qxb [.one (c1),.one (c2)] []=some r:=qap (k:=k+2) (Eq.trans (Eq.trans (by kernel_rfl) (qgsd k (k+1) c1 c2)) h)
def qomd:List (Nat×Run):=[(qla,qdu),(qoib,qxb)]
def qbge:Ctx:=ctx qbd qbe qomd
def qja:Run:=lim qbge qllb
theorem ok_fcn:FnOk Tryz.prog OkT qllb qja:=qan (l:=qomd) qac tyTab_ok qad okT (.cons qrgb (.cons ok_fcr .nil)) qllb
def fcn (k m:Nat)(c1 c2 c3 c4:Cell):Option Res:=(qar qdu [.one (c1),.one (c3)] []).bind fun r5=>cond (qab qvu r5) ((cB (qaa r5 0) 0).bind fun b6=>cond (!b6) (some ([.one (Cell.bool false)],[])) ((qar qxb [.one (c2),.one (c4)] []).bind fun r7=>cond (qab qmid r7) ((cB (qaa r7 0) 0).bind fun b8=>cond (!b8) (some ([.one (Cell.bool false)],[])) (some ([.one (Cell.bool true)],[]))) none)) none
theorem qyqc (k m:Nat)(c1 c2 c3 c4:Cell):evC qbge qreb (evF qbge (k+1)) m qreb.code none (retK qbge qreb) (enter qreb [.agg [c1,c2],.agg [c3,c4]] [])=fcn (k+1) m c1 c2 c3 c4:=by
 kernel_rfl
theorem qtxb {c1 c2 c3 c4:Cell}{r:Res}(k:Nat)(h:fcn (k+1) (k+1) c1 c2 c3 c4=some r):qja [.agg [c1,c2],.agg [c3,c4]] []=some r:=qap (k:=k+2) (Eq.trans (Eq.trans (by kernel_rfl) (qyqc k (k+1) c1 c2 c3 c4)) h)
def qzjd:List (Nat×Run):=[]
def qcye:Ctx:=ctx qbd qbe qzjd
def qchb:Run:=lim qcye qjtb
theorem ok_fcj:FnOk Tryz.prog OkT qjtb qchb:=qan (l:=qzjd) qac tyTab_ok qad okT .nil qjtb
def fcj (k m:Nat)(s1 s2 s3 s4:ByteArray):Option Res:=cond (!(s1.toList==s3.toList)) (some ([.one (Cell.bool false)],[])) (cond (!(s2.toList==s4.toList)) (some ([.one (Cell.bool false)],[])) (some ([.one (Cell.bool true)],[])))
theorem qctd (k m:Nat)(s1 s2 s3 s4:ByteArray):evC qcye qrrb (evF qcye (k+1)) m qrrb.code none (retK qcye qrrb) (enter qrrb [.agg [Cell.str s1,Cell.str s2],.agg [Cell.str s3,Cell.str s4]] [])=fcj (k+1) m s1 s2 s3 s4:=by
 kernel_rfl
theorem qtrb {s1 s2 s3 s4:ByteArray}{r:Res}(k:Nat)(h:fcj (k+1) (k+1) s1 s2 s3 s4=some r):qchb [.agg [Cell.str s1,Cell.str s2],.agg [Cell.str s3,Cell.str s4]] []=some r:=qap (k:=k+2) (Eq.trans (Eq.trans (by kernel_rfl) (qctd k (k+1) s1 s2 s3 s4)) h)
def qygd:List (Nat×Run):=[(qjtb,qchb)]
def qnsc:Ctx:=ctx qbd qbe qygd
def qahb:Run:=lim qnsc qihb
theorem ok_fck:FnOk Tryz.prog OkT qihb qahb:=qan (l:=qygd) qac tyTab_ok qad okT (.cons ok_fcj .nil) qihb
def qgfb (k m:Nat):Nat→Cell→Cell→Int→Option Res | 0,_,_,_=>none | n+1,c5,c6,i7=>(lenC c5).bind fun n8=>cond (decide (i7 < (n8:Int))) ((idxA 2 (c5) i7).bind fun c9=>(deref [] (c9)).bind fun p10=>(cS p10.1 p10.2).bind fun s11=>(cS p10.1 (p10.2+1)).bind fun s12=>(idxA 2 (c6) i7).bind fun c13=>(deref [] (c13)).bind fun p14=>(cS p14.1 p14.2).bind fun s15=>(cS p14.1 (p14.2+1)).bind fun s16=>(qar qchb [.agg [Cell.str s11,Cell.str s12],.agg [Cell.str s15,Cell.str s16]] []).bind fun r17=>cond (qab qtid r17) ((cB (qaa r17 0) 0).bind fun b18=>cond (!b18) (some ([.one (Cell.bool false)],[])) (qgfb k m n (c5) (c6) (IntKind.i64.wrap (i7+1)))) none) (some ([.one (Cell.bool true)],[]))
def fck (k m:Nat)(c1 c2:Cell):Option Res:=(lenC c1).bind fun n3=>(lenC c2).bind fun n4=>cond ((n3:Int) != (n4:Int)) (some ([.one (Cell.bool false)],[])) (qgfb k m m (c1) (c2) 0)
abbrev qacd (k m:Nat):TB:=evC qnsc qsj (evF qnsc (k+1)) m (sub [1,1,0,1,2,3] qsj.code) none
abbrev qjdd (k m:Nat):TK:=qav 0 (seqK (evC qnsc qsj (evF qnsc (k+1)) m (sub [1,1,1] qsj.code) none) (retK qnsc qsj))
theorem qptc (k m:Nat):∀ (n:Nat) (c5 c6:Cell) (i7:Int),qbo (some [0,1,5]) (qacd k m) (qjdd k m) n ⟨fT 27 0 [(0,.av (.one (c5))),(1,.av (.one (c6))),(5,.av (.one (Cell.int i7)))],fX 27 0 [],[]⟩=qgfb (k+1) m n c5 c6 i7:=by
 intro n
 induction n with
 | zero=>intros;rfl
 | succ n ih=>intros;simp only[qgfb,← ih];kernel_rfl
theorem qfrd (k m:Nat)(c1 c2:Cell):evC qnsc qsj (evF qnsc (k+1)) m qsj.code none (retK qnsc qsj) (enter qsj [.one (c1),.one (c2)] [])=fck (k+1) m c1 c2:=by
 simp only[fck,← qptc k m]
 kernel_rfl
theorem qvgb {c1 c2:Cell}{r:Res}(k:Nat)(h:fck (k+1) (k+1) c1 c2=some r):qahb [.one (c1),.one (c2)] []=some r:=qap (k:=k+2) (Eq.trans (Eq.trans (by kernel_rfl) (qfrd k (k+1) c1 c2)) h)
end
end Go.Ev
