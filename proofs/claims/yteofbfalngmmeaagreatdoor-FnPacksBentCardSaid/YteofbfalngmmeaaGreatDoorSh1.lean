/- What the evaluator says of the functions, each as a Lean function over cells. Printed by a program of this claim. Conditions: none. -/
import Derived.Test.YteofbfalngmmeaaGreatDoorSh0
import Derived.KernelRfl
namespace Go.Ev
open Go Go.Proofs
noncomputable section
set_option maxRecDepth 100000
set_option linter.unusedVariables false
set_option linter.unusedSimpArgs false
def qouc:List (Nat×Run):=[(qso,qjb),(qbvb,qsz),(qol,qfi),(qff,qce),(qzj,qvd)]
def qvlb:Ctx:=ctx qbg qbh qouc
def qhp:Run:=lim qvlb qoh
theorem qiuc:FnOk Tryz.prog OkT qoh qhp:=qan (l:=qouc) qad tyTab_ok qae okT (.cons qmbc (.cons ok_fdr (.cons qfxc (.cons qvc (.cons ok_fbx .nil))))) qoh
def qxn (k m:Nat):Nat→Cell→Int→List Entry→Option Res | 0,_,_,_=>none | n+1,c22,i23,H24=>cond (decide (i23 < 5)) ((qaw qvd [.one (Cell.int i23)] H24).bind fun r25=>cond (qab qltc r25) ((cS (qaa r25 0) 0).bind fun s26=>(catS (bs [122]) s26).bind fun s27=>(qal (H24++[Entry.mk 4 [[Cell.str s27,.lst true 1 [],.lst true 2 [],.lst true 2 []]] 0 false]) 4 (.vs H24.length 4 0 1 0)).bind fun r28=>(app (H24++[Entry.mk 4 [[Cell.str s27,.lst true 1 [],.lst true 2 [],.lst true 2 []]] 0 false]) 4 88 (c22) r28).bind fun p29=>qxn k m n (p29.1) (IntKind.i64.wrap (i23+1)) p29.2) none) (some ([.one (c22)],H24))
def fds (k m:Nat)(c1:Cell)(H:List Entry):Option Res:=(qfi [.one (c1),.one (Cell.int 3)] H).bind fun r2=>cond (qab qfob r2.1) ((cB (qaa r2.1 0) 0).bind fun b3=>(qsz [.one (c1),.one (Cell.bool b3)] r2.2).bind fun r4=>cond (qab qqgc r4.1) ((cC (qaa r4.1 0) 0).bind fun c5=>(qce [.one (c1),.one (Cell.int 8)] r4.2).bind fun r6=>cond (qab qnq r6.1) ((cI .i64 (qaa r6.1 0) 0).bind fun i7=>cond (i7==0) ((qjb [.one (c1)] r6.2).bind fun r8=>cond (qab qrfb r8.1) ((cS (qaa r8.1 0) 0).bind fun s9=>(cC (qaa r8.1 0) 1).bind fun c10=>(cC (qaa r8.1 0) 2).bind fun c11=>(cC (qaa r8.1 0) 3).bind fun c12=>(qal (r8.2++[Entry.mk 4 [[Cell.str s9,c10,c11,c12]] 0 false]) 4 (.vs r8.2.length 4 0 1 0)).bind fun r13=>(app (r8.2++[Entry.mk 4 [[Cell.str s9,c10,c11,c12]] 0 false]) 4 88 (c5) r13).bind fun p14=>some ([.one (p14.1)],p14.2)) none) (cond (i7==1) ((qjb [.one (c1)] r6.2).bind fun r15=>cond (qab qrfb r15.1) ((cS (qaa r15.1 0) 0).bind fun s16=>(cC (qaa r15.1 0) 1).bind fun c17=>(cC (qaa r15.1 0) 2).bind fun c18=>(cC (qaa r15.1 0) 3).bind fun c19=>(idxA 4 (c5) 0).bind fun c20=>(qbt r15.2 (c20) [Cell.str s16,c17,c18,c19]).bind fun h21=>some ([.one (c5)],h21)) none) (cond (i7==2) (qxn k m m (c5) 0 r6.2) (some ([.one (c5)],r6.2))))) none) none) none
abbrev qboc (k m:Nat):TB:=evC qvlb qkb (evF qvlb (k+1)) m (sub [1,1,0,1,2,1,5,1,5,1,4,1,2,3] qkb.code) none
abbrev qevc (k m:Nat):TK:=qav 1 (qav 0 (seqK (evC qvlb qkb (evF qvlb (k+1)) m (sub [1,1,1] qkb.code) none) (retK qvlb qkb)))
theorem qrob (k m:Nat):∀ (n:Nat) (c22:Cell) (i23:Int) (H24:List Entry),qbo (some [3,4]) (qboc k m) (qevc k m) n ⟨fT 38 0 [(3,.av (.one (c22))),(4,.av (.one (Cell.int i23)))],fX 38 0 [],H24⟩=qxn (k+1) m n c22 i23 H24:=by
 intro n
 induction n with
 | zero=>intros;rfl
 | succ n ih=>intros;simp only[qxn,← ih];kernel_rfl
theorem qgdc (k m:Nat)(c1:Cell)(H:List Entry):evC qvlb qkb (evF qvlb (k+1)) m qkb.code none (retK qvlb qkb) (enter qkb [.one (c1)] H)=fds (k+1) m c1 H:=by
 simp only[fds,← qrob k m]
 kernel_rfl
theorem qhh {c1:Cell}{H:List Entry}{r:Res}(k:Nat)(h:fds (k+1) (k+1) c1 H=some r):qhp [.one (c1)] H=some r:=qap (k:=k+2) (Eq.trans (Eq.trans (by kernel_rfl) (qgdc k (k+1) c1 H)) h)
def qlkc:List (Nat×Run):=[(qmq,qfn),(qoh,qhp)]
def qvsc:Ctx:=ctx qbg qbh qlkc
def qts:Run:=lim qvsc qbub
theorem ok_fbt:FnOk Tryz.prog OkT qbub qts:=qan (l:=qlkc) qad tyTab_ok qae okT (.cons qxib (.cons qiuc .nil)) qbub
def fbt (k m:Nat)(c1:Cell):Option Res:=(qfn [.one (c1)] []).bind fun r2=>cond (qab qjlb r2.1) ((cC (qaa r2.1 0) 0).bind fun c3=>(qhp [.one (c3)] r2.2).bind fun r4=>cond (qab qtzb r4.1) ((cC (qaa r4.1 0) 0).bind fun c5=>some ([.one (c5)],r4.2)) none) none
theorem qzgb (k m:Nat)(c1:Cell):evC qvsc qfxb (evF qvsc (k+1)) m qfxb.code none (retK qvsc qfxb) (enter qfxb [.one (c1)] [])=fbt (k+1) m c1:=by
 kernel_rfl
theorem qhxb {c1:Cell}{r:Res}(k:Nat)(h:fbt (k+1) (k+1) c1=some r):qts [.one (c1)] []=some r:=qap (k:=k+2) (Eq.trans (Eq.trans (by kernel_rfl) (qzgb k (k+1) c1)) h)
def qrlc:List (Nat×Run):=[(qmq,qfn),(qoh,qhp),(qhw,qbw)]
def quyc:Ctx:=ctx qbg qbh qrlc
def qsf:Run:=lim quyc qzr
theorem ok_fbr:FnOk Tryz.prog OkT qzr qsf:=qan (l:=qrlc) qad tyTab_ok qae okT (.cons qxib (.cons qiuc (.cons qebb .nil))) qzr
def fbr (k m:Nat)(c1:Cell):Option Res:=(qfn [.one (c1)] []).bind fun r2=>cond (qab qjlb r2.1) ((cC (qaa r2.1 0) 0).bind fun c3=>(qhp [.one (c3)] r2.2).bind fun r4=>cond (qab qtzb r4.1) ((cC (qaa r4.1 0) 0).bind fun c5=>(qbw [.one (c3),.one (.lst true 1 [[Cell.str (bs [97])],[Cell.str (bs [98])],[Cell.str (bs [99])],[Cell.str (bs [113])]])] r4.2).bind fun r6=>cond (qab qhi r6.1) ((cS (qaa r6.1 0) 0).bind fun s7=>some ([.one (c5),.one (Cell.str s7)],r6.2)) none) none) none
theorem qamc (k m:Nat)(c1:Cell):evC quyc qfzb (evF quyc (k+1)) m qfzb.code none (retK quyc qfzb) (enter qfzb [.one (c1)] [])=fbr (k+1) m c1:=by
 kernel_rfl
theorem qisb {c1:Cell}{r:Res}(k:Nat)(h:fbr (k+1) (k+1) c1=some r):qsf [.one (c1)] []=some r:=qap (k:=k+2) (Eq.trans (Eq.trans (by kernel_rfl) (qamc k (k+1) c1)) h)
def qruc:List (Nat×Run):=[(qmq,qfn),(qso,qjb)]
def qwoc:Ctx:=ctx qbg qbh qruc
def qtx:Run:=lim qwoc qzf
theorem ok_fbs:FnOk Tryz.prog OkT qzf qtx:=qan (l:=qruc) qad tyTab_ok qae okT (.cons qxib (.cons qmbc .nil)) qzf
def fbs (k m:Nat)(c1:Cell):Option Res:=(qfn [.one (c1)] []).bind fun r2=>cond (qab qjlb r2.1) ((cC (qaa r2.1 0) 0).bind fun c3=>(qjb [.one (c3)] r2.2).bind fun r4=>cond (qab qrfb r4.1) ((cS (qaa r4.1 0) 0).bind fun s5=>(cC (qaa r4.1 0) 1).bind fun c6=>(cC (qaa r4.1 0) 2).bind fun c7=>(cC (qaa r4.1 0) 3).bind fun c8=>some ([.agg [Cell.str s5,c6,c7,c8]],r4.2)) none) none
theorem qgtc (k m:Nat)(c1:Cell):evC qwoc qedb (evF qwoc (k+1)) m qedb.code none (retK qwoc qedb) (enter qedb [.one (c1)] [])=fbs (k+1) m c1:=by
 kernel_rfl
theorem qmsb {c1:Cell}{r:Res}(k:Nat)(h:fbs (k+1) (k+1) c1=some r):qtx [.one (c1)] []=some r:=qap (k:=k+2) (Eq.trans (Eq.trans (by kernel_rfl) (qgtc k (k+1) c1)) h)
def qufc:List (Nat×Run):=[(qmq,qfn),(qoh,qhp)]
def quzc:Ctx:=ctx qbg qbh qufc
def qrn:Run:=lim quzc qbcb
theorem ok_fbu:FnOk Tryz.prog OkT qbcb qrn:=qan (l:=qufc) qad tyTab_ok qae okT (.cons qxib (.cons qiuc .nil)) qbcb
def fbu (k m:Nat)(c1:Cell):Option Res:=(qfn [.one (c1)] []).bind fun r2=>cond (qab qjlb r2.1) ((cC (qaa r2.1 0) 0).bind fun c3=>(qhp [.one (c3)] r2.2).bind fun r4=>cond (qab qtzb r4.1) ((cC (qaa r4.1 0) 0).bind fun c5=>some ([.one (c5)],r4.2)) none) none
theorem qjdc (k m:Nat)(c1:Cell):evC quzc qfeb (evF quzc (k+1)) m qfeb.code none (retK quzc qfeb) (enter qfeb [.one (c1)] [])=fbu (k+1) m c1:=by
 kernel_rfl
theorem qmkb {c1:Cell}{r:Res}(k:Nat)(h:fbu (k+1) (k+1) c1=some r):qrn [.one (c1)] []=some r:=qap (k:=k+2) (Eq.trans (Eq.trans (by kernel_rfl) (qjdc k (k+1) c1)) h)
def qnqc:List (Nat×Run):=[]
def qvgc:Ctx:=ctx qbg qbh qnqc
def qoc:Run:=lim qvgc qib
theorem qmmc:FnOk Tryz.prog OkT qib qoc:=qan (l:=qnqc) qad tyTab_ok qae okT .nil qib
def fab (k m:Nat)(s1:ByteArray)(c2 c3 c4 c5:Cell)(H:List Entry):Option Res:=(deref H (c5)).bind fun p6=>(cS p6.1 p6.2).bind fun s7=>some ([.one (Cell.bool (s1.toList==s7.toList))],H)
theorem qjhc (k m:Nat)(s1:ByteArray)(c2 c3 c4 c5:Cell)(H:List Entry):evC qvgc qgcb (evF qvgc (k+1)) m qgcb.code none (retK qvgc qgcb) (enter qgcb [.agg [Cell.str s1,c2,c3,c4],.one (c5)] H)=fab (k+1) m s1 c2 c3 c4 c5 H:=by
 kernel_rfl
theorem qjgb {s1:ByteArray}{c2 c3 c4 c5:Cell}{H:List Entry}{r:Res}(k:Nat)(h:fab (k+1) (k+1) s1 c2 c3 c4 c5 H=some r):qoc [.agg [Cell.str s1,c2,c3,c4],.one (c5)] H=some r:=qap (k:=k+2) (Eq.trans (Eq.trans (by kernel_rfl) (qjhc k (k+1) s1 c2 c3 c4 c5 H)) h)
def qtcc:List (Nat×Run):=[(qib,qoc)]
def qqsb:Ctx:=ctx qbg qbh qtcc
def qavb:Run:=lim qqsb qchb
theorem ok_fbq:FnOk Tryz.prog OkT qchb qavb:=qan (l:=qtcc) qad tyTab_ok qae okT (.cons qmmc .nil) qchb
def qaq (k m:Nat):Nat→Cell→Cell→Int→Int→List Entry→Option Res | 0,_,_,_,_,_=>none | n+1,c3,c4,i5,i6,H7=>cond (decide (i6 < i5)) ((idxA 4 (c3) i6).bind fun c8=>(deref H7 (c8)).bind fun p9=>(cS p9.1 p9.2).bind fun s10=>(cC p9.1 (p9.2+1)).bind fun c11=>(cC p9.1 ((p9.2+1)+1)).bind fun c12=>(cC p9.1 (((p9.2+1)+1)+1)).bind fun c13=>(qoc [.agg [Cell.str s10,c11,c12,c13],.one (c4)] H7).bind fun r14=>cond (qab qtec r14.1) ((cB (qaa r14.1 0) 0).bind fun b15=>cond b15 (some ([.one (Cell.int i6)],r14.2)) (qaq k m n (c3) (c4) i5 (IntKind.i64.wrap (i6+1)) r14.2)) none) (some ([.one (Cell.int (-1))],H7))
def qbi (k m:Nat)(c1 q2:Cell)(H:List Entry):Option Res:=(lenC c1).bind fun n2=>qaq k m m (c1) (q2) (n2:Int) 0 H
abbrev qdb (k m:Nat):TB:=evC qqsb qlu (evF qqsb (k+1)) m (sub [1,0,1,2,3] qlu.code) none
abbrev qdd (k m:Nat):TK:=qav 0 (seqK (evC qqsb qlu (evF qqsb (k+1)) m (sub [1,1] qlu.code) none) (retK qqsb qlu))
theorem qcw (k m:Nat):∀ (n:Nat) (c3 c4:Cell) (i5 i6:Int) (H7:List Entry),qbo (some [0,1,7,8]) (qdb k m) (qdd k m) n ⟨fT 19 0 [(0,.av (.one (c3))),(1,.av (.one (.fn qib [] [c4]))),(7,.av (.one (Cell.int i5))),(8,.av (.one (Cell.int i6)))],fX 19 0 [],H7⟩=qaq (k+1) m n c3 c4 i5 i6 H7:=by
 intro n
 induction n with
 | zero=>intros;rfl
 | succ n ih=>intros;simp only[qaq,← ih];kernel_rfl
theorem qdc (k m:Nat)(c1 q2:Cell)(H:List Entry):evC qqsb qlu (evF qqsb (k+1)) m qlu.code none (retK qqsb qlu) (enter qlu [.one (c1),.one (.fn qib [] [q2])] H)=qbi (k+1) m c1 q2 H:=by
 simp only[qbi,← qcw k m]
 kernel_rfl
theorem qcq {c1 q2:Cell}{H:List Entry}{r:Res}(k:Nat)(h:qbi (k+1) (k+1) c1 q2 H=some r):qavb [.one (c1),.one (.fn qib [] [q2])] H=some r:=qap (k:=k+2) (Eq.trans (Eq.trans (by kernel_rfl) (qdc k (k+1) c1 q2 H)) h)
def qutc:List (Nat×Run):=[(qchb,qavb),(qib,qoc)]
def qvjc:Ctx:=ctx qbg qbh qutc
def qjx:Run:=lim qvjc qvv
theorem qmyc:FnOk Tryz.prog OkT qvv qjx:=qan (l:=qutc) qad tyTab_ok qae okT (.cons ok_fbq (.cons qmmc .nil)) qvv
def faa (k m:Nat)(c1:Cell)(s2:ByteArray):Option Res:=(qavb [.one (c1),.one (.fn qib [] [.ptr 0 1 0 0 0])] [Entry.mk 1 [[Cell.str s2]] 0 false]).bind fun r3=>cond (qab qsdc r3.1) ((cI .i64 (qaa r3.1 0) 0).bind fun i4=>some ([.one (Cell.int i4)],r3.2)) none
theorem qfmc (k m:Nat)(c1:Cell)(s2:ByteArray):evC qvjc qeab (evF qvjc (k+1)) m qeab.code none (retK qvjc qeab) (enter qeab [.one (c1),.one (Cell.str s2)] [])=faa (k+1) m c1 s2:=by
 kernel_rfl
theorem qlxb {c1:Cell}{s2:ByteArray}{r:Res}(k:Nat)(h:faa (k+1) (k+1) c1 s2=some r):qjx [.one (c1),.one (Cell.str s2)] []=some r:=qap (k:=k+2) (Eq.trans (Eq.trans (by kernel_rfl) (qfmc k (k+1) c1 s2)) h)
def qpmc:List (Nat×Run):=[]
def qvfc:Ctx:=ctx qbg qbh qpmc
def qdj:Run:=lim qvfc qiw
theorem qkgb:FnOk Tryz.prog OkT qiw qdj:=qan (l:=qpmc) qad tyTab_ok qae okT .nil qiw
def far (k m:Nat)(i1 i2 i3:Int):Option Res:=cond (decide (i1≥i2)) (some ([.one (Cell.bool (decide (i1≤i3)))],[])) (some ([.one (Cell.bool false)],[]))
theorem qzab (k m:Nat)(i1 i2 i3:Int):evC qvfc qgfb (evF qvfc (k+1)) m qgfb.code none (retK qvfc qgfb) (enter qgfb [.one (Cell.int i1),.one (Cell.int i2),.one (Cell.int i3)] [])=far (k+1) m i1 i2 i3:=by
 kernel_rfl
theorem qmdb {i1 i2 i3:Int}{r:Res}(k:Nat)(h:far (k+1) (k+1) i1 i2 i3=some r):qdj [.one (Cell.int i1),.one (Cell.int i2),.one (Cell.int i3)] []=some r:=qap (k:=k+2) (Eq.trans (Eq.trans (by kernel_rfl) (qzab k (k+1) i1 i2 i3)) h)
def qrcc:List (Nat×Run):=[]
def qwgc:Ctx:=ctx qbg qbh qrcc
def qll:Run:=lim qwgc qsb
theorem qmtc:FnOk Tryz.prog OkT qsb qll:=qan (l:=qrcc) qad tyTab_ok qae okT .nil qsb
def faw (k m:Nat)(i1:Int):Option Res:=cond (decide (i1≥97)) (some ([.one (Cell.bool (decide (i1≤122)))],[])) (some ([.one (Cell.bool false)],[]))
theorem qeoc (k m:Nat)(i1:Int):evC qwgc qdub (evF qwgc (k+1)) m qdub.code none (retK qwgc qdub) (enter qdub [.one (.sc (.int .u8 i1))] [])=faw (k+1) m i1:=by
 kernel_rfl
theorem qklb {i1:Int}{r:Res}(k:Nat)(h:faw (k+1) (k+1) i1=some r):qll [.one (.sc (.int .u8 i1))] []=some r:=qap (k:=k+2) (Eq.trans (Eq.trans (by kernel_rfl) (qeoc k (k+1) i1)) h)
def qqac:List (Nat×Run):=[]
def qvrc:Ctx:=ctx qbg qbh qqac
def qer:Run:=lim qvrc qlb
theorem qtjb:FnOk Tryz.prog OkT qlb qer:=qan (l:=qqac) qad tyTab_ok qae okT .nil qlb
def fat (k m:Nat)(i1:Int):Option Res:=cond (decide (i1≥48)) (some ([.one (Cell.bool (decide (i1≤57)))],[])) (some ([.one (Cell.bool false)],[]))
theorem qzzb (k m:Nat)(i1:Int):evC qvrc qfab (evF qvrc (k+1)) m qfab.code none (retK qvrc qfab) (enter qfab [.one (.sc (.int .u8 i1))] [])=fat (k+1) m i1:=by
 kernel_rfl
theorem qipb {i1:Int}{r:Res}(k:Nat)(h:fat (k+1) (k+1) i1=some r):qer [.one (.sc (.int .u8 i1))] []=some r:=qap (k:=k+2) (Eq.trans (Eq.trans (by kernel_rfl) (qzzb k (k+1) i1)) h)
def qmkc:List (Nat×Run):=[(qiw,qdj),(qsb,qll),(qlb,qer)]
def qvmb:Ctx:=ctx qbg qbh qmkc
def qfc:Run:=lim qvmb qmc
theorem qwmb:FnOk Tryz.prog OkT qmc qfc:=qan (l:=qmkc) qad tyTab_ok qae okT (.cons qkgb (.cons qmtc (.cons qtjb .nil))) qmc
def qpu (k m:Nat):Nat→ByteArray→Int→Option Res | 0,_,_=>none | n+1,s2,i3=>cond (decide (i3 < (s2.size:Int))) ((bytS s2 i3).bind fun i4=>(qaw qll [.one (.sc (.int .u8 i4))] []).bind fun r5=>cond (qab qgkc r5) ((cB (qaa r5 0) 0).bind fun b6=>cond (!b6) (cond (i3==0) (some ([.one (Cell.bool false)],[])) ((bytS s2 i3).bind fun i7=>(qaw qer [.one (.sc (.int .u8 i7))] []).bind fun r8=>cond (qab qdyb r8) ((cB (qaa r8 0) 0).bind fun b9=>cond (!b9) ((bytS s2 i3).bind fun i10=>cond (i10 != 45) (some ([.one (Cell.bool false)],[])) (qpu k m n s2 (IntKind.i64.wrap (i3+1)))) (qpu k m n s2 (IntKind.i64.wrap (i3+1)))) none)) (qpu k m n s2 (IntKind.i64.wrap (i3+1)))) none) ((qaw qdj [.one (Cell.int (s2.size:Int)),.one (Cell.int 1),.one (Cell.int 10)] []).bind fun r11=>cond (qab qtf r11) ((cB (qaa r11 0) 0).bind fun b12=>some ([.one (Cell.bool b12)],[])) none)
def fac (k m:Nat)(s1:ByteArray):Option Res:=qpu k m m s1 0
abbrev qddc (k m:Nat):TB:=evC qvmb qlw (evF qvmb (k+1)) m (sub [1,0,1,2,3] qlw.code) none
abbrev qejc (k m:Nat):TK:=qav 0 (seqK (evC qvmb qlw (evF qvmb (k+1)) m (sub [1,1] qlw.code) none) (retK qvmb qlw))
theorem qogb (k m:Nat):∀ (n:Nat) (s2:ByteArray) (i3:Int),qbo (some [0,3]) (qddc k m) (qejc k m) n ⟨fT 35 0 [(0,.av (.one (Cell.str s2))),(3,.av (.one (Cell.int i3)))],fX 35 0 [],[]⟩=qpu (k+1) m n s2 i3:=by
 intro n
 induction n with
 | zero=>intros;rfl
 | succ n ih=>intros;simp only[qpu,← ih];kernel_rfl
theorem qimc (k m:Nat)(s1:ByteArray):evC qvmb qlw (evF qvmb (k+1)) m qlw.code none (retK qvmb qlw) (enter qlw [.one (Cell.str s1)] [])=fac (k+1) m s1:=by
 simp only[fac,← qogb k m]
 kernel_rfl
theorem qmab {s1:ByteArray}{r:Res}(k:Nat)(h:fac (k+1) (k+1) s1=some r):qfc [.one (Cell.str s1)] []=some r:=qap (k:=k+2) (Eq.trans (Eq.trans (by kernel_rfl) (qimc k (k+1) s1)) h)
def qskc:List (Nat×Run):=[]
def qvec:Ctx:=ctx qbg qbh qskc
def qug:Run:=lim qvec qaeb
theorem ok_fav:FnOk Tryz.prog OkT qaeb qug:=qan (l:=qskc) qad tyTab_ok qae okT .nil qaeb
def fav (k m:Nat)(i1:Int):Option Res:=cond (decide (i1≥32)) (some ([.one (Cell.bool (decide (i1≤126)))],[])) (some ([.one (Cell.bool false)],[]))
theorem qgac (k m:Nat)(i1:Int):evC qvec qgeb (evF qvec (k+1)) m qgeb.code none (retK qvec qgeb) (enter qgeb [.one (.sc (.int .u8 i1))] [])=fav (k+1) m i1:=by
 kernel_rfl
theorem qhpb {i1:Int}{r:Res}(k:Nat)(h:fav (k+1) (k+1) i1=some r):qug [.one (.sc (.int .u8 i1))] []=some r:=qap (k:=k+2) (Eq.trans (Eq.trans (by kernel_rfl) (qgac k (k+1) i1)) h)
def qlac:List (Nat×Run):=[(qaeb,qug)]
def qvub:Ctx:=ctx qbg qbh qlac
def qov:Run:=lim qvub qacb
theorem ok_faj:FnOk Tryz.prog OkT qacb qov:=qan (l:=qlac) qad tyTab_ok qae okT (.cons ok_fav .nil) qacb
def qwi (k m:Nat):Nat→ByteArray→Int→Int→Option Res | 0,_,_,_=>none | n+1,s3,i4,i5=>cond (decide (i5 < (s3.size:Int))) ((bytS s3 i5).bind fun i6=>(qaw qug [.one (.sc (.int .u8 i6))] []).bind fun r7=>cond (qab qphc r7) ((cB (qaa r7 0) 0).bind fun b8=>cond (!b8) (some ([.one (Cell.bool false)],[])) (qwi k m n s3 i4 (IntKind.i64.wrap (i5+1)))) none) (some ([.one (Cell.bool (decide ((s3.size:Int)≤i4)))],[]))
def faj (k m:Nat)(s1:ByteArray)(i2:Int):Option Res:=qwi k m m s1 i2 0
abbrev qkcc (k m:Nat):TB:=evC qvub qlp (evF qvub (k+1)) m (sub [1,0,1,2,3] qlp.code) none
abbrev qcec (k m:Nat):TK:=qav 0 (seqK (evC qvub qlp (evF qvub (k+1)) m (sub [1,1] qlp.code) none) (retK qvub qlp))
theorem qwab (k m:Nat):∀ (n:Nat) (s3:ByteArray) (i4 i5:Int),qbo (some [0,1,5]) (qkcc k m) (qcec k m) n ⟨fT 21 0 [(0,.av (.one (Cell.str s3))),(1,.av (.one (Cell.int i4))),(5,.av (.one (Cell.int i5)))],fX 21 0 [],[]⟩=qwi (k+1) m n s3 i4 i5:=by
 intro n
 induction n with
 | zero=>intros;rfl
 | succ n ih=>intros;simp only[qwi,← ih];kernel_rfl
theorem qhhc (k m:Nat)(s1:ByteArray)(i2:Int):evC qvub qlp (evF qvub (k+1)) m qlp.code none (retK qvub qlp) (enter qlp [.one (Cell.str s1),.one (Cell.int i2)] [])=faj (k+1) m s1 i2:=by
 simp only[faj,← qwab k m]
 kernel_rfl
theorem qlwb {s1:ByteArray}{i2:Int}{r:Res}(k:Nat)(h:faj (k+1) (k+1) s1 i2=some r):qov [.one (Cell.str s1),.one (Cell.int i2)] []=some r:=qap (k:=k+2) (Eq.trans (Eq.trans (by kernel_rfl) (qhhc k (k+1) s1 i2)) h)
def qnpc:List (Nat×Run):=[(qmc,qfc),(qacb,qov),(qiw,qdj)]
def qutb:Ctx:=ctx qbg qbh qnpc
def qvi:Run:=lim qutb qatb
theorem ok_fap:FnOk Tryz.prog OkT qatb qvi:=qan (l:=qnpc) qad tyTab_ok qae okT (.cons qwmb (.cons ok_faj (.cons qkgb .nil))) qatb
def qxc (k m:Nat):Nat→Cell→Int→Int→ByteArray→Cell→Option Res | 0,_,_,_,_,_=>none | n+1,c4,i5,i6,s7,c8=>cond (decide (i6 < i5)) ((idxA 1 (c4) i6).bind fun c9=>(deref [] (c9)).bind fun p10=>(cS p10.1 p10.2).bind fun s11=>(qaw qov [.one (Cell.str s11),.one (Cell.int 40)] []).bind fun r12=>cond (qab qqtc r12) ((cB (qaa r12 0) 0).bind fun b13=>cond (!b13) (some ([.one (Cell.bool false)],[])) (qxc k m n (c4) i5 (IntKind.i64.wrap (i6+1)) s7 (c8))) none) ((qaw qfc [.one (Cell.str s7)] []).bind fun r14=>cond (qab qkmb r14) ((cB (qaa r14 0) 0).bind fun b15=>cond b15 ((lenC c8).bind fun n16=>(qaw qdj [.one (Cell.int (n16:Int)),.one (Cell.int 1),.one (Cell.int 5)] []).bind fun r17=>cond (qab qtf r17) ((cB (qaa r17 0) 0).bind fun b18=>some ([.one (Cell.bool b18)],[])) none) (some ([.one (Cell.bool false)],[]))) none)
def fap (k m:Nat)(s1:ByteArray)(c2:Cell):Option Res:=(lenC c2).bind fun n3=>qxc k m m (c2) (n3:Int) 0 s1 (c2)
abbrev qzvb (k m:Nat):TB:=evC qutb qjz (evF qutb (k+1)) m (sub [1,0,1,2,3] qjz.code) none
abbrev qaic (k m:Nat):TK:=qav 0 (seqK (evC qutb qjz (evF qutb (k+1)) m (sub [1,1] qjz.code) none) (retK qutb qjz))
theorem qvcb (k m:Nat):∀ (n:Nat) (c4:Cell) (i5 i6:Int) (s7:ByteArray) (c8:Cell),qbo (some [1,6,7,8]) (qzvb k m) (qaic k m) n ⟨fT 25 0 [(1,.loc 1 0),(6,.av (.one (c4))),(7,.av (.one (Cell.int i5))),(8,.av (.one (Cell.int i6)))],fX 25 0 [(1,[Cell.str s7,c8])],[]⟩=qxc (k+1) m n c4 i5 i6 s7 c8:=by
 intro n
 induction n with
 | zero=>intros;rfl
 | succ n ih=>intros;simp only[qxc,← ih];kernel_rfl
theorem qdxc (k m:Nat)(s1:ByteArray)(c2:Cell):evC qutb qjz (evF qutb (k+1)) m qjz.code none (retK qutb qjz) (enter qjz [.agg [Cell.str s1,c2]] [])=fap (k+1) m s1 c2:=by
 simp only[fap,← qvcb k m]
 kernel_rfl
theorem qhzb {s1:ByteArray}{c2:Cell}{r:Res}(k:Nat)(h:fap (k+1) (k+1) s1 c2=some r):qvi [.agg [Cell.str s1,c2]] []=some r:=qap (k:=k+2) (Eq.trans (Eq.trans (by kernel_rfl) (qdxc k (k+1) s1 c2)) h)
def qlgc:List (Nat×Run):=[(qmc,qfc)]
def qvjb:Ctx:=ctx qbg qbh qlgc
def qof:Run:=lim qvjb qbdb
theorem ok_fay:FnOk Tryz.prog OkT qbdb qof:=qan (l:=qlgc) qad tyTab_ok qae okT (.cons qwmb .nil) qbdb
def qwq (k m:Nat):Nat→Cell→Int→Cell→Int→Int→Option Res | 0,_,_,_,_,_=>none | n+1,c4,i5,c6,i7,i8=>cond (decide (i8 < i7)) ((idxA 1 (c6) i8).bind fun c9=>(deref [] (c9)).bind fun p10=>(cS p10.1 p10.2).bind fun s11=>(qaw qfc [.one (Cell.str s11)] []).bind fun r12=>cond (qab qkmb r12) ((cB (qaa r12 0) 0).bind fun b13=>cond (!b13) (some ([.one (Cell.bool false)],[])) (qwq k m n (c4) i5 (c6) i7 (IntKind.i64.wrap (i8+1)))) none) ((lenC c4).bind fun n14=>some ([.one (Cell.bool (decide ((n14:Int)≤i5)))],[]))
def fay (k m:Nat)(c1:Cell)(i2:Int):Option Res:=(lenC c1).bind fun n3=>qwq k m m (c1) i2 (c1) (n3:Int) 0
abbrev qkdc (k m:Nat):TB:=evC qvjb qjy (evF qvjb (k+1)) m (sub [1,0,1,2,3] qjy.code) none
abbrev qbmc (k m:Nat):TK:=qav 0 (seqK (evC qvjb qjy (evF qvjb (k+1)) m (sub [1,1] qjy.code) none) (retK qvjb qjy))
theorem qsob (k m:Nat):∀ (n:Nat) (c4:Cell) (i5:Int) (c6:Cell) (i7 i8:Int),qbo (some [0,1,7,8,9]) (qkdc k m) (qbmc k m) n ⟨fT 21 0 [(0,.av (.one (c4))),(1,.av (.one (Cell.int i5))),(7,.av (.one (c6))),(8,.av (.one (Cell.int i7))),(9,.av (.one (Cell.int i8)))],fX 21 0 [],[]⟩=qwq (k+1) m n c4 i5 c6 i7 i8:=by
 intro n
 induction n with
 | zero=>intros;rfl
 | succ n ih=>intros;simp only[qwq,← ih];kernel_rfl
theorem qcoc (k m:Nat)(c1:Cell)(i2:Int):evC qvjb qjy (evF qvjb (k+1)) m qjy.code none (retK qvjb qjy) (enter qjy [.one (c1),.one (Cell.int i2)] [])=fay (k+1) m c1 i2:=by
 simp only[fay,← qsob k m]
 kernel_rfl
theorem qmob {c1:Cell}{i2:Int}{r:Res}(k:Nat)(h:fay (k+1) (k+1) c1 i2=some r):qof [.one (c1),.one (Cell.int i2)] []=some r:=qap (k:=k+2) (Eq.trans (Eq.trans (by kernel_rfl) (qcoc k (k+1) c1 i2)) h)
def qpnc:List (Nat×Run):=[]
def qtmb:Ctx:=ctx qbg qbh qpnc
def qsx:Run:=lim qtmb qaub
theorem ok_fas:FnOk Tryz.prog OkT qaub qsx:=qan (l:=qpnc) qad tyTab_ok qae okT .nil qaub
def quz (k m:Nat):Nat→Cell→Int→Option Res | 0,_,_=>none | n+1,c2,i3=>(lenC c2).bind fun n4=>cond (decide (i3 < (n4:Int))) ((idxA 1 (c2) i3).bind fun c5=>(deref [] (c5)).bind fun p6=>(cS p6.1 p6.2).bind fun s7=>(idxA 1 (c2) (IntKind.i64.wrap (i3 - 1))).bind fun c8=>(deref [] (c8)).bind fun p9=>(cS p9.1 p9.2).bind fun s10=>cond (Op.bytesLess s7.toList s10.toList||s7.toList==s10.toList) (some ([.one (Cell.bool false)],[])) (quz k m n (c2) (IntKind.i64.wrap (i3+1)))) (some ([.one (Cell.bool true)],[]))
def fas (k m:Nat)(c1:Cell):Option Res:=quz k m m (c1) 1
abbrev qzxb (k m:Nat):TB:=evC qtmb qmm (evF qtmb (k+1)) m (sub [1,0,1,2,3] qmm.code) none
abbrev qfec (k m:Nat):TK:=qav 0 (seqK (evC qtmb qmm (evF qtmb (k+1)) m (sub [1,1] qmm.code) none) (retK qtmb qmm))
theorem quub (k m:Nat):∀ (n:Nat) (c2:Cell) (i3:Int),qbo (some [0,3]) (qzxb k m) (qfec k m) n ⟨fT 20 0 [(0,.av (.one (c2))),(3,.av (.one (Cell.int i3)))],fX 20 0 [],[]⟩=quz (k+1) m n c2 i3:=by
 intro n
 induction n with
 | zero=>intros;rfl
 | succ n ih=>intros;simp only[quz,← ih];kernel_rfl
theorem qgwc (k m:Nat)(c1:Cell):evC qtmb qmm (evF qtmb (k+1)) m qmm.code none (retK qtmb qmm) (enter qmm [.one (c1)] [])=fas (k+1) m c1:=by
 simp only[fas,← quub k m]
 kernel_rfl
theorem qhrb {c1:Cell}{r:Res}(k:Nat)(h:fas (k+1) (k+1) c1=some r):qsx [.one (c1)] []=some r:=qap (k:=k+2) (Eq.trans (Eq.trans (by kernel_rfl) (qgwc k (k+1) c1)) h)
def qsic:List (Nat×Run):=[]
def G_fee:Ctx:=ctx qbg qbh qsic
def qyfb:Run:=lim G_fee qaxb
theorem ok_fee:FnOk Tryz.prog OkT qaxb qyfb:=qan (l:=qsic) qad tyTab_ok qae okT .nil qaxb
def qtdc:List (Nat×Run):=[]
def G_fef:Ctx:=ctx qbg qbh qtdc
def qxlb:Run:=lim G_fef qcgb
theorem ok_fef:FnOk Tryz.prog OkT qcgb qxlb:=qan (l:=qtdc) qad tyTab_ok qae okT .nil qcgb
def qmec:List (Nat×Run):=[(qcgb,qxlb)]
def G_fed:Ctx:=ctx qbg qbh qmec
def qygb:Run:=lim G_fed qcnb
theorem ok_fed:FnOk Tryz.prog OkT qcnb qygb:=qan (l:=qmec) qad tyTab_ok qae okT (.cons ok_fef .nil) qcnb
def qsqc:List (Nat×Run):=[(qaxb,qyfb),(qcnb,qygb)]
def G_feb:Ctx:=ctx qbg qbh qsqc
def qibb:Run:=lim G_feb qcsb
theorem ok_feb:FnOk Tryz.prog OkT qcsb qibb:=qan (l:=qsqc) qad tyTab_ok qae okT (.cons ok_fee (.cons ok_fed .nil)) qcsb
def qnjc:List (Nat×Run):=[(qcsb,qibb),(qxzb,quk),(qyvb,qtv)]
def qnmb:Ctx:=ctx qbg qbh qnjc
def qnk:Run:=lim qnmb qcib
theorem ok_fec:FnOk Tryz.prog OkT qcib qnk:=qan (l:=qnjc) qad tyTab_ok qae okT (.cons ok_feb (.cons ok_fdu (.cons ok_fdx .nil))) qcib
def qli (k m:Nat):Nat→ByteArray→ByteArray→Int→Int→Cell→Int→List Entry→Option Res | 0,_,_,_,_,_,_,_=>none | n+1,s9,s10,i11,i12,c13,i14,H15=>cond (decide (i14 < i12)) ((qaw qtv [.one (Cell.str s9),.one (Cell.str s10)] H15).bind fun r16=>cond (qab qtoc r16) ((cI .i64 (qaa r16 0) 0).bind fun i17=>cond (decide (i17 < 0)) ((idxA 1 (c13) i14).bind fun c18=>(qbt H15 (c18) [Cell.str s9]).bind fun h19=>(slcC 1 (c13) 0 (some (IntKind.i64.wrap (i14+1))) none).bind fun c20=>some ([.one (c20)],h19)) ((subS s9 0 (IntKind.i64.wrap (i17+i11))).bind fun s21=>(idxA 1 (c13) i14).bind fun c22=>(qbt H15 (c22) [Cell.str s21]).bind fun h23=>(subS s9 (IntKind.i64.wrap (i17+(s10.size:Int))) (s9.size:Int)).bind fun s24=>qli k m n s24 s10 i11 i12 (c13) (IntKind.i64.wrap (i14+1)) h23)) none) ((idxA 1 (c13) i14).bind fun c25=>(qbt H15 (c25) [Cell.str s9]).bind fun h26=>(slcC 1 (c13) 0 (some (IntKind.i64.wrap (i14+1))) none).bind fun c27=>some ([.one (c27)],h26))
def fec (k m:Nat)(s1 s2:ByteArray)(i3 i4:Int):Option Res:=cond (i4==0) (some ([.one (.lst true 1 [])],[])) (cond (s2.toList==(bs []).toList) ((callL qibb [.one (Cell.str s1),.one (Cell.int i4)] []).bind fun r5=>cond (qab qooc r5.1) ((cC (qaa r5.1 0) 0).bind fun c6=>some ([.one (c6)],r5.2)) none) (cond (decide (i4 < 0)) ((qaw quk [.one (Cell.str s1),.one (Cell.str s2)] []).bind fun r7=>cond (qab qudc r7) ((cI .i64 (qaa r7 0) 0).bind fun i8=>if 0≤(if (IntKind.i64.wrap ((s1.size:Int)+1)) < (IntKind.i64.wrap (i8+1)) then (IntKind.i64.wrap ((s1.size:Int)+1)) else (IntKind.i64.wrap (i8+1)))∧(if (IntKind.i64.wrap ((s1.size:Int)+1)) < (IntKind.i64.wrap (i8+1)) then (IntKind.i64.wrap ((s1.size:Int)+1)) else (IntKind.i64.wrap (i8+1)))≤(if (IntKind.i64.wrap ((s1.size:Int)+1)) < (IntKind.i64.wrap (i8+1)) then (IntKind.i64.wrap ((s1.size:Int)+1)) else (IntKind.i64.wrap (i8+1)))∧(if (IntKind.i64.wrap ((s1.size:Int)+1)) < (IntKind.i64.wrap (i8+1)) then (IntKind.i64.wrap ((s1.size:Int)+1)) else (IntKind.i64.wrap (i8+1)))*16≤bound∧(if (IntKind.i64.wrap ((s1.size:Int)+1)) < (IntKind.i64.wrap (i8+1)) then (IntKind.i64.wrap ((s1.size:Int)+1)) else (IntKind.i64.wrap (i8+1)))≤bound then (qli k m m s1 s2 i3 (IntKind.i64.wrap ((if (IntKind.i64.wrap ((s1.size:Int)+1)) < (IntKind.i64.wrap (i8+1)) then (IntKind.i64.wrap ((s1.size:Int)+1)) else (IntKind.i64.wrap (i8+1))) - 1)) ((.vs 0 1 0 (if (IntKind.i64.wrap ((s1.size:Int)+1)) < (IntKind.i64.wrap (i8+1)) then (IntKind.i64.wrap ((s1.size:Int)+1)) else (IntKind.i64.wrap (i8+1))).toNat 0)) 0 [Entry.mk 1 (qch (if (IntKind.i64.wrap ((s1.size:Int)+1)) < (IntKind.i64.wrap (i8+1)) then (IntKind.i64.wrap ((s1.size:Int)+1)) else (IntKind.i64.wrap (i8+1))).toNat [Cell.str (bs [])]) 0 false]) else none) none) (if 0≤(if (IntKind.i64.wrap ((s1.size:Int)+1)) < i4 then (IntKind.i64.wrap ((s1.size:Int)+1)) else i4)∧(if (IntKind.i64.wrap ((s1.size:Int)+1)) < i4 then (IntKind.i64.wrap ((s1.size:Int)+1)) else i4)≤(if (IntKind.i64.wrap ((s1.size:Int)+1)) < i4 then (IntKind.i64.wrap ((s1.size:Int)+1)) else i4)∧(if (IntKind.i64.wrap ((s1.size:Int)+1)) < i4 then (IntKind.i64.wrap ((s1.size:Int)+1)) else i4)*16≤bound∧(if (IntKind.i64.wrap ((s1.size:Int)+1)) < i4 then (IntKind.i64.wrap ((s1.size:Int)+1)) else i4)≤bound then (qli k m m s1 s2 i3 (IntKind.i64.wrap ((if (IntKind.i64.wrap ((s1.size:Int)+1)) < i4 then (IntKind.i64.wrap ((s1.size:Int)+1)) else i4) - 1)) ((.vs 0 1 0 (if (IntKind.i64.wrap ((s1.size:Int)+1)) < i4 then (IntKind.i64.wrap ((s1.size:Int)+1)) else i4).toNat 0)) 0 [Entry.mk 1 (qch (if (IntKind.i64.wrap ((s1.size:Int)+1)) < i4 then (IntKind.i64.wrap ((s1.size:Int)+1)) else i4).toNat [Cell.str (bs [])]) 0 false]) else none)))
abbrev qkjc (k m:Nat):TB:=evC qnmb qnd (evF qnmb (k+1)) m (sub [1,1,1,1,1,1,1,1,0,2,3] qnd.code) none
abbrev qiyc (k m:Nat):TK:=qav 0 (seqK (evC qnmb qnd (evF qnmb (k+1)) m (sub [1,1,1,1,1,1,1,1,1] qnd.code) none) (retK qnmb qnd))
theorem qwnb (k m:Nat):∀ (n:Nat) (s9 s10:ByteArray) (i11 i12:Int) (c13:Cell) (i14:Int) (H15:List Entry),qbo (some [0,1,2,3,9,10]) (qkjc k m) (qiyc k m) n ⟨fT 66 0 [(0,.av (.one (Cell.str s9))),(1,.av (.one (Cell.str s10))),(2,.av (.one (Cell.int i11))),(3,.av (.one (Cell.int i12))),(9,.av (.one (c13))),(10,.av (.one (Cell.int i14)))],fX 66 0 [],H15⟩=qli (k+1) m n s9 s10 i11 i12 c13 i14 H15:=by
 intro n
 induction n with
 | zero=>intros;rfl
 | succ n ih=>intros;simp only[qli,← ih];kernel_rfl
theorem qhzc (k m:Nat)(s1 s2:ByteArray)(i3 i4:Int):evC qnmb qnd (evF qnmb (k+1)) m qnd.code none (retK qnmb qnd) (enter qnd [.one (Cell.str s1),.one (Cell.str s2),.one (Cell.int i3),.one (Cell.int i4)] [])=fec (k+1) m s1 s2 i3 i4:=by
 simp only[fec,← qwnb k m]
 kernel_rfl
theorem qub {s1 s2:ByteArray}{i3 i4:Int}{r:Res}(k:Nat)(h:fec (k+1) (k+1) s1 s2 i3 i4=some r):qnk [.one (Cell.str s1),.one (Cell.str s2),.one (Cell.int i3),.one (Cell.int i4)] []=some r:=qap (k:=k+2) (Eq.trans (Eq.trans (by kernel_rfl) (qhzc k (k+1) s1 s2 i3 i4)) h)
def qmnc:List (Nat×Run):=[(qcib,qnk)]
def qwpc:Ctx:=ctx qbg qbh qmnc
def qed:Run:=lim qwpc qmv
theorem qxgb:FnOk Tryz.prog OkT qmv qed:=qan (l:=qmnc) qad tyTab_ok qae okT (.cons ok_fec .nil) qmv
def fdz (k m:Nat)(s1 s2:ByteArray):Option Res:=(qgu qnk [.one (Cell.str s1),.one (Cell.str s2),.one (Cell.int 0),.one (Cell.int (-1))] []).bind fun r3=>cond (qab qpbc r3.1) ((cC (qaa r3.1 0) 0).bind fun c4=>some ([.one (c4)],r3.2)) none
theorem qdhc (k m:Nat)(s1 s2:ByteArray):evC qwpc qfub (evF qwpc (k+1)) m qfub.code none (retK qwpc qfub) (enter qfub [.one (Cell.str s1),.one (Cell.str s2)] [])=fdz (k+1) m s1 s2:=by
 kernel_rfl
theorem qss {s1 s2:ByteArray}{r:Res}(k:Nat)(h:fdz (k+1) (k+1) s1 s2=some r):qed [.one (Cell.str s1),.one (Cell.str s2)] []=some r:=qap (k:=k+2) (Eq.trans (Eq.trans (by kernel_rfl) (qdhc k (k+1) s1 s2)) h)
def qqbc:List (Nat×Run):=[]
def G_fbf:Ctx:=ctx qbg qbh qqbc
def qymb:Run:=lim G_fbf qys
theorem ok_fbf:FnOk Tryz.prog OkT qys qymb:=qan (l:=qqbc) qad tyTab_ok qae okT .nil qys
end
end Go.Ev
