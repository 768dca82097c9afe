/- What the evaluator says of the functions, each as a Lean function over cells. Printed by a program of this claim. Conditions: none. -/
import Derived.Test.YteofbfalngmmeaaGreatDoorSh1
import Derived.KernelRfl
namespace Go.Ev
open Go Go.Proofs
noncomputable section
set_option maxRecDepth 100000
set_option linter.unusedVariables false
set_option linter.unusedSimpArgs false
def qnbc:List (Nat×Run):=[]
def G_fbh:Ctx:=ctx qbg qbh qnbc
def qykb:Run:=lim G_fbh qzk
theorem ok_fbh:FnOk Tryz.prog OkT qzk qykb:=qan (l:=qnbc) qad tyTab_ok qae okT .nil qzk
def qmfc:List (Nat×Run):=[(qzk,qykb)]
def G_fbg:Ctx:=ctx qbg qbh qmfc
def qyhb:Run:=lim G_fbg qyx
theorem ok_fbg:FnOk Tryz.prog OkT qyx qyhb:=qan (l:=qmfc) qad tyTab_ok qae okT (.cons ok_fbh .nil) qyx
def qorc:List (Nat×Run):=[(qyob,qoe),(qys,qymb),(qyx,qyhb)]
def qvpc:Ctx:=ctx qbg qbh qorc
def qum:Run:=lim qvpc qzo
theorem ok_fbl:FnOk Tryz.prog OkT qzo qum:=qan (l:=qorc) qad tyTab_ok qae okT (.cons ok_fbm (.cons ok_fbf (.cons ok_fbg .nil))) qzo
def fbl (k m:Nat)(s1 s2:ByteArray):Option Res:=cond ((s2.size:Int)==0) (some ([.one (Cell.int 0)],[])) (cond (s2.toList==s1.toList) (some ([.one (Cell.int 0)],[])) (cond ((s2.size:Int)==1) ((bytS s2 0).bind fun i3=>(qaw qoe [.one (Cell.str s1),.one (.sc (.int .u8 i3))] []).bind fun r4=>cond (qab qtac r4) ((cI .i64 (qaa r4 0) 0).bind fun i5=>some ([.one (Cell.int i5)],[])) none) (cond (decide ((s2.size:Int)≥(s1.size:Int))) (some ([.one (Cell.int (-1))],[])) (none))))
theorem qffc (k m:Nat)(s1 s2:ByteArray):evC qvpc qggb (evF qvpc (k+1)) m qggb.code none (retK qvpc qggb) (enter qggb [.one (Cell.str s1),.one (Cell.str s2)] [])=fbl (k+1) m s1 s2:=by
 kernel_rfl
theorem qjrb {s1 s2:ByteArray}{r:Res}(k:Nat)(h:fbl (k+1) (k+1) s1 s2=some r):qum [.one (Cell.str s1),.one (Cell.str s2)] []=some r:=qap (k:=k+2) (Eq.trans (Eq.trans (by kernel_rfl) (qffc k (k+1) s1 s2)) h)
def qnvc:List (Nat×Run):=[(qzo,qum)]
def qwjc:Ctx:=ctx qbg qbh qnvc
def quq:Run:=lim qwjc qcmb
theorem ok_fbi:FnOk Tryz.prog OkT qcmb quq:=qan (l:=qnvc) qad tyTab_ok qae okT (.cons ok_fbl .nil) qcmb
def fbi (k m:Nat)(s1 s2:ByteArray):Option Res:=(qaw qum [.one (Cell.str s1),.one (Cell.str s2)] []).bind fun r3=>cond (qab qupc r3) ((cI .i64 (qaa r3 0) 0).bind fun i4=>cond (decide (i4≥0)) ((subS s1 0 i4).bind fun s5=>(subS s1 (IntKind.i64.wrap (i4+(s2.size:Int))) (s1.size:Int)).bind fun s6=>some ([.one (Cell.str s5),.one (Cell.str s6),.one (Cell.bool true)],[])) (some ([.one (Cell.str s1),.one (Cell.str (bs [])),.one (Cell.bool false)],[]))) none
theorem qewc (k m:Nat)(s1 s2:ByteArray):evC qwjc qdmb (evF qwjc (k+1)) m qdmb.code none (retK qwjc qdmb) (enter qdmb [.one (Cell.str s1),.one (Cell.str s2)] [])=fbi (k+1) m s1 s2:=by
 kernel_rfl
theorem qhdb {s1 s2:ByteArray}{r:Res}(k:Nat)(h:fbi (k+1) (k+1) s1 s2=some r):quq [.one (Cell.str s1),.one (Cell.str s2)] []=some r:=qap (k:=k+2) (Eq.trans (Eq.trans (by kernel_rfl) (qewc k (k+1) s1 s2)) h)
def qtpc:List (Nat×Run):=[(qcmb,quq)]
def qwuc:Ctx:=ctx qbg qbh qtpc
def qou:Run:=lim qwuc qccb
theorem ok_fdv:FnOk Tryz.prog OkT qccb qou:=qan (l:=qtpc) qad tyTab_ok qae okT (.cons ok_fbi .nil) qccb
def fdv (k m:Nat)(s1 s2:ByteArray):Option Res:=(qaw quq [.one (Cell.str s1),.one (Cell.str s2)] []).bind fun r3=>cond (qab qpfc r3) ((cS (qaa r3 0) 0).bind fun s4=>(cS (qaa r3 1) 0).bind fun s5=>(cB (qaa r3 2) 0).bind fun b6=>some ([.one (Cell.str s4),.one (Cell.str s5),.one (Cell.bool b6)],[])) none
theorem qftc (k m:Nat)(s1 s2:ByteArray):evC qwuc qdkb (evF qwuc (k+1)) m qdkb.code none (retK qwuc qdkb) (enter qdkb [.one (Cell.str s1),.one (Cell.str s2)] [])=fdv (k+1) m s1 s2:=by
 kernel_rfl
theorem qkkb {s1 s2:ByteArray}{r:Res}(k:Nat)(h:fdv (k+1) (k+1) s1 s2=some r):qou [.one (Cell.str s1),.one (Cell.str s2)] []=some r:=qap (k:=k+2) (Eq.trans (Eq.trans (by kernel_rfl) (qftc k (k+1) s1 s2)) h)
def qohc:List (Nat×Run):=[(qyyb,qyo)]
def qwnc:Ctx:=ctx qbg qbh qohc
def qie:Run:=lim qwnc qvj
theorem qloc:FnOk Tryz.prog OkT qvj qie:=qan (l:=qohc) qad tyTab_ok qae okT (.cons ok_fdt .nil) qvj
def fad (k m:Nat)(i1:Int):Option Res:=(qaw qyo [.one (Cell.int (if i1 < 0 then 0 else i1))] []).bind fun r2=>cond (qab qogc r2) ((cS (qaa r2 0) 0).bind fun s3=>some ([.one (Cell.str s3)],[])) none
theorem qfjc (k m:Nat)(i1:Int):evC qwnc qdsb (evF qwnc (k+1)) m qdsb.code none (retK qwnc qdsb) (enter qdsb [.one (Cell.int i1)] [])=fad (k+1) m i1:=by
 kernel_rfl
theorem qlgb {i1:Int}{r:Res}(k:Nat)(h:fad (k+1) (k+1) i1=some r):qie [.one (Cell.int i1)] []=some r:=qap (k:=k+2) (Eq.trans (Eq.trans (by kernel_rfl) (qfjc k (k+1) i1)) h)
def quuc:List (Nat×Run):=[(qiw,qdj),(qlb,qer),(qvj,qie)]
def qoab:Ctx:=ctx qbg qbh quuc
def qht:Run:=lim qoab qru
theorem qtmc:FnOk Tryz.prog OkT qru qht:=qan (l:=quuc) qad tyTab_ok qae okT (.cons qkgb (.cons qtjb (.cons qloc .nil))) qru
def qxo (k m:Nat):Nat→ByteArray→Int→Int→Int→Option Res | 0,_,_,_,_=>none | n+1,s5,i6,i7,i8=>cond (decide (i8 < (s5.size:Int))) ((bytS s5 i8).bind fun i9=>(qaw qer [.one (.sc (.int .u8 i9))] []).bind fun r10=>cond (qab qdyb r10) ((cB (qaa r10 0) 0).bind fun b11=>cond (!b11) (some ([.one (Cell.int 0),.one (Cell.bool false)],[])) ((bytS s5 i8).bind fun i12=>qxo k m n s5 i6 (IntKind.i64.wrap ((IntKind.i64.wrap (i7*10))+(IntKind.i64.wrap (IntKind.u8.wrap (i12 - 48))))) (IntKind.i64.wrap (i8+1)))) none) ((qaw qie [.one (Cell.int i7)] []).bind fun r13=>cond (qab qjob r13) ((cS (qaa r13 0) 0).bind fun s14=>cond (!(s14.toList==s5.toList)) (some ([.one (Cell.int 0),.one (Cell.bool false)],[])) (cond (decide (i7 > i6)) (some ([.one (Cell.int 0),.one (Cell.bool false)],[])) (some ([.one (Cell.int i7),.one (Cell.bool true)],[])))) none)
def fag (k m:Nat)(s1:ByteArray)(i2:Int):Option Res:=(qaw qdj [.one (Cell.int (s1.size:Int)),.one (Cell.int 1),.one (Cell.int 7)] []).bind fun r3=>cond (qab qtf r3) ((cB (qaa r3 0) 0).bind fun b4=>cond (!b4) (some ([.one (Cell.int 0),.one (Cell.bool false)],[])) (qxo k m m s1 i2 0 0)) none
abbrev qgmc (k m:Nat):TB:=evC qoab qna (evF qoab (k+1)) m (sub [1,1,1,0,1,2,3] qna.code) none
abbrev qfzc (k m:Nat):TK:=qav 0 (seqK (evC qoab qna (evF qoab (k+1)) m (sub [1,1,1,1] qna.code) none) (retK qoab qna))
theorem qrvb (k m:Nat):∀ (n:Nat) (s5:ByteArray) (i6 i7 i8:Int),qbo (some [0,1,6,7]) (qgmc k m) (qfzc k m) n ⟨fT 41 0 [(0,.av (.one (Cell.str s5))),(1,.av (.one (Cell.int i6))),(6,.av (.one (Cell.int i7))),(7,.av (.one (Cell.int i8)))],fX 41 0 [],[]⟩=qxo (k+1) m n s5 i6 i7 i8:=by
 intro n
 induction n with
 | zero=>intros;rfl
 | succ n ih=>intros;simp only[qxo,← ih];kernel_rfl
theorem qbvc (k m:Nat)(s1:ByteArray)(i2:Int):evC qoab qna (evF qoab (k+1)) m qna.code none (retK qoab qna) (enter qna [.one (Cell.str s1),.one (Cell.int i2)] [])=fag (k+1) m s1 i2:=by
 simp only[fag,← qrvb k m]
 kernel_rfl
theorem qrm {s1:ByteArray}{i2:Int}{r:Res}(k:Nat)(h:fag (k+1) (k+1) s1 i2=some r):qht [.one (Cell.str s1),.one (Cell.int i2)] []=some r:=qap (k:=k+2) (Eq.trans (Eq.trans (by kernel_rfl) (qbvc k (k+1) s1 i2)) h)
def qplc:List (Nat×Run):=[(qlb,qer)]
def quhb:Ctx:=ctx qbg qbh qplc
def qsn:Run:=lim quhb qceb
theorem ok_fau:FnOk Tryz.prog OkT qceb qsn:=qan (l:=qplc) qad tyTab_ok qae okT (.cons qtjb .nil) qceb
def qxi (k m:Nat):Nat→ByteArray→Int→Option Res | 0,_,_=>none | n+1,s2,i3=>cond (decide (i3 < (s2.size:Int))) ((bytS s2 i3).bind fun i4=>(qaw qer [.one (.sc (.int .u8 i4))] []).bind fun r5=>cond (qab qdyb r5) ((cB (qaa r5 0) 0).bind fun b6=>cond (!b6) (some ([.one (Cell.bool false)],[])) (qxi k m n s2 (IntKind.i64.wrap (i3+1)))) none) (some ([.one (Cell.bool (!(s2.toList==(bs []).toList)))],[]))
def fau (k m:Nat)(s1:ByteArray):Option Res:=qxi k m m s1 0
abbrev qfkc (k m:Nat):TB:=evC quhb qko (evF quhb (k+1)) m (sub [1,0,1,2,3] qko.code) none
abbrev qbtc (k m:Nat):TK:=qav 0 (seqK (evC quhb qko (evF quhb (k+1)) m (sub [1,1] qko.code) none) (retK quhb qko))
theorem qsmb (k m:Nat):∀ (n:Nat) (s2:ByteArray) (i3:Int),qbo (some [0,3]) (qfkc k m) (qbtc k m) n ⟨fT 17 0 [(0,.av (.one (Cell.str s2))),(3,.av (.one (Cell.int i3)))],fX 17 0 [],[]⟩=qxi (k+1) m n s2 i3:=by
 intro n
 induction n with
 | zero=>intros;rfl
 | succ n ih=>intros;simp only[qxi,← ih];kernel_rfl
theorem qcic (k m:Nat)(s1:ByteArray):evC quhb qko (evF quhb (k+1)) m qko.code none (retK quhb qko) (enter qko [.one (Cell.str s1)] [])=fau (k+1) m s1:=by
 simp only[fau,← qsmb k m]
 kernel_rfl
theorem qjpb {s1:ByteArray}{r:Res}(k:Nat)(h:fau (k+1) (k+1) s1=some r):qsn [.one (Cell.str s1)] []=some r:=qap (k:=k+2) (Eq.trans (Eq.trans (by kernel_rfl) (qcic k (k+1) s1)) h)
def qmzc:List (Nat×Run):=[(qiw,qdj),(qsb,qll),(qlb,qer),(qceb,qsn)]
def qtgb:Ctx:=ctx qbg qbh qmzc
def qqu:Run:=lim qtgb qyp
theorem ok_fbd:FnOk Tryz.prog OkT qyp qqu:=qan (l:=qmzc) qad tyTab_ok qae okT (.cons qkgb (.cons qmtc (.cons qtjb (.cons ok_fau .nil)))) qyp
def qjh (k m:Nat):Nat→ByteArray→Int→Option Res | 0,_,_=>none | n+1,s2,i3=>cond (decide (i3 < (s2.size:Int))) ((bytS s2 i3).bind fun i4=>(qaw qll [.one (.sc (.int .u8 i4))] []).bind fun r5=>cond (qab qgkc r5) ((cB (qaa r5 0) 0).bind fun b6=>cond (!b6) (cond (decide (i4≥65)) (cond (!(decide (i4≤90))) ((qaw qer [.one (.sc (.int .u8 i4))] []).bind fun r7=>cond (qab qdyb r7) ((cB (qaa r7 0) 0).bind fun b8=>cond (!b8) (cond (i4 != 45) (some ([.one (Cell.bool false)],[])) (qjh k m n s2 (IntKind.i64.wrap (i3+1)))) (qjh k m n s2 (IntKind.i64.wrap (i3+1)))) none) (qjh k m n s2 (IntKind.i64.wrap (i3+1)))) ((qaw qer [.one (.sc (.int .u8 i4))] []).bind fun r9=>cond (qab qdyb r9) ((cB (qaa r9 0) 0).bind fun b10=>cond (!b10) (cond (i4 != 45) (some ([.one (Cell.bool false)],[])) (qjh k m n s2 (IntKind.i64.wrap (i3+1)))) (qjh k m n s2 (IntKind.i64.wrap (i3+1)))) none)) (qjh k m n s2 (IntKind.i64.wrap (i3+1)))) none) ((qaw qdj [.one (Cell.int (s2.size:Int)),.one (Cell.int 1),.one (Cell.int 8)] []).bind fun r11=>cond (qab qtf r11) ((cB (qaa r11 0) 0).bind fun b12=>cond b12 ((qaw qsn [.one (Cell.str s2)] []).bind fun r13=>cond (qab qsyc r13) ((cB (qaa r13 0) 0).bind fun b14=>cond (!b14) (some ([.one (Cell.bool true)],[])) (cond (s2.toList==(bs [48]).toList) (some ([.one (Cell.bool true)],[])) ((bytS s2 0).bind fun i15=>some ([.one (Cell.bool (i15 != 48))],[])))) none) (some ([.one (Cell.bool false)],[]))) none)
def fbd (k m:Nat)(s1:ByteArray):Option Res:=qjh k m m s1 0
abbrev qikc (k m:Nat):TB:=evC qtgb qlg (evF qtgb (k+1)) m (sub [1,0,1,2,3] qlg.code) none
abbrev qccc (k m:Nat):TK:=qav 0 (seqK (evC qtgb qlg (evF qtgb (k+1)) m (sub [1,1] qlg.code) none) (retK qtgb qlg))
theorem qsdb (k m:Nat):∀ (n:Nat) (s2:ByteArray) (i3:Int),qbo (some [0,3]) (qikc k m) (qccc k m) n ⟨fT 52 0 [(0,.av (.one (Cell.str s2))),(3,.av (.one (Cell.int i3)))],fX 52 0 [],[]⟩=qjh (k+1) m n s2 i3:=by
 intro n
 induction n with
 | zero=>intros;rfl
 | succ n ih=>intros;simp only[qjh,← ih];kernel_rfl
theorem qidc (k m:Nat)(s1:ByteArray):evC qtgb qlg (evF qtgb (k+1)) m qlg.code none (retK qtgb qlg) (enter qlg [.one (Cell.str s1)] [])=fbd (k+1) m s1:=by
 simp only[fbd,← qsdb k m]
 kernel_rfl
theorem qhnb {s1:ByteArray}{r:Res}(k:Nat)(h:fbd (k+1) (k+1) s1=some r):qqu [.one (Cell.str s1)] []=some r:=qap (k:=k+2) (Eq.trans (Eq.trans (by kernel_rfl) (qidc k (k+1) s1)) h)
def qqnc:List (Nat×Run):=[(qiw,qdj),(qyp,qqu)]
def qubb:Ctx:=ctx qbg qbh qqnc
def qlo:Run:=lim qubb qtz
theorem qmsc:FnOk Tryz.prog OkT qtz qlo:=qan (l:=qqnc) qad tyTab_ok qae okT (.cons qkgb (.cons ok_fbd .nil)) qtz
def qwu (k m:Nat):Nat→Cell→Int→Int→Int→Int→Int→Cell→Option Res | 0,_,_,_,_,_,_,_=>none | n+1,c6,i7,i8,i9,i10,i11,c12=>cond (decide (i8 < i7)) ((idxA 1 (c6) i8).bind fun c13=>(deref [] (c13)).bind fun p14=>(cS p14.1 p14.2).bind fun s15=>(qaw qqu [.one (Cell.str s15)] []).bind fun r16=>cond (qab qobc r16) ((cB (qaa r16 0) 0).bind fun b17=>cond (!b17) (some ([.one (Cell.bool false)],[])) (qwu k m n (c6) i7 (IntKind.i64.wrap (i8+1)) i9 i10 i11 (c12))) none) ((qaw qdj [.one (Cell.int i9),.one (Cell.int 0),.one (Cell.int 9999)] []).bind fun r18=>cond (qab qtf r18) ((cB (qaa r18 0) 0).bind fun b19=>cond b19 ((qaw qdj [.one (Cell.int i10),.one (Cell.int 0),.one (Cell.int 9999)] []).bind fun r20=>cond (qab qtf r20) ((cB (qaa r20 0) 0).bind fun b21=>cond b21 ((qaw qdj [.one (Cell.int i11),.one (Cell.int 0),.one (Cell.int 9999)] []).bind fun r22=>cond (qab qtf r22) ((cB (qaa r22 0) 0).bind fun b23=>cond b23 ((lenC c12).bind fun n24=>some ([.one (Cell.bool (decide ((n24:Int)≤3)))],[])) (some ([.one (Cell.bool false)],[]))) none) (some ([.one (Cell.bool false)],[]))) none) (some ([.one (Cell.bool false)],[]))) none)
def fak (k m:Nat)(i1 i2 i3:Int)(c4:Cell):Option Res:=(lenC c4).bind fun n5=>qwu k m m (c4) (n5:Int) 0 i1 i2 i3 (c4)
abbrev qbpc (k m:Nat):TB:=evC qubb qld (evF qubb (k+1)) m (sub [1,0,1,2,3] qld.code) none
abbrev qcpc (k m:Nat):TK:=qav 0 (seqK (evC qubb qld (evF qubb (k+1)) m (sub [1,1] qld.code) none) (retK qubb qld))
theorem qujb (k m:Nat):∀ (n:Nat) (c6:Cell) (i7 i8 i9 i10 i11:Int) (c12:Cell),qbo (some [1,6,7,8]) (qbpc k m) (qcpc k m) n ⟨fT 35 0 [(1,.loc 1 0),(6,.av (.one (c6))),(7,.av (.one (Cell.int i7))),(8,.av (.one (Cell.int i8)))],fX 35 0 [(1,[Cell.int i9,Cell.int i10,Cell.int i11,c12])],[]⟩=qwu (k+1) m n c6 i7 i8 i9 i10 i11 c12:=by
 intro n
 induction n with
 | zero=>intros;rfl
 | succ n ih=>intros;simp only[qwu,← ih];kernel_rfl
theorem qekc (k m:Nat)(i1 i2 i3:Int)(c4:Cell):evC qubb qld (evF qubb (k+1)) m qld.code none (retK qubb qld) (enter qld [.agg [Cell.int i1,Cell.int i2,Cell.int i3,c4]] [])=fak (k+1) m i1 i2 i3 c4:=by
 simp only[fak,← qujb k m]
 kernel_rfl
theorem qmqb {i1 i2 i3:Int}{c4:Cell}{r:Res}(k:Nat)(h:fak (k+1) (k+1) i1 i2 i3 c4=some r):qlo [.agg [Cell.int i1,Cell.int i2,Cell.int i3,c4]] []=some r:=qap (k:=k+2) (Eq.trans (Eq.trans (by kernel_rfl) (qekc k (k+1) i1 i2 i3 c4)) h)
def qqjc:List (Nat×Run):=[(qtz,qlo),(qvj,qie),(qyrb,qyz)]
def qvvc:Ctx:=ctx qbg qbh qqjc
def qja:Run:=lim qvvc qcdb
theorem ok_fal:FnOk Tryz.prog OkT qcdb qja:=qan (l:=qqjc) qad tyTab_ok qae okT (.cons qmsc (.cons qloc (.cons ok_fdy .nil))) qcdb
def fal (k m:Nat)(i1 i2 i3:Int)(c4:Cell):Option Res:=(qaw qlo [.agg [Cell.int i1,Cell.int i2,Cell.int i3,c4]] []).bind fun r5=>cond (qab qgvc r5) ((cB (qaa r5 0) 0).bind fun b6=>cond (!b6) (some ([.one (Cell.str (bs []))],[])) ((qaw qie [.one (Cell.int i1)] []).bind fun r7=>cond (qab qjob r7) ((cS (qaa r7 0) 0).bind fun s8=>(catS s8 (bs [46])).bind fun s9=>(qaw qie [.one (Cell.int i2)] []).bind fun r10=>cond (qab qjob r10) ((cS (qaa r10 0) 0).bind fun s11=>(catS s9 s11).bind fun s12=>(catS s12 (bs [46])).bind fun s13=>(qaw qie [.one (Cell.int i3)] []).bind fun r14=>cond (qab qjob r14) ((cS (qaa r14 0) 0).bind fun s15=>(catS s13 s15).bind fun s16=>(lenC c4).bind fun n17=>cond (decide ((n17:Int) > 0)) ((qaw qyz [.one (c4),.one (Cell.str (bs [46]))] []).bind fun r18=>cond (qab quwc r18) ((cS (qaa r18 0) 0).bind fun s19=>(catS (bs [45]) s19).bind fun s20=>(catS s16 s20).bind fun s21=>some ([.one (Cell.str s21)],[])) none) (some ([.one (Cell.str s16)],[]))) none) none) none)) none
theorem qgec (k m:Nat)(i1 i2 i3:Int)(c4:Cell):evC qvvc qdfb (evF qvvc (k+1)) m qdfb.code none (retK qvvc qdfb) (enter qdfb [.agg [Cell.int i1,Cell.int i2,Cell.int i3,c4]] [])=fal (k+1) m i1 i2 i3 c4:=by
 kernel_rfl
theorem qiub {i1 i2 i3:Int}{c4:Cell}{r:Res}(k:Nat)(h:fal (k+1) (k+1) i1 i2 i3 c4=some r):qja [.agg [Cell.int i1,Cell.int i2,Cell.int i3,c4]] []=some r:=qap (k:=k+2) (Eq.trans (Eq.trans (by kernel_rfl) (qgec k (k+1) i1 i2 i3 c4)) h)
def qlic:List (Nat×Run):=[(qmv,qed),(qccb,qou),(qru,qht),(qcdb,qja)]
def qrbb:Ctx:=ctx qbg qbh qlic
def qgm:Run:=lim qrbb qqy
theorem qmlc:FnOk Tryz.prog OkT qqy qgm:=qan (l:=qlic) qad tyTab_ok qae okT (.cons qxgb (.cons ok_fdv (.cons qtmc (.cons ok_fal .nil)))) qqy
def qla (k m:Nat):Nat→ByteArray→ByteArray→Bool→Cell→Cell→Cell→Cell→Cell→Int→List Entry→Option Res | 0,_,_,_,_,_,_,_,_,_,_=>none | n+1,s9,s10,b11,c12,c13,c14,c15,c16,i17,H18=>cond (decide (i17 < 3)) (if 0≤i17∧i17 < 3 then ((cC [c14,c15,c16] (i17.toNat*1)).bind fun c19=>(idxA 1 (c12) i17).bind fun c20=>(deref H18 (c20)).bind fun p21=>(cS p21.1 p21.2).bind fun s22=>(qaw qht [.one (Cell.str s22),.one (Cell.int 9999)] H18).bind fun r23=>cond (qab qgxc r23) ((cI .i64 (qaa r23 0) 0).bind fun i24=>(cB (qaa r23 1) 0).bind fun b25=>cond (!b25) (some ([.agg [Cell.int 0,Cell.int 0,Cell.int 0,.lst true 1 []],.one (Cell.bool false)],H18)) ((ptrC c19).bind fun c26=>(qbt H18 (c26) [Cell.int i24]).bind fun h27=>qla k m n s9 s10 b11 (c12) (c13) (c14) (c15) (c16) (IntKind.i64.wrap (i17+1)) h27)) none) else none) (cond b11 ((qgu qed [.one (Cell.str s10),.one (Cell.str (bs [46]))] H18).bind fun r28=>cond (qab qdcb r28.1) ((cC (qaa r28.1 0) 0).bind fun c29=>(fldA c13 3).bind fun c30=>(qbt r28.2 (c30) [c29]).bind fun h31=>(deref h31 (c13)).bind fun p32=>(cI .i64 p32.1 p32.2).bind fun i33=>(cI .i64 p32.1 (p32.2+1)).bind fun i34=>(cI .i64 p32.1 ((p32.2+1)+1)).bind fun i35=>(cC p32.1 (((p32.2+1)+1)+1)).bind fun c36=>(qaw qja [.agg [Cell.int i33,Cell.int i34,Cell.int i35,c36]] h31).bind fun r37=>cond (qab qagc r37) ((cS (qaa r37 0) 0).bind fun s38=>cond (!(s38.toList==s9.toList)) (some ([.agg [Cell.int 0,Cell.int 0,Cell.int 0,.lst true 1 []],.one (Cell.bool false)],h31)) ((deref h31 (c13)).bind fun p39=>(cI .i64 p39.1 p39.2).bind fun i40=>(cI .i64 p39.1 (p39.2+1)).bind fun i41=>(cI .i64 p39.1 ((p39.2+1)+1)).bind fun i42=>(cC p39.1 (((p39.2+1)+1)+1)).bind fun c43=>some ([.agg [Cell.int i40,Cell.int i41,Cell.int i42,c43],.one (Cell.bool true)],h31))) none) none) ((deref H18 (c13)).bind fun p44=>(cI .i64 p44.1 p44.2).bind fun i45=>(cI .i64 p44.1 (p44.2+1)).bind fun i46=>(cI .i64 p44.1 ((p44.2+1)+1)).bind fun i47=>(cC p44.1 (((p44.2+1)+1)+1)).bind fun c48=>(qaw qja [.agg [Cell.int i45,Cell.int i46,Cell.int i47,c48]] H18).bind fun r49=>cond (qab qagc r49) ((cS (qaa r49 0) 0).bind fun s50=>cond (!(s50.toList==s9.toList)) (some ([.agg [Cell.int 0,Cell.int 0,Cell.int 0,.lst true 1 []],.one (Cell.bool false)],H18)) ((deref H18 (c13)).bind fun p51=>(cI .i64 p51.1 p51.2).bind fun i52=>(cI .i64 p51.1 (p51.2+1)).bind fun i53=>(cI .i64 p51.1 ((p51.2+1)+1)).bind fun i54=>(cC p51.1 (((p51.2+1)+1)+1)).bind fun c55=>some ([.agg [Cell.int i52,Cell.int i53,Cell.int i54,c55],.one (Cell.bool true)],H18))) none))
def fai (k m:Nat)(s1:ByteArray):Option Res:=(qaw qou [.one (Cell.str s1),.one (Cell.str (bs [45]))] []).bind fun r2=>cond (qab qlrc r2) ((cS (qaa r2 0) 0).bind fun s3=>(cS (qaa r2 1) 0).bind fun s4=>(cB (qaa r2 2) 0).bind fun b5=>(qgu qed [.one (Cell.str s3),.one (Cell.str (bs [46]))] []).bind fun r6=>cond (qab qdcb r6.1) ((cC (qaa r6.1 0) 0).bind fun c7=>(lenC c7).bind fun n8=>cond ((n8:Int) != 3) (some ([.agg [Cell.int 0,Cell.int 0,Cell.int 0,.lst true 1 []],.one (Cell.bool false)],r6.2)) (qla k m m s1 s4 b5 (c7) (.ptr r6.2.length 4 0 0 0) (.ptr r6.2.length 4 0 0 0) (.ptr r6.2.length 4 0 1 0) (.ptr r6.2.length 4 0 2 0) 0 (r6.2++[Entry.mk 4 [[Cell.int 0,Cell.int 0,Cell.int 0,.lst true 1 []]] 0 false]))) none) none
abbrev qetc (k m:Nat):TB:=evC qrbb qnl (evF qrbb (k+1)) m (sub [1,1,1,1,1,0,1,2,3] qnl.code) none
abbrev qdmc (k m:Nat):TK:=qav 0 (seqK (evC qrbb qnl (evF qrbb (k+1)) m (sub [1,1,1,1,1,1] qnl.code) none) (retK qrbb qnl))
theorem qsqb (k m:Nat):∀ (n:Nat) (s9 s10:ByteArray) (b11:Bool) (c12 c13 c14 c15 c16:Cell) (i17:Int) (H18:List Entry),qbo (some [0,2,5,6,7,8,28,29]) (qetc k m) (qdmc k m) n ⟨fT 58 0 [(0,.av (.one (Cell.str s9))),(2,.loc 2 0),(5,.av (.one (Cell.str s10))),(6,.av (.one (Cell.bool b11))),(7,.av (.one (c12))),(8,.av (.one (c13))),(28,.av (.agg [c14,c15,c16])),(29,.av (.one (Cell.int i17)))],fX 58 0 [(2,[Cell.int 0,Cell.int 0,Cell.int 0,.lst true 1 []])],H18⟩=qla (k+1) m n s9 s10 b11 c12 c13 c14 c15 c16 i17 H18:=by
 intro n
 induction n with
 | zero=>intros;rfl
 | succ n ih=>intros;simp only[qla,← ih];kernel_rfl
theorem qblc (k m:Nat)(s1:ByteArray):evC qrbb qnl (evF qrbb (k+1)) m qnl.code none (retK qrbb qnl) (enter qnl [.one (Cell.str s1)] [])=fai (k+1) m s1:=by
 simp only[fai,← qsqb k m]
 kernel_rfl
theorem qrh {s1:ByteArray}{r:Res}(k:Nat)(h:fai (k+1) (k+1) s1=some r):qgm [.one (Cell.str s1)] []=some r:=qap (k:=k+2) (Eq.trans (Eq.trans (by kernel_rfl) (qblc k (k+1) s1)) h)
def qntc:List (Nat×Run):=[]
def qwvc:Ctx:=ctx qbg qbh qntc
def qvf:Run:=lim qwvc qamb
theorem ok_fbk:FnOk Tryz.prog OkT qamb qvf:=qan (l:=qntc) qad tyTab_ok qae okT .nil qamb
def fbk (k m:Nat)(s1 s2:ByteArray):Option Res:=cond (decide ((s1.size:Int)≥(s2.size:Int))) ((subS s1 0 (s2.size:Int)).bind fun s3=>some ([.one (Cell.bool (s3.toList==s2.toList))],[])) (some ([.one (Cell.bool false)],[]))
theorem qdlc (k m:Nat)(s1 s2:ByteArray):evC qwvc qgjb (evF qwvc (k+1)) m qgjb.code none (retK qwvc qgjb) (enter qgjb [.one (Cell.str s1),.one (Cell.str s2)] [])=fbk (k+1) m s1 s2:=by
 kernel_rfl
theorem qlzb {s1 s2:ByteArray}{r:Res}(k:Nat)(h:fbk (k+1) (k+1) s1 s2=some r):qvf [.one (Cell.str s1),.one (Cell.str s2)] []=some r:=qap (k:=k+2) (Eq.trans (Eq.trans (by kernel_rfl) (qdlc k (k+1) s1 s2)) h)
def qofc:List (Nat×Run):=[(qamb,qvf)]
def qwyc:Ctx:=ctx qbg qbh qofc
def qtp:Run:=lim qwyc qayb
theorem ok_fbj:FnOk Tryz.prog OkT qayb qtp:=qan (l:=qofc) qad tyTab_ok qae okT (.cons ok_fbk .nil) qayb
def fbj (k m:Nat)(s1 s2:ByteArray):Option Res:=(qaw qvf [.one (Cell.str s1),.one (Cell.str s2)] []).bind fun r3=>cond (qab qrwc r3) ((cB (qaa r3 0) 0).bind fun b4=>cond (!b4) (some ([.one (Cell.str s1),.one (Cell.bool false)],[])) ((subS s1 (s2.size:Int) (s1.size:Int)).bind fun s5=>some ([.one (Cell.str s5),.one (Cell.bool true)],[]))) none
theorem qfyc (k m:Nat)(s1 s2:ByteArray):evC qwyc qekb (evF qwyc (k+1)) m qekb.code none (retK qwyc qekb) (enter qekb [.one (Cell.str s1),.one (Cell.str s2)] [])=fbj (k+1) m s1 s2:=by
 kernel_rfl
theorem qlrb {s1 s2:ByteArray}{r:Res}(k:Nat)(h:fbj (k+1) (k+1) s1 s2=some r):qtp [.one (Cell.str s1),.one (Cell.str s2)] []=some r:=qap (k:=k+2) (Eq.trans (Eq.trans (by kernel_rfl) (qfyc k (k+1) s1 s2)) h)
def qqhc:List (Nat×Run):=[(qayb,qtp)]
def qwhc:Ctx:=ctx qbg qbh qqhc
def qsv:Run:=lim qwhc qyt
theorem ok_fdw:FnOk Tryz.prog OkT qyt qsv:=qan (l:=qqhc) qad tyTab_ok qae okT (.cons ok_fbj .nil) qyt
def fdw (k m:Nat)(s1 s2:ByteArray):Option Res:=(qaw qtp [.one (Cell.str s1),.one (Cell.str s2)] []).bind fun r3=>cond (qab qosc r3) ((cS (qaa r3 0) 0).bind fun s4=>(cB (qaa r3 1) 0).bind fun b5=>some ([.one (Cell.str s4),.one (Cell.bool b5)],[])) none
theorem qbnc (k m:Nat)(s1 s2:ByteArray):evC qwhc qfvb (evF qwhc (k+1)) m qfvb.code none (retK qwhc qfvb) (enter qfvb [.one (Cell.str s1),.one (Cell.str s2)] [])=fdw (k+1) m s1 s2:=by
 kernel_rfl
theorem qhab {s1 s2:ByteArray}{r:Res}(k:Nat)(h:fdw (k+1) (k+1) s1 s2=some r):qsv [.one (Cell.str s1),.one (Cell.str s2)] []=some r:=qap (k:=k+2) (Eq.trans (Eq.trans (by kernel_rfl) (qbnc k (k+1) s1 s2)) h)
def qlxc:List (Nat×Run):=[(qmv,qed),(qqy,qgm),(qru,qht)]
def qawb:Ctx:=ctx qbg qbh qlxc
def qsr:Run:=lim qawb qzz
theorem ok_fbc:FnOk Tryz.prog OkT qzz qsr:=qan (l:=qlxc) qad tyTab_ok qae okT (.cons qxgb (.cons qmlc (.cons qtmc .nil))) qzz
def qle (k m:Nat):Nat→Int→Cell→Int→Int→Int→Int→List Entry→Option Res | 0,_,_,_,_,_,_,_=>none | n+1,i19,c20,i21,i22,i23,i24,H25=>cond (decide (i22 < i21)) ((idxA 1 (c20) i22).bind fun c26=>(deref H25 (c26)).bind fun p27=>(cS p27.1 p27.2).bind fun s28=>(qaw qht [.one (Cell.str s28),.one (Cell.int 9999)] H25).bind fun r29=>cond (qab qgxc r29) ((cI .i64 (qaa r29 0) 0).bind fun i30=>(cB (qaa r29 1) 0).bind fun b31=>cond (!b31) (some ([.agg [Cell.int 0,Cell.int 0,Cell.int 0,.lst true 1 []],.one (Cell.int 0),.one (Cell.bool false)],H25)) (if i22=1 then (qle k m n i19 (c20) i21 (IntKind.i64.wrap (i22+1)) i23 i30 H25) else if i22=0 then (qle k m n i19 (c20) i21 (IntKind.i64.wrap (i22+1)) i30 i24 H25) else none)) none) (some ([.agg [Cell.int i23,Cell.int i24,Cell.int 0,.lst true 1 []],.one (Cell.int i19),.one (Cell.bool true)],H25))
def qnu (k m:Nat):Nat→Cell→Int→List Entry→Option Res | 0,_,_,_=>none | n+1,c11,i12,H13=>cond (decide (i12 > 1)) ((idxA 1 (c11) (IntKind.i64.wrap (i12 - 1))).bind fun c14=>(deref H13 (c14)).bind fun p15=>(cS p15.1 p15.2).bind fun s16=>cond (s16.toList==(bs [120]).toList) (qnu k m n (c11) (IntKind.i64.wrap (i12 - 1)) H13) (cond (decide (i12 > 2)) (some ([.agg [Cell.int 0,Cell.int 0,Cell.int 0,.lst true 1 []],.one (Cell.int 0),.one (Cell.bool false)],H13)) ((slcC 1 (c11) 0 (some i12) none).bind fun c17=>(lenC c17).bind fun n18=>qle k m m i12 (c17) (n18:Int) 0 0 0 H13))) (cond (decide (i12 > 2)) (some ([.agg [Cell.int 0,Cell.int 0,Cell.int 0,.lst true 1 []],.one (Cell.int 0),.one (Cell.bool false)],H13)) ((slcC 1 (c11) 0 (some i12) none).bind fun c32=>(lenC c32).bind fun n33=>qle k m m i12 (c32) (n33:Int) 0 0 0 H13))
def fbc (k m:Nat)(s1:ByteArray):Option Res:=(qgu qgm [.one (Cell.str s1)] []).bind fun r2=>cond (qab qwhb r2.1) ((cI .i64 (qaa r2.1 0) 0).bind fun i3=>(cI .i64 (qaa r2.1 0) 1).bind fun i4=>(cI .i64 (qaa r2.1 0) 2).bind fun i5=>(cC (qaa r2.1 0) 3).bind fun c6=>(cB (qaa r2.1 1) 0).bind fun b7=>cond b7 (some ([.agg [Cell.int i3,Cell.int i4,Cell.int i5,c6],.one (Cell.int 3),.one (Cell.bool true)],r2.2)) ((qgu qed [.one (Cell.str s1),.one (Cell.str (bs [46]))] r2.2).bind fun r8=>cond (qab qdcb r8.1) ((cC (qaa r8.1 0) 0).bind fun c9=>(lenC c9).bind fun n10=>cond (decide ((n10:Int) > 3)) (some ([.agg [Cell.int 0,Cell.int 0,Cell.int 0,.lst true 1 []],.one (Cell.int 0),.one (Cell.bool false)],r8.2)) (qnu k m m (c9) (n10:Int) r8.2)) none)) none
abbrev qepc (k m:Nat):TB:=evC qawb qgj (evF qawb (k+1)) m (sub [1,1,1,1,1,0,2,3] qgj.code) none
abbrev qaac (k m:Nat):TK:=qav 0 (seqK (evC qawb qgj (evF qawb (k+1)) m (sub [1,1,1,1,1,1] qgj.code) none) (retK qawb qgj))
abbrev qbqc (k m:Nat):TB:=evC qawb qgj (evF qawb (k+1)) m (sub [1,1,1,1,1,1,1,1,0,1,2,3] qgj.code) none
abbrev qghc (k m:Nat):TK:=qav 2 (seqK (evC qawb qgj (evF qawb (k+1)) m (sub [1,1,1,1,1,1,1,1,1] qgj.code) none) (retK qawb qgj))
theorem qptb (k m:Nat):∀ (n:Nat) (i19:Int) (c20:Cell) (i21 i22 i23 i24:Int) (H25:List Entry),qbo (some [2,8,9,45,46,47]) (qbqc k m) (qghc k m) n ⟨fT 70 0 [(2,.loc 2 0),(8,.av (.one (Cell.int i19))),(9,.loc 9 0),(45,.av (.one (c20))),(46,.av (.one (Cell.int i21))),(47,.av (.one (Cell.int i22)))],fX 70 0 [(2,[Cell.int 0,Cell.int 0,Cell.int 0,.lst true 1 []]),(9,[Cell.int i23,Cell.int i24])],H25⟩=qle (k+1) m n i19 c20 i21 i22 i23 i24 H25:=by
 intro n
 induction n with
 | zero=>intros;rfl
 | succ n ih=>intros;simp only[qle,← ih];kernel_rfl
theorem qpab (k m:Nat):∀ (n:Nat) (c11:Cell) (i12:Int) (H13:List Entry),qbo (some [2,7,8]) (qepc k m) (qaac k m) n ⟨fT 70 0 [(2,.loc 2 0),(7,.av (.one (c11))),(8,.av (.one (Cell.int i12)))],fX 70 0 [(2,[Cell.int 0,Cell.int 0,Cell.int 0,.lst true 1 []])],H13⟩=qnu (k+1) m n c11 i12 H13:=by
 intro n
 induction n with
 | zero=>intros;rfl
 | succ n ih=>intros;simp only[qnu,← qptb k m,← ih];kernel_rfl
theorem qcuc (k m:Nat)(s1:ByteArray):evC qawb qgj (evF qawb (k+1)) m qgj.code none (retK qawb qgj) (enter qgj [.one (Cell.str s1)] [])=fbc (k+1) m s1:=by
 simp only[fbc,← qpab k m]
 kernel_rfl
theorem qkk {s1:ByteArray}{r:Res}(k:Nat)(h:fbc (k+1) (k+1) s1=some r):qsr [.one (Cell.str s1)] []=some r:=qap (k:=k+2) (Eq.trans (Eq.trans (by kernel_rfl) (qcuc k (k+1) s1)) h)
def qtbc:List (Nat×Run):=[]
def qvoc:Ctx:=ctx qbg qbh qtbc
def qid:Run:=lim qvoc qcpb
theorem ok_fbb:FnOk Tryz.prog OkT qcpb qid:=qan (l:=qtbc) qad tyTab_ok qae okT .nil qcpb
def fbb (k m:Nat)(i1 i2 i3:Int)(c4:Cell)(i5:Int):Option Res:=cond (i5==1) (some ([.agg [Cell.int (IntKind.i64.wrap (i1+1)),Cell.int 0,Cell.int 0,.lst true 1 []]],[])) (cond (i5==2) (some ([.agg [Cell.int i1,Cell.int (IntKind.i64.wrap (i2+1)),Cell.int 0,.lst true 1 []]],[])) (some ([.agg [Cell.int i1,Cell.int i2,Cell.int (IntKind.i64.wrap (i3+1)),.lst true 1 []]],[])))
theorem qjnc (k m:Nat)(i1 i2 i3:Int)(c4:Cell)(i5:Int):evC qvoc qexb (evF qvoc (k+1)) m qexb.code none (retK qvoc qexb) (enter qexb [.agg [Cell.int i1,Cell.int i2,Cell.int i3,c4],.one (Cell.int i5)] [])=fbb (k+1) m i1 i2 i3 c4 i5:=by
 kernel_rfl
theorem qva {i1 i2 i3:Int}{c4:Cell}{i5:Int}{r:Res}(k:Nat)(h:fbb (k+1) (k+1) i1 i2 i3 c4 i5=some r):qid [.agg [Cell.int i1,Cell.int i2,Cell.int i3,c4],.one (Cell.int i5)] []=some r:=qap (k:=k+2) (Eq.trans (Eq.trans (by kernel_rfl) (qjnc k (k+1) i1 i2 i3 c4 i5)) h)
def qquc:List (Nat×Run):=[]
def qwxc:Ctx:=ctx qbg qbh qquc
def qis:Run:=lim qwxc qyq
theorem ok_fan:FnOk Tryz.prog OkT qyq qis:=qan (l:=qquc) qad tyTab_ok qae okT .nil qyq
def fan (k m:Nat)(i1 i2 i3:Int)(c4:Cell):Option Res:=some ([.agg [Cell.int 1,Cell.int i1,Cell.int i2,Cell.int i3,.lst true 1 [[Cell.str (bs [48])]]]],[])
theorem qbwc (k m:Nat)(i1 i2 i3:Int)(c4:Cell):evC qwxc qfpb (evF qwxc (k+1)) m qfpb.code none (retK qwxc qfpb) (enter qfpb [.agg [Cell.int i1,Cell.int i2,Cell.int i3,c4]] [])=fan (k+1) m i1 i2 i3 c4:=by
 kernel_rfl
theorem qhvb {i1 i2 i3:Int}{c4:Cell}{r:Res}(k:Nat)(h:fan (k+1) (k+1) i1 i2 i3 c4=some r):qis [.agg [Cell.int i1,Cell.int i2,Cell.int i3,c4]] []=some r:=qap (k:=k+2) (Eq.trans (Eq.trans (by kernel_rfl) (qbwc k (k+1) i1 i2 i3 c4)) h)
def qpic:List (Nat×Run):=[]
def qvwc:Ctx:=ctx qbg qbh qpic
def qtq:Run:=lim qvwc qzu
theorem ok_fao:FnOk Tryz.prog OkT qzu qtq:=qan (l:=qpic) qad tyTab_ok qae okT .nil qzu
def fao (k m:Nat)(i1 i2 i3:Int)(c4:Cell)(i5:Int):Option Res:=cond (i1 != 0) (some ([.agg [Cell.int (IntKind.i64.wrap (i1+1)),Cell.int 0,Cell.int 0,.lst true 1 []]],[])) (cond (i5==1) (some ([.agg [Cell.int (IntKind.i64.wrap (i1+1)),Cell.int 0,Cell.int 0,.lst true 1 []]],[])) (cond (i2 != 0) (some ([.agg [Cell.int 0,Cell.int (IntKind.i64.wrap (i2+1)),Cell.int 0,.lst true 1 []]],[])) (cond (i5==2) (some ([.agg [Cell.int 0,Cell.int (IntKind.i64.wrap (i2+1)),Cell.int 0,.lst true 1 []]],[])) (some ([.agg [Cell.int 0,Cell.int 0,Cell.int (IntKind.i64.wrap (i3+1)),.lst true 1 []]],[])))))
theorem qfbc (k m:Nat)(i1 i2 i3:Int)(c4:Cell)(i5:Int):evC qvwc qdzb (evF qvwc (k+1)) m qdzb.code none (retK qvwc qdzb) (enter qdzb [.agg [Cell.int i1,Cell.int i2,Cell.int i3,c4],.one (Cell.int i5)] [])=fao (k+1) m i1 i2 i3 c4 i5:=by
 kernel_rfl
theorem qihb {i1 i2 i3:Int}{c4:Cell}{i5:Int}{r:Res}(k:Nat)(h:fao (k+1) (k+1) i1 i2 i3 c4 i5=some r):qtq [.agg [Cell.int i1,Cell.int i2,Cell.int i3,c4],.one (Cell.int i5)] []=some r:=qap (k:=k+2) (Eq.trans (Eq.trans (by kernel_rfl) (qfbc k (k+1) i1 i2 i3 c4 i5)) h)
end
end Go.Ev
