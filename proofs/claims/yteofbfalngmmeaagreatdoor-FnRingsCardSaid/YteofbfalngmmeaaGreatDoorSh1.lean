/- What the evaluator says of the functions, each as a Lean function over cells. Printed by a program of this claim. Conditions: none. -/
import Derived.Test.YteofbfalngmmeaaGreatDoorSh0
import Derived.KernelRfl
namespace Go.Ev
open Go Go.Proofs
noncomputable section
set_option maxRecDepth 100000
set_option linter.unusedVariables false
set_option linter.unusedSimpArgs false
def qaxd:List (Nat×Run):=[(qepc,qru),(qdpb,qejc),(qfcb,qfmc)]
def qffd:Ctx:=ctx qbi qbh qaxd
def qxi:Run:=lim qffd qfob
theorem ok_fcb:FnOk Tryz.prog OkT qfob qxi:=qao (l:=qaxd) qac tyTab_ok qad okT (.cons ok_fcc (.cons ok_fbv (.cons ok_fbw .nil))) qfob
def fcb (k m:Nat)(s1 s2:ByteArray):Option Res:=cond ((s2.size:Int)==0) (some ([.one (Cell.int 0)],[])) (cond (s2.toList==s1.toList) (some ([.one (Cell.int 0)],[])) (cond ((s2.size:Int)==1) ((bytS s2 0).bind fun i3=>(qbc qru [.one (Cell.str s1),.one (.sc (.int .u8 i3))] []).bind fun r4=>cond (qab qazd r4) ((cI .i64 (qaa r4 0) 0).bind fun i5=>some ([.one (Cell.int i5)],[])) none) (cond (decide ((s2.size:Int)≥(s1.size:Int))) (some ([.one (Cell.int (-1))],[])) (none))))
theorem qhfc (k m:Nat)(s1 s2:ByteArray):evC qffd qllb (evF qffd (k+1)) m qllb.code none (retK qffd qllb) (enter qllb [.one (Cell.str s1),.one (Cell.str s2)] [])=fcb (k+1) m s1 s2:=by
 kernel_rfl
theorem qrnb {s1 s2:ByteArray}{r:Res}(k:Nat)(h:fcb (k+1) (k+1) s1 s2=some r):qxi [.one (Cell.str s1),.one (Cell.str s2)] []=some r:=qap (k:=k+2) (Eq.trans (Eq.trans (by kernel_rfl) (qhfc k (k+1) s1 s2)) h)
def qcld:List (Nat×Run):=[(qfob,qxi)]
def qfkd:Ctx:=ctx qbi qbh qcld
def qyj:Run:=lim qfkd qgtb
theorem ok_fby:FnOk Tryz.prog OkT qgtb qyj:=qao (l:=qcld) qac tyTab_ok qad okT (.cons ok_fcb .nil) qgtb
def fby (k m:Nat)(s1 s2:ByteArray):Option Res:=(qbc qxi [.one (Cell.str s1),.one (Cell.str s2)] []).bind fun r3=>cond (qab qsnc r3) ((cI .i64 (qaa r3 0) 0).bind fun i4=>cond (decide (i4≥0)) ((subS s1 0 i4).bind fun s5=>(subS s1 (IntKind.i64.wrap (i4+(s2.size:Int))) (s1.size:Int)).bind fun s6=>some ([.one (Cell.str s5),.one (Cell.str s6),.one (Cell.bool true)],[])) (some ([.one (Cell.str s1),.one (Cell.str (bs [])),.one (Cell.bool false)],[]))) none
theorem qgsc (k m:Nat)(s1 s2:ByteArray):evC qfkd qhzb (evF qfkd (k+1)) m qhzb.code none (retK qfkd qhzb) (enter qhzb [.one (Cell.str s1),.one (Cell.str s2)] [])=fby (k+1) m s1 s2:=by
 kernel_rfl
theorem qpxb {s1 s2:ByteArray}{r:Res}(k:Nat)(h:fby (k+1) (k+1) s1 s2=some r):qyj [.one (Cell.str s1),.one (Cell.str s2)] []=some r:=qap (k:=k+2) (Eq.trans (Eq.trans (by kernel_rfl) (qgsc k (k+1) s1 s2)) h)
def qcvd:List (Nat×Run):=[(qgtb,qyj)]
def qdmd:Ctx:=ctx qbi qbh qcvd
def qrx:Run:=lim qdmd qghb
theorem ok_fee:FnOk Tryz.prog OkT qghb qrx:=qao (l:=qcvd) qac tyTab_ok qad okT (.cons ok_fby .nil) qghb
def fee (k m:Nat)(s1 s2:ByteArray):Option Res:=(qbc qyj [.one (Cell.str s1),.one (Cell.str s2)] []).bind fun r3=>cond (qab qcnd r3) ((cS (qaa r3 0) 0).bind fun s4=>(cS (qaa r3 1) 0).bind fun s5=>(cB (qaa r3 2) 0).bind fun b6=>some ([.one (Cell.str s4),.one (Cell.str s5),.one (Cell.bool b6)],[])) none
theorem qosc (k m:Nat)(s1 s2:ByteArray):evC qdmd qkyb (evF qdmd (k+1)) m qkyb.code none (retK qdmd qkyb) (enter qkyb [.one (Cell.str s1),.one (Cell.str s2)] [])=fee (k+1) m s1 s2:=by
 kernel_rfl
theorem qmyb {s1 s2:ByteArray}{r:Res}(k:Nat)(h:fee (k+1) (k+1) s1 s2=some r):qrx [.one (Cell.str s1),.one (Cell.str s2)] []=some r:=qap (k:=k+2) (Eq.trans (Eq.trans (by kernel_rfl) (qosc k (k+1) s1 s2)) h)
def qwqc:List (Nat×Run):=[(qeyc,qhbb)]
def qfed:Ctx:=ctx qbi qbh qwqc
def qiv:Run:=lim qfed qws
theorem qaud:FnOk Tryz.prog OkT qws qiv:=qao (l:=qwqc) qac tyTab_ok qad okT (.cons ok_fec .nil) qws
def faf (k m:Nat)(i1:Int):Option Res:=(qbc qhbb [.one (Cell.int (if i1 < 0 then 0 else i1))] []).bind fun r2=>cond (qab qbyd r2) ((cS (qaa r2 0) 0).bind fun s3=>some ([.one (Cell.str s3)],[])) none
theorem qlqc (k m:Nat)(i1:Int):evC qfed qhyb (evF qfed (k+1)) m qhyb.code none (retK qfed qhyb) (enter qhyb [.one (Cell.int i1)] [])=faf (k+1) m i1:=by
 kernel_rfl
theorem qqhb {i1:Int}{r:Res}(k:Nat)(h:faf (k+1) (k+1) i1=some r):qiv [.one (Cell.int i1)] []=some r:=qap (k:=k+2) (Eq.trans (Eq.trans (by kernel_rfl) (qlqc k (k+1) i1)) h)
def qypc:List (Nat×Run):=[(qln,qes),(qop,qge),(qws,qiv)]
def qtvb:Ctx:=ctx qbi qbh qypc
def qje:Run:=lim qtvb qxf
theorem qzhc:FnOk Tryz.prog OkT qxf qje:=qao (l:=qypc) qac tyTab_ok qad okT (.cons qqfb (.cons qxob (.cons qaud .nil))) qxf
def qawb (k m:Nat):Nat→ByteArray→Int→Int→Int→Option Res | 0,_,_,_,_=>none | n+1,s5,i6,i7,i8=>cond (decide (i8 < (s5.size:Int))) ((bytS s5 i8).bind fun i9=>(qbc qge [.one (.sc (.int .u8 i9))] []).bind fun r10=>cond (qab qjeb r10) ((cB (qaa r10 0) 0).bind fun b11=>cond (!b11) (some ([.one (Cell.int 0),.one (Cell.bool false)],[])) ((bytS s5 i8).bind fun i12=>qawb k m n s5 i6 (IntKind.i64.wrap ((IntKind.i64.wrap (i7*10))+(IntKind.i64.wrap (IntKind.u8.wrap (i12 - 48))))) (IntKind.i64.wrap (i8+1)))) none) ((qbc qiv [.one (Cell.int i7)] []).bind fun r13=>cond (qab qmtb r13) ((cS (qaa r13 0) 0).bind fun s14=>cond (!(s14.toList==s5.toList)) (some ([.one (Cell.int 0),.one (Cell.bool false)],[])) (cond (decide (i7 > i6)) (some ([.one (Cell.int 0),.one (Cell.bool false)],[])) (some ([.one (Cell.int i7),.one (Cell.bool true)],[])))) none)
def faj (k m:Nat)(s1:ByteArray)(i2:Int):Option Res:=(qbc qes [.one (Cell.int (s1.size:Int)),.one (Cell.int 1),.one (Cell.int 7)] []).bind fun r3=>cond (qab qzy r3) ((cB (qaa r3 0) 0).bind fun b4=>cond (!b4) (some ([.one (Cell.int 0),.one (Cell.bool false)],[])) (qawb k m m s1 i2 0 0)) none
abbrev qglc (k m:Nat):TB:=evC qtvb qpk (evF qtvb (k+1)) m (sub [1,1,1,0,1,2,3] qpk.code) none
abbrev qorc (k m:Nat):TK:=qaw 0 (seqK (evC qtvb qpk (evF qtvb (k+1)) m (sub [1,1,1,1] qpk.code) none) (retK qtvb qpk))
theorem qzdb (k m:Nat):∀ (n:Nat) (s5:ByteArray) (i6 i7 i8:Int),qbj (some [0,1,6,7]) (qglc k m) (qorc k m) n ⟨fT 41 0 [(0,.av (.one (Cell.str s5))),(1,.av (.one (Cell.int i6))),(6,.av (.one (Cell.int i7))),(7,.av (.one (Cell.int i8)))],fX 41 0 [],[]⟩=qawb (k+1) m n s5 i6 i7 i8:=by
 intro n
 induction n with
 | zero=>intros;rfl
 | succ n ih=>intros;simp only[qawb,← ih];kernel_rfl
theorem qgwc (k m:Nat)(s1:ByteArray)(i2:Int):evC qtvb qpk (evF qtvb (k+1)) m qpk.code none (retK qtvb qpk) (enter qpk [.one (Cell.str s1),.one (Cell.int i2)] [])=faj (k+1) m s1 i2:=by
 simp only[faj,← qzdb k m]
 kernel_rfl
theorem qzm {s1:ByteArray}{i2:Int}{r:Res}(k:Nat)(h:faj (k+1) (k+1) s1 i2=some r):qje [.one (Cell.str s1),.one (Cell.int i2)] []=some r:=qap (k:=k+2) (Eq.trans (Eq.trans (by kernel_rfl) (qgwc k (k+1) s1 i2)) h)
def qzic:List (Nat×Run):=[(qop,qge)]
def qwvb:Ctx:=ctx qbi qbh qzic
def qxd:Run:=lim qwvb qebb
theorem ok_fbk:FnOk Tryz.prog OkT qebb qxd:=qao (l:=qzic) qac tyTab_ok qad okT (.cons qxob .nil) qebb
def qbib (k m:Nat):Nat→ByteArray→Int→Option Res | 0,_,_=>none | n+1,s2,i3=>cond (decide (i3 < (s2.size:Int))) ((bytS s2 i3).bind fun i4=>(qbc qge [.one (.sc (.int .u8 i4))] []).bind fun r5=>cond (qab qjeb r5) ((cB (qaa r5 0) 0).bind fun b6=>cond (!b6) (some ([.one (Cell.bool false)],[])) (qbib k m n s2 (IntKind.i64.wrap (i3+1)))) none) (some ([.one (Cell.bool (!(s2.toList==(bs []).toList)))],[]))
def fbk (k m:Nat)(s1:ByteArray):Option Res:=qbib k m m s1 0
abbrev qicc (k m:Nat):TB:=evC qwvb qoh (evF qwvb (k+1)) m (sub [1,0,1,2,3] qoh.code) none
abbrev qooc (k m:Nat):TK:=qaw 0 (seqK (evC qwvb qoh (evF qwvb (k+1)) m (sub [1,1] qoh.code) none) (retK qwvb qoh))
theorem qzcb (k m:Nat):∀ (n:Nat) (s2:ByteArray) (i3:Int),qbj (some [0,3]) (qicc k m) (qooc k m) n ⟨fT 17 0 [(0,.av (.one (Cell.str s2))),(3,.av (.one (Cell.int i3)))],fX 17 0 [],[]⟩=qbib (k+1) m n s2 i3:=by
 intro n
 induction n with
 | zero=>intros;rfl
 | succ n ih=>intros;simp only[qbib,← ih];kernel_rfl
theorem qgnc (k m:Nat)(s1:ByteArray):evC qwvb qoh (evF qwvb (k+1)) m qoh.code none (retK qwvb qoh) (enter qoh [.one (Cell.str s1)] [])=fbk (k+1) m s1:=by
 simp only[fbk,← qzcb k m]
 kernel_rfl
theorem qsjb {s1:ByteArray}{r:Res}(k:Nat)(h:fbk (k+1) (k+1) s1=some r):qxd [.one (Cell.str s1)] []=some r:=qap (k:=k+2) (Eq.trans (Eq.trans (by kernel_rfl) (qgnc k (k+1) s1)) h)
def qzgc:List (Nat×Run):=[(qln,qes),(qvm,qoc),(qop,qge),(qebb,qxd)]
def qtub:Ctx:=ctx qbi qbh qzgc
def qyg:Run:=lim qtub qfzb
theorem ok_fbt:FnOk Tryz.prog OkT qfzb qyg:=qao (l:=qzgc) qac tyTab_ok qad okT (.cons qqfb (.cons qczd (.cons qxob (.cons ok_fbk .nil)))) qfzb
def qlt (k m:Nat):Nat→ByteArray→Int→Option Res | 0,_,_=>none | n+1,s2,i3=>cond (decide (i3 < (s2.size:Int))) ((bytS s2 i3).bind fun i4=>(qbc qoc [.one (.sc (.int .u8 i4))] []).bind fun r5=>cond (qab qlnc r5) ((cB (qaa r5 0) 0).bind fun b6=>cond (!b6) (cond (decide (i4≥65)) (cond (!(decide (i4≤90))) ((qbc qge [.one (.sc (.int .u8 i4))] []).bind fun r7=>cond (qab qjeb r7) ((cB (qaa r7 0) 0).bind fun b8=>cond (!b8) (cond (i4 != 45) (some ([.one (Cell.bool false)],[])) (qlt k m n s2 (IntKind.i64.wrap (i3+1)))) (qlt k m n s2 (IntKind.i64.wrap (i3+1)))) none) (qlt k m n s2 (IntKind.i64.wrap (i3+1)))) ((qbc qge [.one (.sc (.int .u8 i4))] []).bind fun r9=>cond (qab qjeb r9) ((cB (qaa r9 0) 0).bind fun b10=>cond (!b10) (cond (i4 != 45) (some ([.one (Cell.bool false)],[])) (qlt k m n s2 (IntKind.i64.wrap (i3+1)))) (qlt k m n s2 (IntKind.i64.wrap (i3+1)))) none)) (qlt k m n s2 (IntKind.i64.wrap (i3+1)))) none) ((qbc qes [.one (Cell.int (s2.size:Int)),.one (Cell.int 1),.one (Cell.int 8)] []).bind fun r11=>cond (qab qzy r11) ((cB (qaa r11 0) 0).bind fun b12=>cond b12 ((qbc qxd [.one (Cell.str s2)] []).bind fun r13=>cond (qab qtsc r13) ((cB (qaa r13 0) 0).bind fun b14=>cond (!b14) (some ([.one (Cell.bool true)],[])) (cond (s2.toList==(bs [48]).toList) (some ([.one (Cell.bool true)],[])) ((bytS s2 0).bind fun i15=>some ([.one (Cell.bool (i15 != 48))],[])))) none) (some ([.one (Cell.bool false)],[]))) none)
def fbt (k m:Nat)(s1:ByteArray):Option Res:=qlt k m m s1 0
abbrev qhhc (k m:Nat):TB:=evC qtub qpe (evF qtub (k+1)) m (sub [1,0,1,2,3] qpe.code) none
abbrev qrtc (k m:Nat):TK:=qaw 0 (seqK (evC qtub qpe (evF qtub (k+1)) m (sub [1,1] qpe.code) none) (retK qtub qpe))
theorem qxwb (k m:Nat):∀ (n:Nat) (s2:ByteArray) (i3:Int),qbj (some [0,3]) (qhhc k m) (qrtc k m) n ⟨fT 52 0 [(0,.av (.one (Cell.str s2))),(3,.av (.one (Cell.int i3)))],fX 52 0 [],[]⟩=qlt (k+1) m n s2 i3:=by
 intro n
 induction n with
 | zero=>intros;rfl
 | succ n ih=>intros;simp only[qlt,← ih];kernel_rfl
theorem qioc (k m:Nat)(s1:ByteArray):evC qtub qpe (evF qtub (k+1)) m qpe.code none (retK qtub qpe) (enter qpe [.one (Cell.str s1)] [])=fbt (k+1) m s1:=by
 simp only[fbt,← qxwb k m]
 kernel_rfl
theorem qpsb {s1:ByteArray}{r:Res}(k:Nat)(h:fbt (k+1) (k+1) s1=some r):qyg [.one (Cell.str s1)] []=some r:=qap (k:=k+2) (Eq.trans (Eq.trans (by kernel_rfl) (qioc k (k+1) s1)) h)
def qdfd:List (Nat×Run):=[(qln,qes),(qfzb,qyg)]
def qyeb:Ctx:=ctx qbi qbh qdfd
def qqc:Run:=lim qyeb quq
theorem qtkc:FnOk Tryz.prog OkT quq qqc:=qao (l:=qdfd) qac tyTab_ok qad okT (.cons qqfb (.cons ok_fbt .nil)) quq
def qaob (k m:Nat):Nat→Cell→Int→Int→Int→Int→Int→Cell→Option Res | 0,_,_,_,_,_,_,_=>none | n+1,c6,i7,i8,i9,i10,i11,c12=>cond (decide (i8 < i7)) ((idxA 1 (c6) i8).bind fun c13=>(deref [] (c13)).bind fun p14=>(cS p14.1 p14.2).bind fun s15=>(qbc qyg [.one (Cell.str s15)] []).bind fun r16=>cond (qab qzfc r16) ((cB (qaa r16 0) 0).bind fun b17=>cond (!b17) (some ([.one (Cell.bool false)],[])) (qaob k m n (c6) i7 (IntKind.i64.wrap (i8+1)) i9 i10 i11 (c12))) none) ((qbc qes [.one (Cell.int i9),.one (Cell.int 0),.one (Cell.int 9999)] []).bind fun r18=>cond (qab qzy r18) ((cB (qaa r18 0) 0).bind fun b19=>cond b19 ((qbc qes [.one (Cell.int i10),.one (Cell.int 0),.one (Cell.int 9999)] []).bind fun r20=>cond (qab qzy r20) ((cB (qaa r20 0) 0).bind fun b21=>cond b21 ((qbc qes [.one (Cell.int i11),.one (Cell.int 0),.one (Cell.int 9999)] []).bind fun r22=>cond (qab qzy r22) ((cB (qaa r22 0) 0).bind fun b23=>cond b23 ((lenC c12).bind fun n24=>some ([.one (Cell.bool (decide ((n24:Int)≤3)))],[])) (some ([.one (Cell.bool false)],[]))) none) (some ([.one (Cell.bool false)],[]))) none) (some ([.one (Cell.bool false)],[]))) none)
def faq (k m:Nat)(i1 i2 i3:Int)(c4:Cell):Option Res:=(lenC c4).bind fun n5=>qaob k m m (c4) (n5:Int) 0 i1 i2 i3 (c4)
abbrev qllc (k m:Nat):TB:=evC qyeb qnj (evF qyeb (k+1)) m (sub [1,0,1,2,3] qnj.code) none
abbrev qnsc (k m:Nat):TK:=qaw 0 (seqK (evC qyeb qnj (evF qyeb (k+1)) m (sub [1,1] qnj.code) none) (retK qyeb qnj))
theorem qbfc (k m:Nat):∀ (n:Nat) (c6:Cell) (i7 i8 i9 i10 i11:Int) (c12:Cell),qbj (some [1,6,7,8]) (qllc k m) (qnsc k m) n ⟨fT 35 0 [(1,.loc 1 0),(6,.av (.one (c6))),(7,.av (.one (Cell.int i7))),(8,.av (.one (Cell.int i8)))],fX 35 0 [(1,[Cell.int i9,Cell.int i10,Cell.int i11,c12])],[]⟩=qaob (k+1) m n c6 i7 i8 i9 i10 i11 c12:=by
 intro n
 induction n with
 | zero=>intros;rfl
 | succ n ih=>intros;simp only[qaob,← ih];kernel_rfl
theorem qihc (k m:Nat)(i1 i2 i3:Int)(c4:Cell):evC qyeb qnj (evF qyeb (k+1)) m qnj.code none (retK qyeb qnj) (enter qnj [.agg [Cell.int i1,Cell.int i2,Cell.int i3,c4]] [])=faq (k+1) m i1 i2 i3 c4:=by
 simp only[faq,← qbfc k m]
 kernel_rfl
theorem qmlb {i1 i2 i3:Int}{c4:Cell}{r:Res}(k:Nat)(h:faq (k+1) (k+1) i1 i2 i3 c4=some r):qqc [.agg [Cell.int i1,Cell.int i2,Cell.int i3,c4]] []=some r:=qap (k:=k+2) (Eq.trans (Eq.trans (by kernel_rfl) (qihc k (k+1) i1 i2 i3 c4)) h)
def qzmc:List (Nat×Run):=[(quq,qqc),(qws,qiv),(qedc,qdab)]
def qdud:Ctx:=ctx qbi qbh qzmc
def qlk:Run:=lim qdud qgeb
theorem ok_fas:FnOk Tryz.prog OkT qgeb qlk:=qao (l:=qzmc) qac tyTab_ok qad okT (.cons qtkc (.cons qaud (.cons ok_feh .nil))) qgeb
def fas (k m:Nat)(i1 i2 i3:Int)(c4:Cell):Option Res:=(qbc qqc [.agg [Cell.int i1,Cell.int i2,Cell.int i3,c4]] []).bind fun r5=>cond (qab qisc r5) ((cB (qaa r5 0) 0).bind fun b6=>cond (!b6) (some ([.one (Cell.str (bs []))],[])) ((qbc qiv [.one (Cell.int i1)] []).bind fun r7=>cond (qab qmtb r7) ((cS (qaa r7 0) 0).bind fun s8=>(catS s8 (bs [46])).bind fun s9=>(qbc qiv [.one (Cell.int i2)] []).bind fun r10=>cond (qab qmtb r10) ((cS (qaa r10 0) 0).bind fun s11=>(catS s9 s11).bind fun s12=>(catS s12 (bs [46])).bind fun s13=>(qbc qiv [.one (Cell.int i3)] []).bind fun r14=>cond (qab qmtb r14) ((cS (qaa r14 0) 0).bind fun s15=>(catS s13 s15).bind fun s16=>(lenC c4).bind fun n17=>cond (decide ((n17:Int) > 0)) ((qbc qdab [.one (c4),.one (Cell.str (bs [46]))] []).bind fun r18=>cond (qab qzec r18) ((cS (qaa r18 0) 0).bind fun s19=>(catS (bs [45]) s19).bind fun s20=>(catS s16 s20).bind fun s21=>some ([.one (Cell.str s21)],[])) none) (some ([.one (Cell.str s16)],[]))) none) none) none)) none
theorem qnxc (k m:Nat)(i1 i2 i3:Int)(c4:Cell):evC qdud qiab (evF qdud (k+1)) m qiab.code none (retK qdud qiab) (enter qiab [.agg [Cell.int i1,Cell.int i2,Cell.int i3,c4]] [])=fas (k+1) m i1 i2 i3 c4:=by
 kernel_rfl
theorem qmeb {i1 i2 i3:Int}{c4:Cell}{r:Res}(k:Nat)(h:fas (k+1) (k+1) i1 i2 i3 c4=some r):qlk [.agg [Cell.int i1,Cell.int i2,Cell.int i3,c4]] []=some r:=qap (k:=k+2) (Eq.trans (Eq.trans (by kernel_rfl) (qnxc k (k+1) i1 i2 i3 c4)) h)
def qaqd:List (Nat×Run):=[(qqd,qfu),(qghb,qrx),(qxf,qje),(qgeb,qlk)]
def qveb:Ctx:=ctx qbi qbh qaqd
def qia:Run:=lim qveb qxm
theorem qavd:FnOk Tryz.prog OkT qxm qia:=qao (l:=qaqd) qac tyTab_ok qad okT (.cons qvtb (.cons ok_fee (.cons qzhc (.cons ok_fas .nil)))) qxm
def qni (k m:Nat):Nat→ByteArray→ByteArray→Bool→Cell→Cell→Cell→Cell→Cell→Int→List Entry→Option Res | 0,_,_,_,_,_,_,_,_,_,_=>none | n+1,s9,s10,b11,c12,c13,c14,c15,c16,i17,H18=>cond (decide (i17 < 3)) (if 0≤i17∧i17 < 3 then ((cC [c14,c15,c16] (i17.toNat*1)).bind fun c19=>(idxA 1 (c12) i17).bind fun c20=>(deref H18 (c20)).bind fun p21=>(cS p21.1 p21.2).bind fun s22=>(qbc qje [.one (Cell.str s22),.one (Cell.int 9999)] H18).bind fun r23=>cond (qab qptc r23) ((cI .i64 (qaa r23 0) 0).bind fun i24=>(cB (qaa r23 1) 0).bind fun b25=>cond (!b25) (some ([.agg [Cell.int 0,Cell.int 0,Cell.int 0,.lst true 1 []],.one (Cell.bool false)],H18)) ((ptrC c19).bind fun c26=>(qbu H18 (c26) [Cell.int i24]).bind fun h27=>qni k m n s9 s10 b11 (c12) (c13) (c14) (c15) (c16) (IntKind.i64.wrap (i17+1)) h27)) none) else none) (cond b11 ((qfd qfu [.one (Cell.str s10),.one (Cell.str (bs [46]))] H18).bind fun r28=>cond (qab qirb r28.1) ((cC (qaa r28.1 0) 0).bind fun c29=>(fldA c13 3).bind fun c30=>(qbu r28.2 (c30) [c29]).bind fun h31=>(deref h31 (c13)).bind fun p32=>(cI .i64 p32.1 p32.2).bind fun i33=>(cI .i64 p32.1 (p32.2+1)).bind fun i34=>(cI .i64 p32.1 ((p32.2+1)+1)).bind fun i35=>(cC p32.1 (((p32.2+1)+1)+1)).bind fun c36=>(qbc qlk [.agg [Cell.int i33,Cell.int i34,Cell.int i35,c36]] h31).bind fun r37=>cond (qab qpec r37) ((cS (qaa r37 0) 0).bind fun s38=>cond (!(s38.toList==s9.toList)) (some ([.agg [Cell.int 0,Cell.int 0,Cell.int 0,.lst true 1 []],.one (Cell.bool false)],h31)) ((deref h31 (c13)).bind fun p39=>(cI .i64 p39.1 p39.2).bind fun i40=>(cI .i64 p39.1 (p39.2+1)).bind fun i41=>(cI .i64 p39.1 ((p39.2+1)+1)).bind fun i42=>(cC p39.1 (((p39.2+1)+1)+1)).bind fun c43=>some ([.agg [Cell.int i40,Cell.int i41,Cell.int i42,c43],.one (Cell.bool true)],h31))) none) none) ((deref H18 (c13)).bind fun p44=>(cI .i64 p44.1 p44.2).bind fun i45=>(cI .i64 p44.1 (p44.2+1)).bind fun i46=>(cI .i64 p44.1 ((p44.2+1)+1)).bind fun i47=>(cC p44.1 (((p44.2+1)+1)+1)).bind fun c48=>(qbc qlk [.agg [Cell.int i45,Cell.int i46,Cell.int i47,c48]] H18).bind fun r49=>cond (qab qpec r49) ((cS (qaa r49 0) 0).bind fun s50=>cond (!(s50.toList==s9.toList)) (some ([.agg [Cell.int 0,Cell.int 0,Cell.int 0,.lst true 1 []],.one (Cell.bool false)],H18)) ((deref H18 (c13)).bind fun p51=>(cI .i64 p51.1 p51.2).bind fun i52=>(cI .i64 p51.1 (p51.2+1)).bind fun i53=>(cI .i64 p51.1 ((p51.2+1)+1)).bind fun i54=>(cC p51.1 (((p51.2+1)+1)+1)).bind fun c55=>some ([.agg [Cell.int i52,Cell.int i53,Cell.int i54,c55],.one (Cell.bool true)],H18))) none))
def fal (k m:Nat)(s1:ByteArray):Option Res:=(qbc qrx [.one (Cell.str s1),.one (Cell.str (bs [45]))] []).bind fun r2=>cond (qab qvwc r2) ((cS (qaa r2 0) 0).bind fun s3=>(cS (qaa r2 1) 0).bind fun s4=>(cB (qaa r2 2) 0).bind fun b5=>(qfd qfu [.one (Cell.str s3),.one (Cell.str (bs [46]))] []).bind fun r6=>cond (qab qirb r6.1) ((cC (qaa r6.1 0) 0).bind fun c7=>(lenC c7).bind fun n8=>cond ((n8:Int) != 3) (some ([.agg [Cell.int 0,Cell.int 0,Cell.int 0,.lst true 1 []],.one (Cell.bool false)],r6.2)) (qni k m m s1 s4 b5 (c7) (.ptr r6.2.length 4 0 0 0) (.ptr r6.2.length 4 0 0 0) (.ptr r6.2.length 4 0 1 0) (.ptr r6.2.length 4 0 2 0) 0 (r6.2++[Entry.mk 4 [[Cell.int 0,Cell.int 0,Cell.int 0,.lst true 1 []]] 0 false]))) none) none
abbrev qjfc (k m:Nat):TB:=evC qveb qng (evF qveb (k+1)) m (sub [1,1,1,1,1,0,1,2,3] qng.code) none
abbrev qkuc (k m:Nat):TK:=qaw 0 (seqK (evC qveb qng (evF qveb (k+1)) m (sub [1,1,1,1,1,1] qng.code) none) (retK qveb qng))
theorem qddc (k m:Nat):∀ (n:Nat) (s9 s10:ByteArray) (b11:Bool) (c12 c13 c14 c15 c16:Cell) (i17:Int) (H18:List Entry),qbj (some [0,2,5,6,7,8,28,29]) (qjfc k m) (qkuc k m) n ⟨fT 58 0 [(0,.av (.one (Cell.str s9))),(2,.loc 2 0),(5,.av (.one (Cell.str s10))),(6,.av (.one (Cell.bool b11))),(7,.av (.one (c12))),(8,.av (.one (c13))),(28,.av (.agg [c14,c15,c16])),(29,.av (.one (Cell.int i17)))],fX 58 0 [(2,[Cell.int 0,Cell.int 0,Cell.int 0,.lst true 1 []])],H18⟩=qni (k+1) m n s9 s10 b11 c12 c13 c14 c15 c16 i17 H18:=by
 intro n
 induction n with
 | zero=>intros;rfl
 | succ n ih=>intros;simp only[qni,← ih];kernel_rfl
theorem qksc (k m:Nat)(s1:ByteArray):evC qveb qng (evF qveb (k+1)) m qng.code none (retK qveb qng) (enter qng [.one (Cell.str s1)] [])=fal (k+1) m s1:=by
 simp only[fal,← qddc k m]
 kernel_rfl
theorem qzl {s1:ByteArray}{r:Res}(k:Nat)(h:fal (k+1) (k+1) s1=some r):qia [.one (Cell.str s1)] []=some r:=qap (k:=k+2) (Eq.trans (Eq.trans (by kernel_rfl) (qksc k (k+1) s1)) h)
def qvhc:List (Nat×Run):=[]
def qfod:Ctx:=ctx qbi qbh qvhc
def qzq:Run:=lim qfod qgbb
theorem ok_fca:FnOk Tryz.prog OkT qgbb qzq:=qao (l:=qvhc) qac tyTab_ok qad okT .nil qgbb
def fca (k m:Nat)(s1 s2:ByteArray):Option Res:=cond (decide ((s1.size:Int)≥(s2.size:Int))) ((subS s1 0 (s2.size:Int)).bind fun s3=>some ([.one (Cell.bool (s3.toList==s2.toList))],[])) (some ([.one (Cell.bool false)],[]))
theorem qqwc (k m:Nat)(s1 s2:ByteArray):evC qfod qiub (evF qfod (k+1)) m qiub.code none (retK qfod qiub) (enter qiub [.one (Cell.str s1),.one (Cell.str s2)] [])=fca (k+1) m s1 s2:=by
 kernel_rfl
theorem qrob {s1 s2:ByteArray}{r:Res}(k:Nat)(h:fca (k+1) (k+1) s1 s2=some r):qzq [.one (Cell.str s1),.one (Cell.str s2)] []=some r:=qap (k:=k+2) (Eq.trans (Eq.trans (by kernel_rfl) (qqwc k (k+1) s1 s2)) h)
def quqc:List (Nat×Run):=[(qgbb,qzq)]
def qeid:Ctx:=ctx qbi qbh quqc
def qxy:Run:=lim qeid qesb
theorem ok_fbz:FnOk Tryz.prog OkT qesb qxy:=qao (l:=quqc) qac tyTab_ok qad okT (.cons ok_fca .nil) qesb
def fbz (k m:Nat)(s1 s2:ByteArray):Option Res:=(qbc qzq [.one (Cell.str s1),.one (Cell.str s2)] []).bind fun r3=>cond (qab qtxc r3) ((cB (qaa r3 0) 0).bind fun b4=>cond (!b4) (some ([.one (Cell.str s1),.one (Cell.bool false)],[])) ((subS s1 (s2.size:Int) (s1.size:Int)).bind fun s5=>some ([.one (Cell.str s5),.one (Cell.bool true)],[]))) none
theorem qpnc (k m:Nat)(s1 s2:ByteArray):evC qeid qitb (evF qeid (k+1)) m qitb.code none (retK qeid qitb) (enter qitb [.one (Cell.str s1),.one (Cell.str s2)] [])=fbz (k+1) m s1 s2:=by
 kernel_rfl
theorem qmqb {s1 s2:ByteArray}{r:Res}(k:Nat)(h:fbz (k+1) (k+1) s1 s2=some r):qxy [.one (Cell.str s1),.one (Cell.str s2)] []=some r:=qap (k:=k+2) (Eq.trans (Eq.trans (by kernel_rfl) (qpnc k (k+1) s1 s2)) h)
def qthc:List (Nat×Run):=[(qesb,qxy)]
def qfdd:Ctx:=ctx qbi qbh qthc
def qzx:Run:=lim qfdd qdvb
theorem ok_fef:FnOk Tryz.prog OkT qdvb qzx:=qao (l:=qthc) qac tyTab_ok qad okT (.cons ok_fbz .nil) qdvb
def fef (k m:Nat)(s1 s2:ByteArray):Option Res:=(qbc qxy [.one (Cell.str s1),.one (Cell.str s2)] []).bind fun r3=>cond (qab qtec r3) ((cS (qaa r3 0) 0).bind fun s4=>(cB (qaa r3 1) 0).bind fun b5=>some ([.one (Cell.str s4),.one (Cell.bool b5)],[])) none
theorem qjgc (k m:Nat)(s1 s2:ByteArray):evC qfdd qlnb (evF qfdd (k+1)) m qlnb.code none (retK qfdd qlnb) (enter qlnb [.one (Cell.str s1),.one (Cell.str s2)] [])=fef (k+1) m s1 s2:=by
 kernel_rfl
theorem qnmb {s1 s2:ByteArray}{r:Res}(k:Nat)(h:fef (k+1) (k+1) s1 s2=some r):qzx [.one (Cell.str s1),.one (Cell.str s2)] []=some r:=qap (k:=k+2) (Eq.trans (Eq.trans (by kernel_rfl) (qjgc k (k+1) s1 s2)) h)
def qbsd:List (Nat×Run):=[(qqd,qfu),(qxm,qia),(qxf,qje)]
def qgnb:Ctx:=ctx qbi qbh qbsd
def qxo:Run:=lim qgnb qfqb
theorem ok_fbs:FnOk Tryz.prog OkT qfqb qxo:=qao (l:=qbsd) qac tyTab_ok qad okT (.cons qvtb (.cons qavd (.cons qzhc .nil))) qfqb
def qow (k m:Nat):Nat→Int→Cell→Int→Int→Int→Int→List Entry→Option Res | 0,_,_,_,_,_,_,_=>none | n+1,i19,c20,i21,i22,i23,i24,H25=>cond (decide (i22 < i21)) ((idxA 1 (c20) i22).bind fun c26=>(deref H25 (c26)).bind fun p27=>(cS p27.1 p27.2).bind fun s28=>(qbc qje [.one (Cell.str s28),.one (Cell.int 9999)] H25).bind fun r29=>cond (qab qptc r29) ((cI .i64 (qaa r29 0) 0).bind fun i30=>(cB (qaa r29 1) 0).bind fun b31=>cond (!b31) (some ([.agg [Cell.int 0,Cell.int 0,Cell.int 0,.lst true 1 []],.one (Cell.int 0),.one (Cell.bool false)],H25)) (if i22=1 then (qow k m n i19 (c20) i21 (IntKind.i64.wrap (i22+1)) i23 i30 H25) else if i22=0 then (qow k m n i19 (c20) i21 (IntKind.i64.wrap (i22+1)) i30 i24 H25) else none)) none) (some ([.agg [Cell.int i23,Cell.int i24,Cell.int 0,.lst true 1 []],.one (Cell.int i19),.one (Cell.bool true)],H25))
def qqr (k m:Nat):Nat→Cell→Int→List Entry→Option Res | 0,_,_,_=>none | n+1,c11,i12,H13=>cond (decide (i12 > 1)) ((idxA 1 (c11) (IntKind.i64.wrap (i12 - 1))).bind fun c14=>(deref H13 (c14)).bind fun p15=>(cS p15.1 p15.2).bind fun s16=>cond (s16.toList==(bs [120]).toList) (qqr k m n (c11) (IntKind.i64.wrap (i12 - 1)) H13) (cond (decide (i12 > 2)) (some ([.agg [Cell.int 0,Cell.int 0,Cell.int 0,.lst true 1 []],.one (Cell.int 0),.one (Cell.bool false)],H13)) ((slcC 1 (c11) 0 (some i12) none).bind fun c17=>(lenC c17).bind fun n18=>qow k m m i12 (c17) (n18:Int) 0 0 0 H13))) (cond (decide (i12 > 2)) (some ([.agg [Cell.int 0,Cell.int 0,Cell.int 0,.lst true 1 []],.one (Cell.int 0),.one (Cell.bool false)],H13)) ((slcC 1 (c11) 0 (some i12) none).bind fun c32=>(lenC c32).bind fun n33=>qow k m m i12 (c32) (n33:Int) 0 0 0 H13))
def fbs (k m:Nat)(s1:ByteArray):Option Res:=(qfd qia [.one (Cell.str s1)] []).bind fun r2=>cond (qab qsxb r2.1) ((cI .i64 (qaa r2.1 0) 0).bind fun i3=>(cI .i64 (qaa r2.1 0) 1).bind fun i4=>(cI .i64 (qaa r2.1 0) 2).bind fun i5=>(cC (qaa r2.1 0) 3).bind fun c6=>(cB (qaa r2.1 1) 0).bind fun b7=>cond b7 (some ([.agg [Cell.int i3,Cell.int i4,Cell.int i5,c6],.one (Cell.int 3),.one (Cell.bool true)],r2.2)) ((qfd qfu [.one (Cell.str s1),.one (Cell.str (bs [46]))] r2.2).bind fun r8=>cond (qab qirb r8.1) ((cC (qaa r8.1 0) 0).bind fun c9=>(lenC c9).bind fun n10=>cond (decide ((n10:Int) > 3)) (some ([.agg [Cell.int 0,Cell.int 0,Cell.int 0,.lst true 1 []],.one (Cell.int 0),.one (Cell.bool false)],r8.2)) (qqr k m m (c9) (n10:Int) r8.2)) none)) none
abbrev qrzc (k m:Nat):TB:=evC qgnb qht (evF qgnb (k+1)) m (sub [1,1,1,1,1,0,2,3] qht.code) none
abbrev qnlc (k m:Nat):TK:=qaw 0 (seqK (evC qgnb qht (evF qgnb (k+1)) m (sub [1,1,1,1,1,1] qht.code) none) (retK qgnb qht))
abbrev qsac (k m:Nat):TB:=evC qgnb qht (evF qgnb (k+1)) m (sub [1,1,1,1,1,1,1,1,0,1,2,3] qht.code) none
abbrev qojc (k m:Nat):TK:=qaw 2 (seqK (evC qgnb qht (evF qgnb (k+1)) m (sub [1,1,1,1,1,1,1,1,1] qht.code) none) (retK qgnb qht))
theorem qwib (k m:Nat):∀ (n:Nat) (i19:Int) (c20:Cell) (i21 i22 i23 i24:Int) (H25:List Entry),qbj (some [2,8,9,45,46,47]) (qsac k m) (qojc k m) n ⟨fT 70 0 [(2,.loc 2 0),(8,.av (.one (Cell.int i19))),(9,.loc 9 0),(45,.av (.one (c20))),(46,.av (.one (Cell.int i21))),(47,.av (.one (Cell.int i22)))],fX 70 0 [(2,[Cell.int 0,Cell.int 0,Cell.int 0,.lst true 1 []]),(9,[Cell.int i23,Cell.int i24])],H25⟩=qow (k+1) m n i19 c20 i21 i22 i23 i24 H25:=by
 intro n
 induction n with
 | zero=>intros;rfl
 | succ n ih=>intros;simp only[qow,← ih];kernel_rfl
theorem qbvc (k m:Nat):∀ (n:Nat) (c11:Cell) (i12:Int) (H13:List Entry),qbj (some [2,7,8]) (qrzc k m) (qnlc k m) n ⟨fT 70 0 [(2,.loc 2 0),(7,.av (.one (c11))),(8,.av (.one (Cell.int i12)))],fX 70 0 [(2,[Cell.int 0,Cell.int 0,Cell.int 0,.lst true 1 []])],H13⟩=qqr (k+1) m n c11 i12 H13:=by
 intro n
 induction n with
 | zero=>intros;rfl
 | succ n ih=>intros;simp only[qqr,← qwib k m,← ih];kernel_rfl
theorem qpfc (k m:Nat)(s1:ByteArray):evC qgnb qht (evF qgnb (k+1)) m qht.code none (retK qgnb qht) (enter qht [.one (Cell.str s1)] [])=fbs (k+1) m s1:=by
 simp only[fbs,← qbvc k m]
 kernel_rfl
theorem qqb {s1:ByteArray}{r:Res}(k:Nat)(h:fbs (k+1) (k+1) s1=some r):qxo [.one (Cell.str s1)] []=some r:=qap (k:=k+2) (Eq.trans (Eq.trans (by kernel_rfl) (qpfc k (k+1) s1)) h)
def qzac:List (Nat×Run):=[]
def qfjd:Ctx:=ctx qbi qbh qzac
def qjf:Run:=lim qfjd qeub
theorem ok_fbr:FnOk Tryz.prog OkT qeub qjf:=qao (l:=qzac) qac tyTab_ok qad okT .nil qeub
def fbr (k m:Nat)(i1 i2 i3:Int)(c4:Cell)(i5:Int):Option Res:=cond (i5==1) (some ([.agg [Cell.int (IntKind.i64.wrap (i1+1)),Cell.int 0,Cell.int 0,.lst true 1 []]],[])) (cond (i5==2) (some ([.agg [Cell.int i1,Cell.int (IntKind.i64.wrap (i2+1)),Cell.int 0,.lst true 1 []]],[])) (some ([.agg [Cell.int i1,Cell.int i2,Cell.int (IntKind.i64.wrap (i3+1)),.lst true 1 []]],[])))
theorem qjoc (k m:Nat)(i1 i2 i3:Int)(c4:Cell)(i5:Int):evC qfjd qjab (evF qfjd (k+1)) m qjab.code none (retK qfjd qjab) (enter qjab [.agg [Cell.int i1,Cell.int i2,Cell.int i3,c4],.one (Cell.int i5)] [])=fbr (k+1) m i1 i2 i3 c4 i5:=by
 kernel_rfl
theorem qvu {i1 i2 i3:Int}{c4:Cell}{i5:Int}{r:Res}(k:Nat)(h:fbr (k+1) (k+1) i1 i2 i3 c4 i5=some r):qjf [.agg [Cell.int i1,Cell.int i2,Cell.int i3,c4],.one (Cell.int i5)] []=some r:=qap (k:=k+2) (Eq.trans (Eq.trans (by kernel_rfl) (qjoc k (k+1) i1 i2 i3 c4 i5)) h)
def qvoc:List (Nat×Run):=[]
def qefd:Ctx:=ctx qbi qbh qvoc
def qle:Run:=lim qefd qdqb
theorem ok_fat:FnOk Tryz.prog OkT qdqb qle:=qao (l:=qvoc) qac tyTab_ok qad okT .nil qdqb
def fat (k m:Nat)(i1 i2 i3:Int)(c4:Cell):Option Res:=some ([.agg [Cell.int 1,Cell.int i1,Cell.int i2,Cell.int i3,.lst true 1 [[Cell.str (bs [48])]]]],[])
theorem qlbc (k m:Nat)(i1 i2 i3:Int)(c4:Cell):evC qefd qieb (evF qefd (k+1)) m qieb.code none (retK qefd qieb) (enter qieb [.agg [Cell.int i1,Cell.int i2,Cell.int i3,c4]] [])=fat (k+1) m i1 i2 i3 c4:=by
 kernel_rfl
theorem qseb {i1 i2 i3:Int}{c4:Cell}{r:Res}(k:Nat)(h:fat (k+1) (k+1) i1 i2 i3 c4=some r):qle [.agg [Cell.int i1,Cell.int i2,Cell.int i3,c4]] []=some r:=qap (k:=k+2) (Eq.trans (Eq.trans (by kernel_rfl) (qlbc k (k+1) i1 i2 i3 c4)) h)
def qtnc:List (Nat×Run):=[]
def qecd:Ctx:=ctx qbi qbh qtnc
def qyy:Run:=lim qecd qddb
theorem ok_fau:FnOk Tryz.prog OkT qddb qyy:=qao (l:=qtnc) qac tyTab_ok qad okT .nil qddb
def fau (k m:Nat)(i1 i2 i3:Int)(c4:Cell)(i5:Int):Option Res:=cond (i1 != 0) (some ([.agg [Cell.int (IntKind.i64.wrap (i1+1)),Cell.int 0,Cell.int 0,.lst true 1 []]],[])) (cond (i5==1) (some ([.agg [Cell.int (IntKind.i64.wrap (i1+1)),Cell.int 0,Cell.int 0,.lst true 1 []]],[])) (cond (i2 != 0) (some ([.agg [Cell.int 0,Cell.int (IntKind.i64.wrap (i2+1)),Cell.int 0,.lst true 1 []]],[])) (cond (i5==2) (some ([.agg [Cell.int 0,Cell.int (IntKind.i64.wrap (i2+1)),Cell.int 0,.lst true 1 []]],[])) (some ([.agg [Cell.int 0,Cell.int 0,Cell.int (IntKind.i64.wrap (i3+1)),.lst true 1 []]],[])))))
theorem qryc (k m:Nat)(i1 i2 i3:Int)(c4:Cell)(i5:Int):evC qecd qljb (evF qecd (k+1)) m qljb.code none (retK qecd qljb) (enter qljb [.agg [Cell.int i1,Cell.int i2,Cell.int i3,c4],.one (Cell.int i5)] [])=fau (k+1) m i1 i2 i3 c4 i5:=by
 kernel_rfl
theorem qrhb {i1 i2 i3:Int}{c4:Cell}{i5:Int}{r:Res}(k:Nat)(h:fau (k+1) (k+1) i1 i2 i3 c4 i5=some r):qyy [.agg [Cell.int i1,Cell.int i2,Cell.int i3,c4],.one (Cell.int i5)] []=some r:=qap (k:=k+2) (Eq.trans (Eq.trans (by kernel_rfl) (qryc k (k+1) i1 i2 i3 c4 i5)) h)
def qbwd:List (Nat×Run):=[(qeub,qjf),(qdqb,qle),(qddb,qyy)]
def qfmd:Ctx:=ctx qbi qbh qbwd
def qup:Run:=lim qfmd qecb
theorem ok_fbu:FnOk Tryz.prog OkT qecb qup:=qao (l:=qbwd) qac tyTab_ok qad okT (.cons ok_fbr (.cons ok_fat (.cons ok_fau .nil))) qecb
def fbu (k m:Nat)(s1:ByteArray)(i2 i3 i4:Int)(c5:Cell)(i6:Int):Option Res:=(callL qjf [.agg [Cell.int i2,Cell.int i3,Cell.int i4,c5],.one (Cell.int i6)] []).bind fun r7=>cond (qab qgyc r7.1) ((cI .i64 (qaa r7.1 0) 0).bind fun i8=>(cI .i64 (qaa r7.1 0) 1).bind fun i9=>(cI .i64 (qaa r7.1 0) 2).bind fun i10=>(cC (qaa r7.1 0) 3).bind fun c11=>cond (s1.toList==(bs [62,61]).toList) (restK [Cell.int 4,Cell.int i2,Cell.int i3,Cell.int i4,c5] fun d12=>some ([.one ((.lst true 5 (chunks 5 1 d12)))],r7.2)) (cond (s1.toList==(bs [60]).toList) (restK [Cell.int 1,Cell.int i2,Cell.int i3,Cell.int i4,c5] fun d13=>some ([.one ((.lst true 5 (chunks 5 1 d13)))],r7.2)) (cond (s1.toList==(bs [62]).toList) (cond (decide (i6 < 3)) (restK [Cell.int 4,Cell.int i8,Cell.int i9,Cell.int i10,c11] fun d14=>some ([.one ((.lst true 5 (chunks 5 1 d14)))],r7.2)) (restK [Cell.int 3,Cell.int i2,Cell.int i3,Cell.int i4,c5] fun d15=>some ([.one ((.lst true 5 (chunks 5 1 d15)))],r7.2))) (cond (s1.toList==(bs [60,61]).toList) (cond (decide (i6 < 3)) ((callL qle [.agg [Cell.int i8,Cell.int i9,Cell.int i10,c11]] r7.2).bind fun r16=>cond (qab qnwb r16.1) ((cI .i64 (qaa r16.1 0) 0).bind fun i17=>(cI .i64 (qaa r16.1 0) 1).bind fun i18=>(cI .i64 (qaa r16.1 0) 2).bind fun i19=>(cI .i64 (qaa r16.1 0) 3).bind fun i20=>(cC (qaa r16.1 0) 4).bind fun c21=>restK [Cell.int i17,Cell.int i18,Cell.int i19,Cell.int i20,c21] fun d22=>some ([.one ((.lst true 5 (chunks 5 1 d22)))],r16.2)) none) (restK [Cell.int 2,Cell.int i2,Cell.int i3,Cell.int i4,c5] fun d23=>some ([.one ((.lst true 5 (chunks 5 1 d23)))],r7.2))) (cond (s1.toList==(bs [126]).toList) ((callL qjf [.agg [Cell.int i2,Cell.int i3,Cell.int 0,.lst true 1 []],.one (Cell.int (if 2 < i6 then 2 else i6))] []).bind fun r24=>cond (qab qgyc r24.1) ((cI .i64 (qaa r24.1 0) 0).bind fun i25=>(cI .i64 (qaa r24.1 0) 1).bind fun i26=>(cI .i64 (qaa r24.1 0) 2).bind fun i27=>(cC (qaa r24.1 0) 3).bind fun c28=>qsw r24.2 ((callL qle [.agg [Cell.int i25,Cell.int i26,Cell.int i27,c28]] []).bind fun r29=>cond (qab qnwb r29.1) ((cI .i64 (qaa r29.1 0) 0).bind fun i30=>(cI .i64 (qaa r29.1 0) 1).bind fun i31=>(cI .i64 (qaa r29.1 0) 2).bind fun i32=>(cI .i64 (qaa r29.1 0) 3).bind fun i33=>(cC (qaa r29.1 0) 4).bind fun c34=>qsw r29.2 (restK [Cell.int 4,Cell.int i2,Cell.int i3,Cell.int i4,c5,Cell.int i30,Cell.int i31,Cell.int i32,Cell.int i33,c34] fun d35=>some ([.one ((.lst true 5 (chunks 5 2 d35)))],r7.2))) none)) none) (cond (s1.toList==(bs [94]).toList) ((callL qyy [.agg [Cell.int i2,Cell.int i3,Cell.int i4,c5],.one (Cell.int i6)] []).bind fun r36=>cond (qab qztc r36.1) ((cI .i64 (qaa r36.1 0) 0).bind fun i37=>(cI .i64 (qaa r36.1 0) 1).bind fun i38=>(cI .i64 (qaa r36.1 0) 2).bind fun i39=>(cC (qaa r36.1 0) 3).bind fun c40=>qsw r36.2 ((callL qle [.agg [Cell.int i37,Cell.int i38,Cell.int i39,c40]] []).bind fun r41=>cond (qab qnwb r41.1) ((cI .i64 (qaa r41.1 0) 0).bind fun i42=>(cI .i64 (qaa r41.1 0) 1).bind fun i43=>(cI .i64 (qaa r41.1 0) 2).bind fun i44=>(cI .i64 (qaa r41.1 0) 3).bind fun i45=>(cC (qaa r41.1 0) 4).bind fun c46=>qsw r41.2 (restK [Cell.int 4,Cell.int i2,Cell.int i3,Cell.int i4,c5,Cell.int i42,Cell.int i43,Cell.int i44,Cell.int i45,c46] fun d47=>some ([.one ((.lst true 5 (chunks 5 2 d47)))],r7.2))) none)) none) (cond (decide (i6 < 3)) ((callL qle [.agg [Cell.int i8,Cell.int i9,Cell.int i10,c11]] []).bind fun r48=>cond (qab qnwb r48.1) ((cI .i64 (qaa r48.1 0) 0).bind fun i49=>(cI .i64 (qaa r48.1 0) 1).bind fun i50=>(cI .i64 (qaa r48.1 0) 2).bind fun i51=>(cI .i64 (qaa r48.1 0) 3).bind fun i52=>(cC (qaa r48.1 0) 4).bind fun c53=>qsw r48.2 (restK [Cell.int 4,Cell.int i2,Cell.int i3,Cell.int i4,c5,Cell.int i49,Cell.int i50,Cell.int i51,Cell.int i52,c53] fun d54=>some ([.one ((.lst true 5 (chunks 5 2 d54)))],r7.2))) none) (restK [Cell.int 0,Cell.int i2,Cell.int i3,Cell.int i4,c5] fun d55=>some ([.one ((.lst true 5 (chunks 5 1 d55)))],r7.2))))))))) none
theorem qnqc (k m:Nat)(s1:ByteArray)(i2 i3 i4:Int)(c5:Cell)(i6:Int):evC qfmd qlcb (evF qfmd (k+1)) m qlcb.code none (retK qfmd qlcb) (enter qlcb [.one (Cell.str s1),.agg [Cell.int i2,Cell.int i3,Cell.int i4,c5],.one (Cell.int i6)] [])=fbu (k+1) m s1 i2 i3 i4 c5 i6:=by
 kernel_rfl
theorem qnhb {s1:ByteArray}{i2 i3 i4:Int}{c5:Cell}{i6:Int}{r:Res}(k:Nat)(h:fbu (k+1) (k+1) s1 i2 i3 i4 c5 i6=some r):qup [.one (Cell.str s1),.agg [Cell.int i2,Cell.int i3,Cell.int i4,c5],.one (Cell.int i6)] []=some r:=qap (k:=k+2) (Eq.trans (Eq.trans (by kernel_rfl) (qnqc k (k+1) s1 i2 i3 i4 c5 i6)) h)
def qwbc:List (Nat×Run):=[(qdvb,qzx),(qfqb,qxo),(qecb,qup)]
def qdmc:Ctx:=ctx qbi qbh qwbc
def qxv:Run:=lim qdmc qdxb
theorem ok_faw:FnOk Tryz.prog OkT qdxb qxv:=qao (l:=qwbc) qac tyTab_ok qad okT (.cons ok_fef (.cons ok_fbs (.cons ok_fbu .nil))) qdxb
def qzu (k m:Nat):Nat→ByteArray→Int→Option Res | 0,_,_=>none | n+1,s2,i3=>cond (decide (i3 < 8)) (if 0≤i3∧i3 < 8 then ((cS [Cell.str (bs [94]),Cell.str (bs [126]),Cell.str (bs [62,61]),Cell.str (bs [62]),Cell.str (bs [60,61]),Cell.str (bs [60]),Cell.str (bs [61]),Cell.str (bs [])] (i3.toNat*1)).bind fun s4=>(qbc qzx [.one (Cell.str s2),.one (Cell.str s4)] []).bind fun r5=>cond (qab qcid r5) ((cS (qaa r5 0) 0).bind fun s6=>(cB (qaa r5 1) 0).bind fun b7=>cond (!b7) (qzu k m n s2 (IntKind.i64.wrap (i3+1))) ((callL qxo [.one (Cell.str s6)] []).bind fun r8=>cond (qab qxrc r8.1) ((cI .i64 (qaa r8.1 0) 0).bind fun i9=>(cI .i64 (qaa r8.1 0) 1).bind fun i10=>(cI .i64 (qaa r8.1 0) 2).bind fun i11=>(cC (qaa r8.1 0) 3).bind fun c12=>(cI .i64 (qaa r8.1 1) 0).bind fun i13=>(cB (qaa r8.1 2) 0).bind fun b14=>cond (!b14) (some ([.one (.lst true 5 []),.one (Cell.bool false)],r8.2)) ((callL qup [.one (Cell.str s4),.agg [Cell.int i9,Cell.int i10,Cell.int i11,c12],.one (Cell.int i13)] r8.2).bind fun r15=>cond (qab qxfc r15.1) ((cC (qaa r15.1 0) 0).bind fun c16=>some ([.one (c16),.one (Cell.bool true)],r15.2)) none)) none)) none) else none) (some ([.one (.lst true 5 []),.one (Cell.bool false)],[]))
def faw (k m:Nat)(s1:ByteArray):Option Res:=cond (s1.toList==(bs [42]).toList) (some ([.one (.lst true 5 [[Cell.int 4,Cell.int 0,Cell.int 0,Cell.int 0,.lst true 1 []]]),.one (Cell.bool true)],[])) (qzu k m m s1 0)
abbrev qnrc (k m:Nat):TB:=evC qdmc qpx (evF qdmc (k+1)) m (sub [1,1,0,1,2,3] qpx.code) none
abbrev qixc (k m:Nat):TK:=qaw 0 (seqK (evC qdmc qpx (evF qdmc (k+1)) m (sub [1,1,1] qpx.code) none) (retK qdmc qpx))
theorem qdfc (k m:Nat):∀ (n:Nat) (s2:ByteArray) (i3:Int),qbj (some [0,15,16]) (qnrc k m) (qixc k m) n ⟨fT 40 0 [(0,.av (.one (Cell.str s2))),(15,.av (.agg [Cell.str (bs [94]),Cell.str (bs [126]),Cell.str (bs [62,61]),Cell.str (bs [62]),Cell.str (bs [60,61]),Cell.str (bs [60]),Cell.str (bs [61]),Cell.str (bs [])])),(16,.av (.one (Cell.int i3)))],fX 40 0 [],[]⟩=qzu (k+1) m n s2 i3:=by
 intro n
 induction n with
 | zero=>intros;rfl
 | succ n ih=>intros;simp only[qzu,← ih];kernel_rfl
theorem qrxc (k m:Nat)(s1:ByteArray):evC qdmc qpx (evF qdmc (k+1)) m qpx.code none (retK qdmc qpx) (enter qpx [.one (Cell.str s1)] [])=faw (k+1) m s1:=by
 simp only[faw,← qdfc k m]
 kernel_rfl
theorem qun {s1:ByteArray}{r:Res}(k:Nat)(h:faw (k+1) (k+1) s1=some r):qxv [.one (Cell.str s1)] []=some r:=qap (k:=k+2) (Eq.trans (Eq.trans (by kernel_rfl) (qrxc k (k+1) s1)) h)
end
end Go.Ev
