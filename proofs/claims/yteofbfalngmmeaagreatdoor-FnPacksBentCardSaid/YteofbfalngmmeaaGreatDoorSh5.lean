/- What the evaluator says of the functions, each as a Lean function over cells. Printed by a program of this claim. Conditions: none. -/
import Derived.Test.YteofbfalngmmeaaGreatDoorSh4
import Derived.KernelRfl
namespace Go.Ev
open Go Go.Proofs
noncomputable section
set_option maxRecDepth 100000
set_option linter.unusedVariables false
set_option linter.unusedSimpArgs false
def qpsc:List (Nat×Run):=[(qut,qjc),(qcyb,qre)]
def qtfb:Ctx:=ctx qbg qbh qpsc
def qse:Run:=lim qtfb qapb
theorem ok_fcx:FnOk Tryz.prog OkT qapb qse:=qan (l:=qpsc) qad tyTab_ok qae okT (.cons qrjc (.cons ok_fde .nil)) qapb
def qrg (k m:Nat):Nat→Cell→Cell→Int→List Entry→Option Res | 0,_,_,_,_=>none | n+1,c25,c26,i27,H28=>(lenC c25).bind fun n29=>cond (decide (i27 < (n29:Int))) ((idxA 1 (c25) i27).bind fun c30=>(deref H28 (c30)).bind fun p31=>(cS p31.1 p31.2).bind fun s32=>(callL qre [.one (Cell.str s32)] H28).bind fun r33=>cond (qab qubc r33.1) ((cC (qaa r33.1 0) 0).bind fun c34=>(cB (qaa r33.1 1) 0).bind fun b35=>cond (!b35) (some ([.one (c26),.one (Cell.bool false)],r33.2)) ((qal r33.2 5 c34).bind fun r36=>(app r33.2 5 56 (c26) r36).bind fun p37=>qrg k m n (c25) (p37.1) (IntKind.i64.wrap (i27+1)) p37.2)) none) ((lenC c26).bind fun n38=>some ([.one (c26),.one (Cell.bool (decide ((n38:Int)≤4)))],H28))
def fcx (k m:Nat)(c1:Cell):Option Res:=(lenC c1).bind fun n2=>cond ((n2:Int)==3) ((idxA 1 (c1) 1).bind fun c3=>(deref [] (c3)).bind fun p4=>(cS p4.1 p4.2).bind fun s5=>cond (s5.toList==(bs [45]).toList) ((idxA 1 (c1) 0).bind fun c6=>(deref [] (c6)).bind fun p7=>(cS p7.1 p7.2).bind fun s8=>(callL qjc [.one (Cell.str s8)] []).bind fun r9=>cond (qab qufb r9.1) ((cI .i64 (qaa r9.1 0) 0).bind fun i10=>(cI .i64 (qaa r9.1 0) 1).bind fun i11=>(cI .i64 (qaa r9.1 0) 2).bind fun i12=>(cC (qaa r9.1 0) 3).bind fun c13=>(cB (qaa r9.1 1) 0).bind fun b14=>(idxA 1 (c1) 2).bind fun c15=>(deref r9.2 (c15)).bind fun p16=>(cS p16.1 p16.2).bind fun s17=>(callL qjc [.one (Cell.str s17)] r9.2).bind fun r18=>cond (qab qufb r18.1) ((cI .i64 (qaa r18.1 0) 0).bind fun i19=>(cI .i64 (qaa r18.1 0) 1).bind fun i20=>(cI .i64 (qaa r18.1 0) 2).bind fun i21=>(cC (qaa r18.1 0) 3).bind fun c22=>(cB (qaa r18.1 1) 0).bind fun b23=>restK [Cell.int 4,Cell.int i10,Cell.int i11,Cell.int i12,c13,Cell.int 2,Cell.int i19,Cell.int i20,Cell.int i21,c22] fun d24=>cond b14 (some ([.one ((.lst true 5 (chunks 5 2 d24))),.one (Cell.bool b23)],r18.2)) (some ([.one ((.lst true 5 (chunks 5 2 d24))),.one (Cell.bool false)],r18.2))) none) none) (qrg k m m (c1) (.lst true 5 []) 0 [])) (qrg k m m (c1) (.lst true 5 []) 0 [])
abbrev qgnc (k m:Nat):TB:=evC qtfb qmk (evF qtfb (k+1)) m (sub [1,1,1,0,1,2,3] qmk.code) none
abbrev qglc (k m:Nat):TK:=qav 0 (seqK (evC qtfb qmk (evF qtfb (k+1)) m (sub [1,1,1,1] qmk.code) none) (retK qtfb qmk))
theorem qtqb (k m:Nat):∀ (n:Nat) (c25 c26:Cell) (i27:Int) (H28:List Entry),qbo (some [0,4,9]) (qgnc k m) (qglc k m) n ⟨fT 69 0 [(0,.av (.one (c25))),(4,.av (.one (c26))),(9,.av (.one (Cell.int i27)))],fX 69 0 [],H28⟩=qrg (k+1) m n c25 c26 i27 H28:=by
 intro n
 induction n with
 | zero=>intros;rfl
 | succ n ih=>intros;simp only[qrg,← ih];kernel_rfl
theorem qzmb (k m:Nat)(c1:Cell):evC qtfb qmk (evF qtfb (k+1)) m qmk.code none (retK qtfb qmk) (enter qmk [.one (c1)] [])=fcx (k+1) m c1:=by
 simp only[fcx,← qtqb k m]
 kernel_rfl
theorem qst {c1:Cell}{r:Res}(k:Nat)(h:fcx (k+1) (k+1) c1=some r):qse [.one (c1)] []=some r:=qap (k:=k+2) (Eq.trans (Eq.trans (by kernel_rfl) (qzmb k (k+1) c1)) h)
def qoxc:List (Nat×Run):=[]
def qbzb:Ctx:=ctx qbg qbh qoxc
def qri:Run:=lim qbzb qze
theorem ok_fdd:FnOk Tryz.prog OkT qze qri:=qan (l:=qoxc) qad tyTab_ok qae okT .nil qze
def qxe (k m:Nat):Nat→ByteArray→Option Res | 0,_=>none | n+1,s5=>cond (decide ((s5.size:Int) > 0)) ((bytS s5 (IntKind.i64.wrap ((s5.size:Int) - 1))).bind fun i6=>cond (i6==32) ((subS s5 0 (IntKind.i64.wrap ((s5.size:Int) - 1))).bind fun s7=>qxe k m n s7) (some ([.one (Cell.str s5)],[]))) (some ([.one (Cell.str s5)],[]))
def qwz (k m:Nat):Nat→ByteArray→Option Res | 0,_=>none | n+1,s2=>cond (decide ((s2.size:Int) > 0)) ((bytS s2 0).bind fun i3=>cond (i3==32) ((subS s2 1 (s2.size:Int)).bind fun s4=>qwz k m n s4) (qxe k m m s2)) (qxe k m m s2)
def fdd (k m:Nat)(s1:ByteArray):Option Res:=qwz k m m s1
abbrev qhjc (k m:Nat):TB:=evC qbzb qge (evF qbzb (k+1)) m (sub [1,0,2,3] qge.code) none
abbrev qcnc (k m:Nat):TK:=qav 0 (seqK (evC qbzb qge (evF qbzb (k+1)) m (sub [1,1] qge.code) none) (retK qbzb qge))
abbrev qdkc (k m:Nat):TB:=evC qbzb qge (evF qbzb (k+1)) m (sub [1,1,0,2,3] qge.code) none
abbrev qgfc (k m:Nat):TK:=qav 2 (seqK (evC qbzb qge (evF qbzb (k+1)) m (sub [1,1,1] qge.code) none) (retK qbzb qge))
theorem qqlb (k m:Nat):∀ (n:Nat) (s5:ByteArray),qbo (some [0]) (qdkc k m) (qgfc k m) n ⟨fT 30 0 [(0,.av (.one (Cell.str s5)))],fX 30 0 [],[]⟩=qxe (k+1) m n s5:=by
 intro n
 induction n with
 | zero=>intros;rfl
 | succ n ih=>intros;simp only[qxe,← ih];kernel_rfl
theorem qopb (k m:Nat):∀ (n:Nat) (s2:ByteArray),qbo (some [0]) (qhjc k m) (qcnc k m) n ⟨fT 30 0 [(0,.av (.one (Cell.str s2)))],fX 30 0 [],[]⟩=qwz (k+1) m n s2:=by
 intro n
 induction n with
 | zero=>intros;rfl
 | succ n ih=>intros;simp only[qwz,← qqlb k m,← ih];kernel_rfl
theorem qjvc (k m:Nat)(s1:ByteArray):evC qbzb qge (evF qbzb (k+1)) m qge.code none (retK qbzb qge) (enter qge [.one (Cell.str s1)] [])=fdd (k+1) m s1:=by
 simp only[fdd,← qopb k m]
 kernel_rfl
theorem qgrb {s1:ByteArray}{r:Res}(k:Nat)(h:fdd (k+1) (k+1) s1=some r):qri [.one (Cell.str s1)] []=some r:=qap (k:=k+2) (Eq.trans (Eq.trans (by kernel_rfl) (qjvc k (k+1) s1)) h)
def qqdc:List (Nat×Run):=[(qvt,qey)]
def qtub:Ctx:=ctx qbg qbh qqdc
def qup:Run:=lim qtub qbmb
theorem ok_fcw:FnOk Tryz.prog OkT qbmb qup:=qan (l:=qqdc) qad tyTab_ok qae okT (.cons qnuc .nil) qbmb
def qwb (k m:Nat):Nat→Cell→Int→Option Res | 0,_,_=>none | n+1,c2,i3=>(lenC c2).bind fun n4=>cond (decide (i3 < (n4:Int))) ((idxA 5 (c2) i3).bind fun c5=>(fldA c5 1).bind fun c6=>(deref [] (c6)).bind fun p7=>(cI .i64 p7.1 p7.2).bind fun i8=>(cI .i64 p7.1 (p7.2+1)).bind fun i9=>(cI .i64 p7.1 ((p7.2+1)+1)).bind fun i10=>(cC p7.1 (((p7.2+1)+1)+1)).bind fun c11=>(qaw qey [.agg [Cell.int i8,Cell.int i9,Cell.int i10,c11]] []).bind fun r12=>cond (qab qfkb r12) ((cB (qaa r12 0) 0).bind fun b13=>cond (!b13) (some ([.one (Cell.bool false)],[])) (qwb k m n (c2) (IntKind.i64.wrap (i3+1)))) none) (some ([.one (Cell.bool true)],[]))
def fcw (k m:Nat)(c1:Cell):Option Res:=qwb k m m (c1) 0
abbrev qinc (k m:Nat):TB:=evC qtub qng (evF qtub (k+1)) m (sub [1,0,1,2,3] qng.code) none
abbrev qhnc (k m:Nat):TK:=qav 0 (seqK (evC qtub qng (evF qtub (k+1)) m (sub [1,1] qng.code) none) (retK qtub qng))
theorem qtcb (k m:Nat):∀ (n:Nat) (c2:Cell) (i3:Int),qbo (some [0,3]) (qinc k m) (qhnc k m) n ⟨fT 17 0 [(0,.av (.one (c2))),(3,.av (.one (Cell.int i3)))],fX 17 0 [],[]⟩=qwb (k+1) m n c2 i3:=by
 intro n
 induction n with
 | zero=>intros;rfl
 | succ n ih=>intros;simp only[qwb,← ih];kernel_rfl
theorem qcac (k m:Nat)(c1:Cell):evC qtub qng (evF qtub (k+1)) m qng.code none (retK qtub qng) (enter qng [.one (c1)] [])=fcw (k+1) m c1:=by
 simp only[fcw,← qtcb k m]
 kernel_rfl
theorem qizb {c1:Cell}{r:Res}(k:Nat)(h:fcw (k+1) (k+1) c1=some r):qup [.one (c1)] []=some r:=qap (k:=k+2) (Eq.trans (Eq.trans (by kernel_rfl) (qcac k (k+1) c1)) h)
def qsvc:List (Nat×Run):=[(qyy,qrl),(qapb,qse),(qoa,qda),(qze,qri),(qbmb,qup)]
def qxjb:Ctx:=ctx qbg qbh qsvc
def qvn:Run:=lim qxjb qasb
theorem ok_fcb:FnOk Tryz.prog OkT qasb qvn:=qan (l:=qsvc) qad tyTab_ok qae okT (.cons ok_fdb (.cons ok_fcx (.cons qaec (.cons ok_fdd (.cons ok_fcw .nil))))) qasb
def qye (k m:Nat):Nat→Cell→Cell→Int→List Entry→Option Res | 0,_,_,_,_=>none | n+1,c4,c5,i6,H7=>(lenC c5).bind fun n8=>cond (decide (i6 < (n8:Int))) ((idxA 1 (c5) i6).bind fun c9=>(deref H7 (c9)).bind fun p10=>(cS p10.1 p10.2).bind fun s11=>(qaw qri [.one (Cell.str s11)] H7).bind fun r12=>cond (qab qssc r12) ((cS (qaa r12 0) 0).bind fun s13=>(callL qda [.one (Cell.str s13),.one (.sc (.int .u8 32))] H7).bind fun r14=>cond (qab qpd r14.1) ((cC (qaa r14.1 0) 0).bind fun c15=>(callL qse [.one (c15)] r14.2).bind fun r16=>cond (qab qpwc r16.1) ((cC (qaa r16.1 0) 0).bind fun c17=>(cB (qaa r16.1 1) 0).bind fun b18=>cond (!b18) (some ([.one (.lst true 1 []),.one (Cell.bool false)],r16.2)) ((qaw qup [.one (c17)] r16.2).bind fun r19=>cond (qab qlvc r19) ((cB (qaa r19 0) 0).bind fun b20=>cond (!b20) (some ([.one (.lst true 1 []),.one (Cell.bool false)],r16.2)) (restK [c17] fun d21=>(qal r16.2 1 (.lst true 1 (chunks 1 1 d21))).bind fun r22=>(app r16.2 1 24 (c4) r22).bind fun p23=>qye k m n (p23.1) (c5) (IntKind.i64.wrap (i6+1)) p23.2)) none)) none) none) none) ((lenC c4).bind fun n24=>cond (decide ((n24:Int) > 4)) (some ([.one (.lst true 1 []),.one (Cell.bool false)],H7)) (some ([.one (c4),.one (Cell.bool true)],H7)))
def fcb (k m:Nat)(s1:ByteArray):Option Res:=(callL qrl [.one (Cell.str s1)] []).bind fun r2=>cond (qab qlpc r2.1) ((cC (qaa r2.1 0) 0).bind fun c3=>qye k m m (.lst true 1 []) (c3) 0 r2.2) none
abbrev qhmc (k m:Nat):TB:=evC qxjb qka (evF qxjb (k+1)) m (sub [1,1,1,0,1,2,3] qka.code) none
abbrev qclc (k m:Nat):TK:=qav 0 (seqK (evC qxjb qka (evF qxjb (k+1)) m (sub [1,1,1,1] qka.code) none) (retK qxjb qka))
theorem qrrb (k m:Nat):∀ (n:Nat) (c4 c5:Cell) (i6:Int) (H7:List Entry),qbo (some [4,5,6]) (qhmc k m) (qclc k m) n ⟨fT 45 0 [(4,.av (.one (c4))),(5,.av (.one (c5))),(6,.av (.one (Cell.int i6)))],fX 45 0 [],H7⟩=qye (k+1) m n c4 c5 i6 H7:=by
 intro n
 induction n with
 | zero=>intros;rfl
 | succ n ih=>intros;simp only[qye,← ih];kernel_rfl
theorem qjrc (k m:Nat)(s1:ByteArray):evC qxjb qka (evF qxjb (k+1)) m qka.code none (retK qxjb qka) (enter qka [.one (Cell.str s1)] [])=fcb (k+1) m s1:=by
 simp only[fcb,← qrrb k m]
 kernel_rfl
theorem qifb {s1:ByteArray}{r:Res}(k:Nat)(h:fcb (k+1) (k+1) s1=some r):qvn [.one (Cell.str s1)] []=some r:=qap (k:=k+2) (Eq.trans (Eq.trans (by kernel_rfl) (qjrc k (k+1) s1)) h)
def qukc:List (Nat×Run):=[(qkp,qeu),(qasb,qvn)]
def qwbc:Ctx:=ctx qbg qbh qukc
def qsc:Run:=lim qwbc qyl
theorem ok_fdn:FnOk Tryz.prog OkT qyl qsc:=qan (l:=qukc) qad tyTab_ok qae okT (.cons qnfb (.cons ok_fcb .nil)) qyl
def fdn (k m:Nat)(s1 s2:ByteArray):Option Res:=(callL qvn [.one (Cell.str s2)] []).bind fun r3=>cond (qab qqfc r3.1) ((cC (qaa r3.1 0) 0).bind fun c4=>(cB (qaa r3.1 1) 0).bind fun b5=>(qaw qeu [.one (Cell.str s1)] r3.2).bind fun r6=>cond (qab qhyb r6) ((cB (qaa r6 0) 0).bind fun b7=>cond b7 (cond (decide ((s2.size:Int)≤20)) (some ([.one (Cell.bool b5)],r3.2)) (some ([.one (Cell.bool false)],r3.2))) (some ([.one (Cell.bool false)],r3.2))) none) none
theorem qijc (k m:Nat)(s1 s2:ByteArray):evC qwbc qfsb (evF qwbc (k+1)) m qfsb.code none (retK qwbc qfsb) (enter qfsb [.agg [Cell.str s1,Cell.str s2]] [])=fdn (k+1) m s1 s2:=by
 kernel_rfl
theorem qkdb {s1 s2:ByteArray}{r:Res}(k:Nat)(h:fdn (k+1) (k+1) s1 s2=some r):qsc [.agg [Cell.str s1,Cell.str s2]] []=some r:=qap (k:=k+2) (Eq.trans (Eq.trans (by kernel_rfl) (qijc k (k+1) s1 s2)) h)
def qstc:List (Nat×Run):=[(qyl,qsc)]
def qvnb:Ctx:=ctx qbg qbh qstc
def qtg:Run:=lim qvnb qzd
theorem ok_fdo:FnOk Tryz.prog OkT qzd qtg:=qan (l:=qstc) qad tyTab_ok qae okT (.cons ok_fdn .nil) qzd
def qvg (k m:Nat):Nat→Cell→Int→Option Res | 0,_,_=>none | n+1,c2,i3=>(lenC c2).bind fun n4=>cond (decide (i3 < (n4:Int))) ((idxA 2 (c2) i3).bind fun c5=>(deref [] (c5)).bind fun p6=>(cS p6.1 p6.2).bind fun s7=>(cS p6.1 (p6.2+1)).bind fun s8=>(qaw qsc [.agg [Cell.str s7,Cell.str s8]] []).bind fun r9=>cond (qab qrzc r9) ((cB (qaa r9 0) 0).bind fun b10=>cond (!b10) (some ([.one (Cell.bool false)],[])) (cond (decide (i3 > 0)) ((idxA 2 (c2) (IntKind.i64.wrap (i3 - 1))).bind fun c11=>(fldA c11 0).bind fun c12=>(deref [] (c12)).bind fun p13=>(cS p13.1 p13.2).bind fun s14=>(idxA 2 (c2) i3).bind fun c15=>(fldA c15 0).bind fun c16=>(deref [] (c16)).bind fun p17=>(cS p17.1 p17.2).bind fun s18=>cond (!Op.bytesLess s14.toList s18.toList) (some ([.one (Cell.bool false)],[])) (qvg k m n (c2) (IntKind.i64.wrap (i3+1)))) (qvg k m n (c2) (IntKind.i64.wrap (i3+1))))) none) ((lenC c2).bind fun n19=>some ([.one (Cell.bool (decide ((n19:Int)≤4)))],[]))
def fdo (k m:Nat)(c1:Cell):Option Res:=qvg k m m (c1) 0
abbrev qckc (k m:Nat):TB:=evC qvnb qkm (evF qvnb (k+1)) m (sub [1,0,1,2,3] qkm.code) none
abbrev qjyc (k m:Nat):TK:=qav 0 (seqK (evC qvnb qkm (evF qvnb (k+1)) m (sub [1,1] qkm.code) none) (retK qvnb qkm))
theorem qtwb (k m:Nat):∀ (n:Nat) (c2:Cell) (i3:Int),qbo (some [0,3]) (qckc k m) (qjyc k m) n ⟨fT 37 0 [(0,.av (.one (c2))),(3,.av (.one (Cell.int i3)))],fX 37 0 [],[]⟩=qvg (k+1) m n c2 i3:=by
 intro n
 induction n with
 | zero=>intros;rfl
 | succ n ih=>intros;simp only[qvg,← ih];kernel_rfl
theorem qenc (k m:Nat)(c1:Cell):evC qvnb qkm (evF qvnb (k+1)) m qkm.code none (retK qvnb qkm) (enter qkm [.one (c1)] [])=fdo (k+1) m c1:=by
 simp only[fdo,← qtwb k m]
 kernel_rfl
theorem qgyb {c1:Cell}{r:Res}(k:Nat)(h:fdo (k+1) (k+1) c1=some r):qtg [.one (c1)] []=some r:=qap (k:=k+2) (Eq.trans (Eq.trans (by kernel_rfl) (qenc k (k+1) c1)) h)
def qtsc:List (Nat×Run):=[(qeq,qbp)]
def qqob:Ctx:=ctx qbg qbh qtsc
def qow:Run:=lim qqob qcab
theorem ok_fcd:FnOk Tryz.prog OkT qcab qow:=qan (l:=qtsc) qad tyTab_ok qae okT (.cons qpv .nil) qcab
def qwm (k m:Nat):Nat→ByteArray→Int→Int→Option Res | 0,_,_,_=>none | n+1,s3,i4,i5=>cond (decide (i5 < (s3.size:Int))) ((bytS s3 i5).bind fun i6=>(qaw qbp [.one (Cell.int (IntKind.i64.wrap i6)),.one (Cell.int 32),.one (Cell.int 126)] []).bind fun r7=>cond (qab qgq r7) ((cB (qaa r7 0) 0).bind fun b8=>cond (!b8) (some ([.one (Cell.bool false)],[])) (qwm k m n s3 i4 (IntKind.i64.wrap (i5+1)))) none) (some ([.one (Cell.bool (decide ((s3.size:Int)≤i4)))],[]))
def fcd (k m:Nat)(s1:ByteArray)(i2:Int):Option Res:=qwm k m m s1 i2 0
abbrev qdvc (k m:Nat):TB:=evC qqob qmo (evF qqob (k+1)) m (sub [1,0,1,2,3] qmo.code) none
abbrev qgrc (k m:Nat):TK:=qav 0 (seqK (evC qqob qmo (evF qqob (k+1)) m (sub [1,1] qmo.code) none) (retK qqob qmo))
theorem qnlb (k m:Nat):∀ (n:Nat) (s3:ByteArray) (i4 i5:Int),qbo (some [0,1,5]) (qdvc k m) (qgrc k m) n ⟨fT 22 0 [(0,.av (.one (Cell.str s3))),(1,.av (.one (Cell.int i4))),(5,.av (.one (Cell.int i5)))],fX 22 0 [],[]⟩=qwm (k+1) m n s3 i4 i5:=by
 intro n
 induction n with
 | zero=>intros;rfl
 | succ n ih=>intros;simp only[qwm,← ih];kernel_rfl
theorem qebc (k m:Nat)(s1:ByteArray)(i2:Int):evC qqob qmo (evF qqob (k+1)) m qmo.code none (retK qqob qmo) (enter qmo [.one (Cell.str s1),.one (Cell.int i2)] [])=fcd (k+1) m s1 i2:=by
 simp only[fcd,← qnlb k m]
 kernel_rfl
theorem qkeb {s1:ByteArray}{i2:Int}{r:Res}(k:Nat)(h:fcd (k+1) (k+1) s1 i2=some r):qow [.one (Cell.str s1),.one (Cell.int i2)] []=some r:=qap (k:=k+2) (Eq.trans (Eq.trans (by kernel_rfl) (qebc k (k+1) s1 i2)) h)
def qqqc:List (Nat×Run):=[(qkp,qeu),(qeq,qbp),(qcab,qow)]
def qfqb:Ctx:=ctx qbg qbh qqqc
def qty:Run:=lim qfqb qcqb
theorem ok_fdj:FnOk Tryz.prog OkT qcqb qty:=qan (l:=qqqc) qad tyTab_ok qae okT (.cons qnfb (.cons qpv (.cons ok_fcd .nil))) qcqb
def qpg (k m:Nat)(b_l0:Cell→Int→Option Res):Nat→Cell→Int→Int→Option Res | 0,_,_,_=>none | n+1,c26,i27,i28=>(idxA 2 (c26) i27).bind fun c29=>(fldA c29 1).bind fun c30=>(deref [] (c30)).bind fun p31=>(cC p31.1 p31.2).bind fun c32=>(lenC c32).bind fun n33=>cond (decide (i28 < (n33:Int))) ((idxA 2 (c26) i27).bind fun c34=>(fldA c34 1).bind fun c35=>(deref [] (c35)).bind fun p36=>(cC p36.1 p36.2).bind fun c37=>(idxA 1 (c37) i28).bind fun c38=>(deref [] (c38)).bind fun p39=>(cS p39.1 p39.2).bind fun s40=>(qaw qow [.one (Cell.str s40),.one (Cell.int 40)] []).bind fun r41=>cond (qab qljc r41) ((cB (qaa r41 0) 0).bind fun b42=>cond (!b42) (some ([.one (Cell.bool false)],[])) (qpg k m b_l0 n (c26) i27 (IntKind.i64.wrap (i28+1)))) none) (b_l0 (c26) (IntKind.i64.wrap (i27+1)))
def qtn (k m:Nat):Nat→Cell→Int→Option Res | 0,_,_=>none | n+1,c2,i3=>(lenC c2).bind fun n4=>cond (decide (i3 < (n4:Int))) ((idxA 2 (c2) i3).bind fun c5=>(fldA c5 0).bind fun c6=>(deref [] (c6)).bind fun p7=>(cS p7.1 p7.2).bind fun s8=>(qaw qeu [.one (Cell.str s8)] []).bind fun r9=>cond (qab qhyb r9) ((cB (qaa r9 0) 0).bind fun b10=>cond (!b10) (some ([.one (Cell.bool false)],[])) ((idxA 2 (c2) i3).bind fun c11=>(fldA c11 1).bind fun c12=>(deref [] (c12)).bind fun p13=>(cC p13.1 p13.2).bind fun c14=>(lenC c14).bind fun n15=>(qaw qbp [.one (Cell.int (n15:Int)),.one (Cell.int 1),.one (Cell.int 5)] []).bind fun r16=>cond (qab qgq r16) ((cB (qaa r16 0) 0).bind fun b17=>cond (!b17) (some ([.one (Cell.bool false)],[])) (cond (decide (i3 > 0)) ((idxA 2 (c2) (IntKind.i64.wrap (i3 - 1))).bind fun c18=>(fldA c18 0).bind fun c19=>(deref [] (c19)).bind fun p20=>(cS p20.1 p20.2).bind fun s21=>(idxA 2 (c2) i3).bind fun c22=>(fldA c22 0).bind fun c23=>(deref [] (c23)).bind fun p24=>(cS p24.1 p24.2).bind fun s25=>cond (!Op.bytesLess s21.toList s25.toList) (some ([.one (Cell.bool false)],[])) (qpg k m (qtn k m n) m (c2) i3 0)) (qpg k m (qtn k m n) m (c2) i3 0))) none)) none) ((lenC c2).bind fun n43=>some ([.one (Cell.bool (decide ((n43:Int)≤4)))],[]))
def fdj (k m:Nat)(c1:Cell):Option Res:=qtn k m m (c1) 0
abbrev qwk (k m:Nat):TB:=evC qfqb qgw (evF qfqb (k+1)) m (sub [1,0,1,2,3] qgw.code) none
abbrev qpw (k m:Nat):TK:=qav 0 (seqK (evC qfqb qgw (evF qfqb (k+1)) m (sub [1,1] qgw.code) none) (retK qfqb qgw))
abbrev qguc (k m:Nat):TB:=evC qfqb qgw (evF qfqb (k+1)) m (sub [1,0,1,2,3,1,0,2,1,1,2,3] qgw.code) none
abbrev qjzc (k m:Nat)(n_l0:Nat):TK:=qav 2 (qav 1 (seqK (evC qfqb qgw (evF qfqb (k+1)) m (sub [1,0,1,2,3,1,1] qgw.code) none) (qktc (fun s=>qbo (some [0,3]) (qwk k m) (qpw k m) n_l0 (qvy (some [0,3]) s)) (qpw k m))))
theorem qsxb (k m:Nat)(b_l0:Cell→Int→Option Res)(n_l0:Nat)(h_l0:∀ (c2:Cell) (i3:Int),qbo (some [0,3]) (qwk k m) (qpw k m) n_l0 ⟨fT 69 0 [(0,.av (.one (c2))),(3,.av (.one (Cell.int i3)))],fX 69 0 [],[]⟩=b_l0 c2 i3):∀ (n:Nat) (c26:Cell) (i27 i28:Int),qbo (some [0,3,4]) (qguc k m) (qjzc k m n_l0) n ⟨fT 69 0 [(0,.av (.one (c26))),(3,.av (.one (Cell.int i27))),(4,.av (.one (Cell.int i28)))],fX 69 0 [],[]⟩=qpg (k+1) m b_l0 n c26 i27 i28:=by
 intro n
 induction n with
 | zero=>intros;rfl
 | succ n ih=>intros;simp only[qpg,← h_l0,← ih];kernel_rfl
theorem qpdb (k m:Nat):∀ (n:Nat) (c2:Cell) (i3:Int),qbo (some [0,3]) (qwk k m) (qpw k m) n ⟨fT 69 0 [(0,.av (.one (c2))),(3,.av (.one (Cell.int i3)))],fX 69 0 [],[]⟩=qtn (k+1) m n c2 i3:=by
 intro n
 induction n with
 | zero=>intros;rfl
 | succ n ih=>intros;simp only[qtn,← qsxb k m _ _ (ih)];kernel_rfl
theorem qbic (k m:Nat)(c1:Cell):evC qfqb qgw (evF qfqb (k+1)) m qgw.code none (retK qfqb qgw) (enter qgw [.one (c1)] [])=fdj (k+1) m c1:=by
 simp only[fdj,← qpdb k m]
 kernel_rfl
theorem qkvb {c1:Cell}{r:Res}(k:Nat)(h:fdj (k+1) (k+1) c1=some r):qty [.one (c1)] []=some r:=qap (k:=k+2) (Eq.trans (Eq.trans (by kernel_rfl) (qbic k (k+1) c1)) h)
def qmuc:List (Nat×Run):=[(qkp,qeu),(qcub,quu),(qadb,qsq),(qzd,qtg),(qcqb,qty)]
def quxc:Ctx:=ctx qbg qbh qmuc
def qlc:Run:=lim quxc qtw
theorem quac:FnOk Tryz.prog OkT qtw qlc:=qan (l:=qmuc) qad tyTab_ok qae okT (.cons qnfb (.cons ok_fdm (.cons ok_fdh (.cons ok_fdo (.cons ok_fdj .nil))))) qtw
def fby (k m:Nat)(s1:ByteArray)(c2 c3 c4:Cell):Option Res:=(qaw qeu [.one (Cell.str s1)] []).bind fun r5=>cond (qab qhyb r5) ((cB (qaa r5 0) 0).bind fun b6=>cond b6 ((lenC c2).bind fun n7=>cond (decide ((n7:Int)≤4)) ((qaw quu [.one (c2)] []).bind fun r8=>cond (qab qrnc r8) ((cB (qaa r8 0) 0).bind fun b9=>cond b9 ((qaw qsq [.one (c2)] []).bind fun r10=>cond (qab qoac r10) ((cB (qaa r10 0) 0).bind fun b11=>cond b11 ((qaw qtg [.one (c3)] []).bind fun r12=>cond (qab quqc r12) ((cB (qaa r12 0) 0).bind fun b13=>cond b13 ((qaw qty [.one (c4)] []).bind fun r14=>cond (qab qkuc r14) ((cB (qaa r14 0) 0).bind fun b15=>some ([.one (Cell.bool b15)],[])) none) (some ([.one (Cell.bool false)],[]))) none) (some ([.one (Cell.bool false)],[]))) none) (some ([.one (Cell.bool false)],[]))) none) (some ([.one (Cell.bool false)],[]))) (some ([.one (Cell.bool false)],[]))) none
theorem qilc (k m:Nat)(s1:ByteArray)(c2 c3 c4:Cell):evC quxc qecb (evF quxc (k+1)) m qecb.code none (retK quxc qecb) (enter qecb [.agg [Cell.str s1,c2,c3,c4]] [])=fby (k+1) m s1 c2 c3 c4:=by
 kernel_rfl
theorem qlmb {s1:ByteArray}{c2 c3 c4:Cell}{r:Res}(k:Nat)(h:fby (k+1) (k+1) s1 c2 c3 c4=some r):qlc [.agg [Cell.str s1,c2,c3,c4]] []=some r:=qap (k:=k+2) (Eq.trans (Eq.trans (by kernel_rfl) (qilc k (k+1) s1 c2 c3 c4)) h)
def qoqc:List (Nat×Run):=[(qqv,qki),(qtw,qlc)]
def qeqb:Ctx:=ctx qbg qbh qoqc
def qtb:Run:=lim qeqb qclb
theorem ok_fbz:FnOk Tryz.prog OkT qclb qtb:=qan (l:=qoqc) qad tyTab_ok qae okT (.cons qmjc (.cons quac .nil)) qclb
def qph (k m:Nat)(b_l0:Cell→Int→Option Res):Nat→Cell→Int→Int→Option Res | 0,_,_,_=>none | n+1,c21,i22,i23=>(idxA 4 (c21) i22).bind fun c24=>(fldA c24 1).bind fun c25=>(deref [] (c25)).bind fun p26=>(cC p26.1 p26.2).bind fun c27=>(lenC c27).bind fun n28=>cond (decide (i23 < (n28:Int))) ((idxA 4 (c21) i22).bind fun c29=>(fldA c29 1).bind fun c30=>(deref [] (c30)).bind fun p31=>(cC p31.1 p31.2).bind fun c32=>(idxA 1 (c32) i23).bind fun c33=>(deref [] (c33)).bind fun p34=>(cS p34.1 p34.2).bind fun s35=>(qaw qki [.one (c21),.one (Cell.str s35)] []).bind fun r36=>cond (qab qiec r36) ((cI .i64 (qaa r36 0) 0).bind fun i37=>cond (decide (i37 < 0)) (some ([.one (Cell.bool false)],[])) ((idxA 4 (c21) i22).bind fun c38=>(fldA c38 1).bind fun c39=>(deref [] (c39)).bind fun p40=>(cC p40.1 p40.2).bind fun c41=>(idxA 1 (c41) i23).bind fun c42=>(deref [] (c42)).bind fun p43=>(cS p43.1 p43.2).bind fun s44=>(idxA 4 (c21) i22).bind fun c45=>(fldA c45 0).bind fun c46=>(deref [] (c46)).bind fun p47=>(cS p47.1 p47.2).bind fun s48=>cond (s44.toList==s48.toList) (some ([.one (Cell.bool false)],[])) (qph k m b_l0 n (c21) i22 (IntKind.i64.wrap (i23+1))))) none) (b_l0 (c21) (IntKind.i64.wrap (i22+1)))
def qth (k m:Nat):Nat→Cell→Int→Option Res | 0,_,_=>none | n+1,c2,i3=>(lenC c2).bind fun n4=>cond (decide (i3 < (n4:Int))) ((idxA 4 (c2) i3).bind fun c5=>(deref [] (c5)).bind fun p6=>(cS p6.1 p6.2).bind fun s7=>(cC p6.1 (p6.2+1)).bind fun c8=>(cC p6.1 ((p6.2+1)+1)).bind fun c9=>(cC p6.1 (((p6.2+1)+1)+1)).bind fun c10=>(qaw qlc [.agg [Cell.str s7,c8,c9,c10]] []).bind fun r11=>cond (qab qjkc r11) ((cB (qaa r11 0) 0).bind fun b12=>cond (!b12) (some ([.one (Cell.bool false)],[])) (cond (decide (i3 > 0)) ((idxA 4 (c2) (IntKind.i64.wrap (i3 - 1))).bind fun c13=>(fldA c13 0).bind fun c14=>(deref [] (c14)).bind fun p15=>(cS p15.1 p15.2).bind fun s16=>(idxA 4 (c2) i3).bind fun c17=>(fldA c17 0).bind fun c18=>(deref [] (c18)).bind fun p19=>(cS p19.1 p19.2).bind fun s20=>cond (!Op.bytesLess s16.toList s20.toList) (some ([.one (Cell.bool false)],[])) (qph k m (qth k m n) m (c2) i3 0)) (qph k m (qth k m n) m (c2) i3 0))) none) ((lenC c2).bind fun n49=>some ([.one (Cell.bool (decide ((n49:Int)≤6)))],[]))
def fbz (k m:Nat)(c1:Cell):Option Res:=qth k m m (c1) 0
abbrev qxa (k m:Nat):TB:=evC qeqb qhb (evF qeqb (k+1)) m (sub [1,0,1,2,3] qhb.code) none
abbrev qpf (k m:Nat):TK:=qav 0 (seqK (evC qeqb qhb (evF qeqb (k+1)) m (sub [1,1] qhb.code) none) (retK qeqb qhb))
abbrev qdcc (k m:Nat):TB:=evC qeqb qhb (evF qeqb (k+1)) m (sub [1,0,1,2,3,1,0,2,1,1,2,3] qhb.code) none
abbrev qhlc (k m:Nat)(n_l0:Nat):TK:=qav 2 (qav 1 (seqK (evC qeqb qhb (evF qeqb (k+1)) m (sub [1,0,1,2,3,1,1] qhb.code) none) (qktc (fun s=>qbo (some [0,3]) (qxa k m) (qpf k m) n_l0 (qvy (some [0,3]) s)) (qpf k m))))
theorem qxbb (k m:Nat)(b_l0:Cell→Int→Option Res)(n_l0:Nat)(h_l0:∀ (c2:Cell) (i3:Int),qbo (some [0,3]) (qxa k m) (qpf k m) n_l0 ⟨fT 75 0 [(0,.av (.one (c2))),(3,.av (.one (Cell.int i3)))],fX 75 0 [],[]⟩=b_l0 c2 i3):∀ (n:Nat) (c21:Cell) (i22 i23:Int),qbo (some [0,3,4]) (qdcc k m) (qhlc k m n_l0) n ⟨fT 75 0 [(0,.av (.one (c21))),(3,.av (.one (Cell.int i22))),(4,.av (.one (Cell.int i23)))],fX 75 0 [],[]⟩=qph (k+1) m b_l0 n c21 i22 i23:=by
 intro n
 induction n with
 | zero=>intros;rfl
 | succ n ih=>intros;simp only[qph,← h_l0,← ih];kernel_rfl
theorem qndb (k m:Nat):∀ (n:Nat) (c2:Cell) (i3:Int),qbo (some [0,3]) (qxa k m) (qpf k m) n ⟨fT 75 0 [(0,.av (.one (c2))),(3,.av (.one (Cell.int i3)))],fX 75 0 [],[]⟩=qth (k+1) m n c2 i3:=by
 intro n
 induction n with
 | zero=>intros;rfl
 | succ n ih=>intros;simp only[qth,← qxbb k m _ _ (ih)];kernel_rfl
theorem qdec (k m:Nat)(c1:Cell):evC qeqb qhb (evF qeqb (k+1)) m qhb.code none (retK qeqb qhb) (enter qhb [.one (c1)] [])=fbz (k+1) m c1:=by
 simp only[fbz,← qndb k m]
 kernel_rfl
theorem qmwb {c1:Cell}{r:Res}(k:Nat)(h:fbz (k+1) (k+1) c1=some r):qtb [.one (c1)] []=some r:=qap (k:=k+2) (Eq.trans (Eq.trans (by kernel_rfl) (qdec k (k+1) c1)) h)
def qttc:List (Nat×Run):=[]
def qvib:Ctx:=ctx qbg qbh qttc
def qob:Run:=lim qvib qbrb
theorem ok_fbp:FnOk Tryz.prog OkT qbrb qob:=qan (l:=qttc) qad tyTab_ok qae okT .nil qbrb
def qxy (k m:Nat):Nat→Cell→Cell→Int→Option Res | 0,_,_,_=>none | n+1,c5,c6,i7=>(lenC c5).bind fun n8=>cond (decide (i7 < (n8:Int))) ((idxA 2 (c5) i7).bind fun c9=>(deref [] (c9)).bind fun p10=>(cS p10.1 p10.2).bind fun s11=>(cS p10.1 (p10.2+1)).bind fun s12=>(idxA 2 (c6) i7).bind fun c13=>(deref [] (c13)).bind fun p14=>(cS p14.1 p14.2).bind fun s15=>(cS p14.1 (p14.2+1)).bind fun s16=>(qbz [.str,.str] [Cell.str s11,Cell.str s12] [Cell.str s15,Cell.str s16]).bind fun b17=>cond (!b17) (some ([.one (Cell.bool false)],[])) (qxy k m n (c5) (c6) (IntKind.i64.wrap (i7+1)))) (some ([.one (Cell.bool true)],[]))
def fbp (k m:Nat)(c1 c2:Cell):Option Res:=(lenC c1).bind fun n3=>(lenC c2).bind fun n4=>cond ((n3:Int) != (n4:Int)) (some ([.one (Cell.bool false)],[])) (qxy k m m (c1) (c2) 0)
abbrev qcdc (k m:Nat):TB:=evC qvib qmr (evF qvib (k+1)) m (sub [1,1,0,1,2,3] qmr.code) none
abbrev qirc (k m:Nat):TK:=qav 0 (seqK (evC qvib qmr (evF qvib (k+1)) m (sub [1,1,1] qmr.code) none) (retK qvib qmr))
theorem qrub (k m:Nat):∀ (n:Nat) (c5 c6:Cell) (i7:Int),qbo (some [0,1,5]) (qcdc k m) (qirc k m) n ⟨fT 26 0 [(0,.av (.one (c5))),(1,.av (.one (c6))),(5,.av (.one (Cell.int i7)))],fX 26 0 [],[]⟩=qxy (k+1) m n c5 c6 i7:=by
 intro n
 induction n with
 | zero=>intros;rfl
 | succ n ih=>intros;simp only[qxy,← ih];kernel_rfl
theorem qbsc (k m:Nat)(c1 c2:Cell):evC qvib qmr (evF qvib (k+1)) m qmr.code none (retK qvib qmr) (enter qmr [.one (c1),.one (c2)] [])=fbp (k+1) m c1 c2:=by
 simp only[fbp,← qrub k m]
 kernel_rfl
theorem qgxb {c1 c2:Cell}{r:Res}(k:Nat)(h:fbp (k+1) (k+1) c1 c2=some r):qob [.one (c1),.one (c2)] []=some r:=qap (k:=k+2) (Eq.trans (Eq.trans (by kernel_rfl) (qbsc k (k+1) c1 c2)) h)
def qlqc:List (Nat×Run):=[]
def qsnb:Ctx:=ctx qbg qbh qlqc
def quh:Run:=lim qsnb qbsb
theorem ok_fam:FnOk Tryz.prog OkT qbsb quh:=qan (l:=qlqc) qad tyTab_ok qae okT .nil qbsb
def qxf (k m:Nat):Nat→Cell→Cell→Int→Int→List Entry→Option Res | 0,_,_,_,_,_=>none | n+1,c3,c4,i5,i6,H7=>cond (decide (i6 < i5)) ((idxA 4 (c4) i6).bind fun c8=>(deref H7 (c8)).bind fun p9=>(cS p9.1 p9.2).bind fun s10=>(cC p9.1 (p9.2+1)).bind fun c11=>(cC p9.1 ((p9.2+1)+1)).bind fun c12=>(cC p9.1 (((p9.2+1)+1)+1)).bind fun c13=>(qal H7 2 c12).bind fun r14=>(app H7 2 32 (c3) r14).bind fun p15=>qxf k m n (p15.1) (c4) i5 (IntKind.i64.wrap (i6+1)) p15.2) (some ([.one (c3)],H7))
def fam (k m:Nat)(c1:Cell):Option Res:=(lenC c1).bind fun n2=>qxf k m m (.lst true 2 []) (c1) (n2:Int) 0 []
abbrev qiac (k m:Nat):TB:=evC qsnb qmz (evF qsnb (k+1)) m (sub [1,1,0,1,2,3] qmz.code) none
abbrev qihc (k m:Nat):TK:=qav 0 (seqK (evC qsnb qmz (evF qsnb (k+1)) m (sub [1,1,1] qmz.code) none) (retK qsnb qmz))
theorem qrdb (k m:Nat):∀ (n:Nat) (c3 c4:Cell) (i5 i6:Int) (H7:List Entry),qbo (some [3,6,7,8]) (qiac k m) (qihc k m) n ⟨fT 18 0 [(3,.av (.one (c3))),(6,.av (.one (c4))),(7,.av (.one (Cell.int i5))),(8,.av (.one (Cell.int i6)))],fX 18 0 [],H7⟩=qxf (k+1) m n c3 c4 i5 i6 H7:=by
 intro n
 induction n with
 | zero=>intros;rfl
 | succ n ih=>intros;simp only[qxf,← ih];kernel_rfl
theorem qapc (k m:Nat)(c1:Cell):evC qsnb qmz (evF qsnb (k+1)) m qmz.code none (retK qsnb qmz) (enter qmz [.one (c1)] [])=fam (k+1) m c1:=by
 simp only[fam,← qrdb k m]
 kernel_rfl
theorem qmmb {c1:Cell}{r:Res}(k:Nat)(h:fam (k+1) (k+1) c1=some r):quh [.one (c1)] []=some r:=qap (k:=k+2) (Eq.trans (Eq.trans (by kernel_rfl) (qapc k (k+1) c1)) h)
def qujc:List (Nat×Run):=[]
def qrib:Ctx:=ctx qbg qbh qujc
def qvw:Run:=lim qrib qaab
theorem ok_fcg:FnOk Tryz.prog OkT qaab qvw:=qan (l:=qujc) qad tyTab_ok qae okT .nil qaab
def qyf (k m:Nat):Nat→Cell→Cell→Int→List Entry→Option Res | 0,_,_,_,_=>none | n+1,c2,c3,i4,H5=>(lenC c2).bind fun n6=>cond (decide (i4 < (n6:Int))) ((idxA 4 (c2) i4).bind fun c7=>(fldA c7 2).bind fun c8=>(deref H5 (c8)).bind fun p9=>(cC p9.1 p9.2).bind fun c10=>(qal H5 2 c10).bind fun r11=>(app H5 2 32 (c3) r11).bind fun p12=>qyf k m n (c2) (p12.1) (IntKind.i64.wrap (i4+1)) p12.2) (some ([.one (c3)],H5))
def fcg (k m:Nat)(c1:Cell):Option Res:=qyf k m m (c1) (.lst true 2 []) 0 []
abbrev qztb (k m:Nat):TB:=evC qrib qlx (evF qrib (k+1)) m (sub [1,1,0,1,2,3] qlx.code) none
abbrev qefc (k m:Nat):TK:=qav 0 (seqK (evC qrib qlx (evF qrib (k+1)) m (sub [1,1,1] qlx.code) none) (retK qrib qlx))
theorem qpcb (k m:Nat):∀ (n:Nat) (c2 c3:Cell) (i4:Int) (H5:List Entry),qbo (some [0,3,4]) (qztb k m) (qefc k m) n ⟨fT 20 0 [(0,.av (.one (c2))),(3,.av (.one (c3))),(4,.av (.one (Cell.int i4)))],fX 20 0 [],H5⟩=qyf (k+1) m n c2 c3 i4 H5:=by
 intro n
 induction n with
 | zero=>intros;rfl
 | succ n ih=>intros;simp only[qyf,← ih];kernel_rfl
theorem qakc (k m:Nat)(c1:Cell):evC qrib qlx (evF qrib (k+1)) m qlx.code none (retK qrib qlx) (enter qlx [.one (c1)] [])=fcg (k+1) m c1:=by
 simp only[fcg,← qpcb k m]
 kernel_rfl
theorem qltb {c1:Cell}{r:Res}(k:Nat)(h:fcg (k+1) (k+1) c1=some r):qvw [.one (c1)] []=some r:=qap (k:=k+2) (Eq.trans (Eq.trans (by kernel_rfl) (qakc k (k+1) c1)) h)
def qtfc:List (Nat×Run):=[(qcxb,qsm),(qbub,qts),(qzr,qsf),(qzf,qtx),(qbcb,qrn),(qyw,qvk),(qclb,qtb),(qvv,qjx),(qqv,qki),(qrc,qkr),(qtw,qlc),(qbrb,qob),(qbsb,quh),(qaab,qvw)]
def qwac:Ctx:=ctx qbg qbh qtfc
def qgzb:Run:=lim qwac qlsb
theorem ok_fbn:FnOk Tryz.prog OkT qlsb qgzb:=qan (l:=qtfc) qad tyTab_ok qae okT (.cons ok_fbo (.cons ok_fbt (.cons ok_fbr (.cons ok_fbs (.cons ok_fbu (.cons ok_faf (.cons ok_fbz (.cons qmyc (.cons qmjc (.cons qryc (.cons quac (.cons ok_fbp (.cons ok_fam (.cons ok_fcg .nil)))))))))))))) qlsb
def fbn (k m:Nat)(c1:Cell):Option Res:=(qaw qsm [.one (c1)] []).bind fun r2=>cond (qab qqsc r2) ((cB (qaa r2 0) 0).bind fun b3=>cond b3 (some ([.one (Cell.bool true)],[])) ((callL qts [.one (c1)] []).bind fun r4=>cond (qab qopc r4.1) ((cC (qaa r4.1 0) 0).bind fun c5=>(callL qsf [.one (c1)] r4.2).bind fun r6=>cond (qab qpzc r6.1) ((cC (qaa r6.1 0) 0).bind fun c7=>(cS (qaa r6.1 1) 0).bind fun s8=>(callL qtx [.one (c1)] r6.2).bind fun r9=>cond (qab qqrc r9.1) ((cS (qaa r9.1 0) 0).bind fun s10=>(cC (qaa r9.1 0) 1).bind fun c11=>(cC (qaa r9.1 0) 2).bind fun c12=>(cC (qaa r9.1 0) 3).bind fun c13=>(callL qrn [.one (c1)] r9.2).bind fun r14=>cond (qab qqmc r14.1) ((cC (qaa r14.1 0) 0).bind fun c15=>(qaw qvk [.one (c5)] r14.2).bind fun r16=>cond (qab qqic r16) ((cB (qaa r16 0) 0).bind fun b17=>(qaw qtb [.one (c5)] r14.2).bind fun r18=>cond (qab qlec r18) ((cB (qaa r18 0) 0).bind fun b19=>cond (b17==b19) ((qaw qjx [.one (c7),.one (Cell.str s8)] r14.2).bind fun r20=>cond (qab qhsc r20) ((cI .i64 (qaa r20 0) 0).bind fun i21=>(qaw qki [.one (c7),.one (Cell.str s8)] r14.2).bind fun r22=>cond (qab qiec r22) ((cI .i64 (qaa r22 0) 0).bind fun i23=>cond (i21==i23) ((qaw qkr [.agg [Cell.str s10,c11,c12,c13]] []).bind fun r24=>cond (qab qiic r24) ((cB (qaa r24 0) 0).bind fun b25=>(qaw qlc [.agg [Cell.str s10,c11,c12,c13]] r14.2).bind fun r26=>cond (qab qjkc r26) ((cB (qaa r26 0) 0).bind fun b27=>cond (b25==b27) ((qgu quh [.one (c15)] r14.2).bind fun r28=>cond (qab qkxc r28.1) ((cC (qaa r28.1 0) 0).bind fun c29=>(callL qvw [.one (c15)] r28.2).bind fun r30=>cond (qab qnyc r30.1) ((cC (qaa r30.1 0) 0).bind fun c31=>(qaw qob [.one (c29),.one (c31)] r30.2).bind fun r32=>cond (qab qqyc r32) ((cB (qaa r32 0) 0).bind fun b33=>some ([.one (Cell.bool b33)],r30.2)) none) none) none) (some ([.one (Cell.bool false)],r14.2))) none) none) (some ([.one (Cell.bool false)],r14.2))) none) none) (some ([.one (Cell.bool false)],r14.2))) none) none) none) none) none) none)) none
theorem qfsc (k m:Nat)(c1:Cell):evC qwac qfjb (evF qwac (k+1)) m qfjb.code none (retK qwac qfjb) (enter qfjb [.one (c1)] [])=fbn (k+1) m c1:=by
 kernel_rfl
theorem qui {c1:Cell}{r:Res}(k:Nat)(h:fbn (k+1) (k+1) c1=some r):qgzb [.one (c1)] []=some r:=qap (k:=k+2) (Eq.trans (Eq.trans (by kernel_rfl) (qfsc k (k+1) c1)) h)
end
end Go.Ev
