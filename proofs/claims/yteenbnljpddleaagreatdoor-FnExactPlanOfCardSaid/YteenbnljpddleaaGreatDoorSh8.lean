/- What the evaluator says of the functions, each as a Lean function over cells. Printed by a program of this claim. Conditions: none. -/
import Derived.Test.YteenbnljpddleaaGreatDoorSh7
import Derived.KernelRfl
namespace Go.Ev
open Go Go.Proofs
noncomputable section
set_option maxRecDepth 100000
set_option linter.unusedVariables false
set_option linter.unusedSimpArgs false
def qmqd:List (Nat×Run):=[(qla,qdu)]
def qdce:Ctx:=ctx qbd qbe qmqd
def qxs:Run:=lim qdce qjxb
theorem ok_fch:FnOk Tryz.prog OkT qjxb qxs:=qan (l:=qmqd) qac tyTab_ok qad okT (.cons qrgb .nil) qjxb
def fch (k m:Nat)(s1:ByteArray)(c2:Cell)(s3:ByteArray)(c4:Cell):Option Res:=cond (!(s1.toList==s3.toList)) (some ([.one (Cell.bool false)],[])) ((qar qdu [.one (c2),.one (c4)] []).bind fun r5=>cond (qab qvu r5) ((cB (qaa r5 0) 0).bind fun b6=>cond (!b6) (some ([.one (Cell.bool false)],[])) (some ([.one (Cell.bool true)],[]))) none)
theorem qvuc (k m:Nat)(s1:ByteArray)(c2:Cell)(s3:ByteArray)(c4:Cell):evC qdce qpfb (evF qdce (k+1)) m qpfb.code none (retK qdce qpfb) (enter qpfb [.agg [Cell.str s1,c2],.agg [Cell.str s3,c4]] [])=fch (k+1) m s1 c2 s3 c4:=by
 kernel_rfl
theorem qbzc {s1:ByteArray}{c2:Cell}{s3:ByteArray}{c4:Cell}{r:Res}(k:Nat)(h:fch (k+1) (k+1) s1 c2 s3 c4=some r):qxs [.agg [Cell.str s1,c2],.agg [Cell.str s3,c4]] []=some r:=qap (k:=k+2) (Eq.trans (Eq.trans (by kernel_rfl) (qvuc k (k+1) s1 c2 s3 c4)) h)
def qswd:List (Nat×Run):=[(qjxb,qxs)]
def qruc:Ctx:=ctx qbd qbe qswd
def qdbb:Run:=lim qruc qnfb
theorem ok_fci:FnOk Tryz.prog OkT qnfb qdbb:=qan (l:=qswd) qac tyTab_ok qad okT (.cons ok_fch .nil) qnfb
def qfzb (k m:Nat):Nat→Cell→Cell→Int→Option Res | 0,_,_,_=>none | n+1,c5,c6,i7=>(lenC c5).bind fun n8=>cond (decide (i7 < (n8:Int))) ((idxA 2 (c5) i7).bind fun c9=>(deref [] (c9)).bind fun p10=>(cS p10.1 p10.2).bind fun s11=>(cC p10.1 (p10.2+1)).bind fun c12=>(idxA 2 (c6) i7).bind fun c13=>(deref [] (c13)).bind fun p14=>(cS p14.1 p14.2).bind fun s15=>(cC p14.1 (p14.2+1)).bind fun c16=>(qar qxs [.agg [Cell.str s11,c12],.agg [Cell.str s15,c16]] []).bind fun r17=>cond (qab qupd r17) ((cB (qaa r17 0) 0).bind fun b18=>cond (!b18) (some ([.one (Cell.bool false)],[])) (qfzb k m n (c5) (c6) (IntKind.i64.wrap (i7+1)))) none) (some ([.one (Cell.bool true)],[]))
def fci (k m:Nat)(c1 c2:Cell):Option Res:=(lenC c1).bind fun n3=>(lenC c2).bind fun n4=>cond ((n3:Int) != (n4:Int)) (some ([.one (Cell.bool false)],[])) (qfzb k m m (c1) (c2) 0)
abbrev qiod (k m:Nat):TB:=evC qruc qnl (evF qruc (k+1)) m (sub [1,1,0,1,2,3] qnl.code) none
abbrev qlsd (k m:Nat):TK:=qav 0 (seqK (evC qruc qnl (evF qruc (k+1)) m (sub [1,1,1] qnl.code) none) (retK qruc qnl))
theorem qegc (k m:Nat):∀ (n:Nat) (c5 c6:Cell) (i7:Int),qbo (some [0,1,5]) (qiod k m) (qlsd k m) n ⟨fT 27 0 [(0,.av (.one (c5))),(1,.av (.one (c6))),(5,.av (.one (Cell.int i7)))],fX 27 0 [],[]⟩=qfzb (k+1) m n c5 c6 i7:=by
 intro n
 induction n with
 | zero=>intros;rfl
 | succ n ih=>intros;simp only[qfzb,← ih];kernel_rfl
theorem qhyd (k m:Nat)(c1 c2:Cell):evC qruc qnl (evF qruc (k+1)) m qnl.code none (retK qruc qnl) (enter qnl [.one (c1),.one (c2)] [])=fci (k+1) m c1 c2:=by
 simp only[fci,← qegc k m]
 kernel_rfl
theorem qadc {c1 c2:Cell}{r:Res}(k:Nat)(h:fci (k+1) (k+1) c1 c2=some r):qdbb [.one (c1),.one (c2)] []=some r:=qap (k:=k+2) (Eq.trans (Eq.trans (by kernel_rfl) (qhyd k (k+1) c1 c2)) h)
def qzcd:List (Nat×Run):=[(qla,qdu),(qihb,qahb),(qnfb,qdbb)]
def qboe:Ctx:=ctx qbd qbe qzcd
def qwq:Run:=lim qboe qlib
theorem ok_fcl:FnOk Tryz.prog OkT qlib qwq:=qan (l:=qzcd) qac tyTab_ok qad okT (.cons qrgb (.cons ok_fck (.cons ok_fci .nil))) qlib
def fcl (k m:Nat)(s1:ByteArray)(c2 c3 c4:Cell)(s5:ByteArray)(c6 c7 c8:Cell):Option Res:=cond (!(s1.toList==s5.toList)) (some ([.one (Cell.bool false)],[])) ((qar qdu [.one (c2),.one (c6)] []).bind fun r9=>cond (qab qvu r9) ((cB (qaa r9 0) 0).bind fun b10=>cond (!b10) (some ([.one (Cell.bool false)],[])) ((qar qahb [.one (c3),.one (c7)] []).bind fun r11=>cond (qab qmdd r11) ((cB (qaa r11 0) 0).bind fun b12=>cond (!b12) (some ([.one (Cell.bool false)],[])) ((qar qdbb [.one (c4),.one (c8)] []).bind fun r13=>cond (qab qrtd r13) ((cB (qaa r13 0) 0).bind fun b14=>cond (!b14) (some ([.one (Cell.bool false)],[])) (some ([.one (Cell.bool true)],[]))) none)) none)) none)
theorem qdwd (k m:Nat)(s1:ByteArray)(c2 c3 c4:Cell)(s5:ByteArray)(c6 c7 c8:Cell):evC qboe qrhb (evF qboe (k+1)) m qrhb.code none (retK qboe qrhb) (enter qrhb [.agg [Cell.str s1,c2,c3,c4],.agg [Cell.str s5,c6,c7,c8]] [])=fcl (k+1) m s1 c2 c3 c4 s5 c6 c7 c8:=by
 kernel_rfl
theorem queb {s1:ByteArray}{c2 c3 c4:Cell}{s5:ByteArray}{c6 c7 c8:Cell}{r:Res}(k:Nat)(h:fcl (k+1) (k+1) s1 c2 c3 c4 s5 c6 c7 c8=some r):qwq [.agg [Cell.str s1,c2,c3,c4],.agg [Cell.str s5,c6,c7,c8]] []=some r:=qap (k:=k+2) (Eq.trans (Eq.trans (by kernel_rfl) (qdwd k (k+1) s1 c2 c3 c4 s5 c6 c7 c8)) h)
def qmvd:List (Nat×Run):=[(qlib,qwq)]
def qkac:Ctx:=ctx qbd qbe qmvd
def qtk:Run:=lim qkac qmhb
theorem ok_fcm:FnOk Tryz.prog OkT qmhb qtk:=qan (l:=qmvd) qac tyTab_ok qad okT (.cons ok_fcl .nil) qmhb
def qepb (k m:Nat):Nat→Cell→Cell→Int→Option Res | 0,_,_,_=>none | n+1,c5,c6,i7=>(lenC c5).bind fun n8=>cond (decide (i7 < (n8:Int))) ((idxA 4 (c5) i7).bind fun c9=>(deref [] (c9)).bind fun p10=>(cS p10.1 p10.2).bind fun s11=>(cC p10.1 (p10.2+1)).bind fun c12=>(cC p10.1 ((p10.2+1)+1)).bind fun c13=>(cC p10.1 (((p10.2+1)+1)+1)).bind fun c14=>(idxA 4 (c6) i7).bind fun c15=>(deref [] (c15)).bind fun p16=>(cS p16.1 p16.2).bind fun s17=>(cC p16.1 (p16.2+1)).bind fun c18=>(cC p16.1 ((p16.2+1)+1)).bind fun c19=>(cC p16.1 (((p16.2+1)+1)+1)).bind fun c20=>(qar qwq [.agg [Cell.str s11,c12,c13,c14],.agg [Cell.str s17,c18,c19,c20]] []).bind fun r21=>cond (qab qabe r21) ((cB (qaa r21 0) 0).bind fun b22=>cond (!b22) (some ([.one (Cell.bool false)],[])) (qepb k m n (c5) (c6) (IntKind.i64.wrap (i7+1)))) none) (some ([.one (Cell.bool true)],[]))
def fcm (k m:Nat)(c1 c2:Cell):Option Res:=(lenC c1).bind fun n3=>(lenC c2).bind fun n4=>cond ((n3:Int) != (n4:Int)) (some ([.one (Cell.bool false)],[])) (qepb k m m (c1) (c2) 0)
abbrev qhad (k m:Nat):TB:=evC qkac qrs (evF qkac (k+1)) m (sub [1,1,0,1,2,3] qrs.code) none
abbrev qapd (k m:Nat):TK:=qav 0 (seqK (evC qkac qrs (evF qkac (k+1)) m (sub [1,1,1] qrs.code) none) (retK qkac qrs))
theorem qkdc (k m:Nat):∀ (n:Nat) (c5 c6:Cell) (i7:Int),qbo (some [0,1,5]) (qhad k m) (qapd k m) n ⟨fT 27 0 [(0,.av (.one (c5))),(1,.av (.one (c6))),(5,.av (.one (Cell.int i7)))],fX 27 0 [],[]⟩=qepb (k+1) m n c5 c6 i7:=by
 intro n
 induction n with
 | zero=>intros;rfl
 | succ n ih=>intros;simp only[qepb,← ih];kernel_rfl
theorem qead (k m:Nat)(c1 c2:Cell):evC qkac qrs (evF qkac (k+1)) m qrs.code none (retK qkac qrs) (enter qrs [.one (c1),.one (c2)] [])=fcm (k+1) m c1 c2:=by
 simp only[fcm,← qkdc k m]
 kernel_rfl
theorem quqb {c1 c2:Cell}{r:Res}(k:Nat)(h:fcm (k+1) (k+1) c1 c2=some r):qtk [.one (c1),.one (c2)] []=some r:=qap (k:=k+2) (Eq.trans (Eq.trans (by kernel_rfl) (qead k (k+1) c1 c2)) h)
def qqwd:List (Nat×Run):=[(qla,qdu)]
def qcxe:Ctx:=ctx qbd qbe qqwd
def qys:Run:=lim qcxe qlqb
theorem ok_fco:FnOk Tryz.prog OkT qlqb qys:=qan (l:=qqwd) qac tyTab_ok qad okT (.cons qrgb .nil) qlqb
def fco (k m:Nat)(s1:ByteArray)(c2 c3 c4:Cell)(b5:Bool)(s6:ByteArray)(c7 c8 c9:Cell)(b10:Bool):Option Res:=cond (!(s1.toList==s6.toList)) (some ([.one (Cell.bool false)],[])) ((qar qdu [.one (c2),.one (c7)] []).bind fun r11=>cond (qab qvu r11) ((cB (qaa r11 0) 0).bind fun b12=>cond (!b12) (some ([.one (Cell.bool false)],[])) ((qar qdu [.one (c3),.one (c8)] []).bind fun r13=>cond (qab qvu r13) ((cB (qaa r13 0) 0).bind fun b14=>cond (!b14) (some ([.one (Cell.bool false)],[])) ((qar qdu [.one (c4),.one (c9)] []).bind fun r15=>cond (qab qvu r15) ((cB (qaa r15 0) 0).bind fun b16=>cond (!b16) (some ([.one (Cell.bool false)],[])) (cond (!(b5==b10)) (some ([.one (Cell.bool false)],[])) (some ([.one (Cell.bool true)],[])))) none)) none)) none)
theorem qcgd (k m:Nat)(s1:ByteArray)(c2 c3 c4:Cell)(b5:Bool)(s6:ByteArray)(c7 c8 c9:Cell)(b10:Bool):evC qcxe qqpb (evF qcxe (k+1)) m qqpb.code none (retK qcxe qqpb) (enter qqpb [.agg [Cell.str s1,c2,c3,c4,Cell.bool b5],.agg [Cell.str s6,c7,c8,c9,Cell.bool b10]] [])=fco (k+1) m s1 c2 c3 c4 b5 s6 c7 c8 c9 b10:=by
 kernel_rfl
theorem qvvb {s1:ByteArray}{c2 c3 c4:Cell}{b5:Bool}{s6:ByteArray}{c7 c8 c9:Cell}{b10:Bool}{r:Res}(k:Nat)(h:fco (k+1) (k+1) s1 c2 c3 c4 b5 s6 c7 c8 c9 b10=some r):qys [.agg [Cell.str s1,c2,c3,c4,Cell.bool b5],.agg [Cell.str s6,c7,c8,c9,Cell.bool b10]] []=some r:=qap (k:=k+2) (Eq.trans (Eq.trans (by kernel_rfl) (qcgd k (k+1) s1 c2 c3 c4 b5 s6 c7 c8 c9 b10)) h)
def quzd:List (Nat×Run):=[(qlqb,qys)]
def qqlc:Ctx:=ctx qbd qbe quzd
def qtu:Run:=lim qqlc qoab
theorem ok_fcp:FnOk Tryz.prog OkT qoab qtu:=qan (l:=quzd) qac tyTab_ok qad okT (.cons ok_fco .nil) qoab
def qgpb (k m:Nat):Nat→Cell→Cell→Int→Option Res | 0,_,_,_=>none | n+1,c5,c6,i7=>(lenC c5).bind fun n8=>cond (decide (i7 < (n8:Int))) ((idxA 5 (c5) i7).bind fun c9=>(deref [] (c9)).bind fun p10=>(cS p10.1 p10.2).bind fun s11=>(cC p10.1 (p10.2+1)).bind fun c12=>(cC p10.1 ((p10.2+1)+1)).bind fun c13=>(cC p10.1 (((p10.2+1)+1)+1)).bind fun c14=>(cB p10.1 ((((p10.2+1)+1)+1)+1)).bind fun b15=>(idxA 5 (c6) i7).bind fun c16=>(deref [] (c16)).bind fun p17=>(cS p17.1 p17.2).bind fun s18=>(cC p17.1 (p17.2+1)).bind fun c19=>(cC p17.1 ((p17.2+1)+1)).bind fun c20=>(cC p17.1 (((p17.2+1)+1)+1)).bind fun c21=>(cB p17.1 ((((p17.2+1)+1)+1)+1)).bind fun b22=>(qar qys [.agg [Cell.str s11,c12,c13,c14,Cell.bool b15],.agg [Cell.str s18,c19,c20,c21,Cell.bool b22]] []).bind fun r23=>cond (qab qrcd r23) ((cB (qaa r23 0) 0).bind fun b24=>cond (!b24) (some ([.one (Cell.bool false)],[])) (qgpb k m n (c5) (c6) (IntKind.i64.wrap (i7+1)))) none) (some ([.one (Cell.bool true)],[]))
def fcp (k m:Nat)(c1 c2:Cell):Option Res:=(lenC c1).bind fun n3=>(lenC c2).bind fun n4=>cond ((n3:Int) != (n4:Int)) (some ([.one (Cell.bool false)],[])) (qgpb k m m (c1) (c2) 0)
abbrev qzpc (k m:Nat):TB:=evC qqlc qpc (evF qqlc (k+1)) m (sub [1,1,0,1,2,3] qpc.code) none
abbrev qypc (k m:Nat):TK:=qav 0 (seqK (evC qqlc qpc (evF qqlc (k+1)) m (sub [1,1,1] qpc.code) none) (retK qqlc qpc))
theorem qpxc (k m:Nat):∀ (n:Nat) (c5 c6:Cell) (i7:Int),qbo (some [0,1,5]) (qzpc k m) (qypc k m) n ⟨fT 27 0 [(0,.av (.one (c5))),(1,.av (.one (c6))),(5,.av (.one (Cell.int i7)))],fX 27 0 [],[]⟩=qgpb (k+1) m n c5 c6 i7:=by
 intro n
 induction n with
 | zero=>intros;rfl
 | succ n ih=>intros;simp only[qgpb,← ih];kernel_rfl
theorem quec (k m:Nat)(c1 c2:Cell):evC qqlc qpc (evF qqlc (k+1)) m qpc.code none (retK qqlc qpc) (enter qpc [.one (c1),.one (c2)] [])=fcp (k+1) m c1 c2:=by
 simp only[fcp,← qpxc k m]
 kernel_rfl
theorem qbxc {c1 c2:Cell}{r:Res}(k:Nat)(h:fcp (k+1) (k+1) c1 c2=some r):qtu [.one (c1),.one (c2)] []=some r:=qap (k:=k+2) (Eq.trans (Eq.trans (by kernel_rfl) (quec k (k+1) c1 c2)) h)
def qptd:List (Nat×Run):=[]
def qglc:Ctx:=ctx qbd qbe qptd
def qen:Run:=lim qglc qkg
theorem qqwb:FnOk Tryz.prog OkT qkg qen:=qan (l:=qptd) qac tyTab_ok qad okT .nil qkg
def qenb (k m:Nat):Nat→Int→ByteArray→Option Res | 0,_,_=>none | n+1,i2,s3=>cond (decide (i2 > 0)) ((bytesOf [] (.lst true 1 [[.sc (.int .u8 (IntKind.u8.wrap (IntKind.i64.wrap (48+(i2.tmod 10)))))]])).bind fun s4=>(catS s4 s3).bind fun s5=>qenb k m n (IntKind.i64.wrap (i2.tdiv 10)) s5) ((catS (bs [109]) s3).bind fun s6=>some ([.one (Cell.str s6)],[]))
def fdc (k m:Nat)(i1:Int):Option Res:=cond (decide (i1≤0)) (some ([.one (Cell.str (bs [109,48]))],[])) (qenb k m m i1 (bs []))
abbrev qhxd (k m:Nat):TB:=evC qglc qpt (evF qglc (k+1)) m (sub [1,1,1,0,2,3] qpt.code) none
abbrev qeld (k m:Nat):TK:=qav 0 (seqK (evC qglc qpt (evF qglc (k+1)) m (sub [1,1,1,1] qpt.code) none) (retK qglc qpt))
theorem qllc (k m:Nat):∀ (n:Nat) (i2:Int) (s3:ByteArray),qbo (some [0,3]) (qhxd k m) (qeld k m) n ⟨fT 20 0 [(0,.av (.one (Cell.int i2))),(3,.av (.one (Cell.str s3)))],fX 20 0 [],[]⟩=qenb (k+1) m n i2 s3:=by
 intro n
 induction n with
 | zero=>intros;rfl
 | succ n ih=>intros;simp only[qenb,← ih];kernel_rfl
theorem qbcd (k m:Nat)(i1:Int):evC qglc qpt (evF qglc (k+1)) m qpt.code none (retK qglc qpt) (enter qpt [.one (Cell.int i1)] [])=fdc (k+1) m i1:=by
 simp only[fdc,← qllc k m]
 kernel_rfl
theorem qxzb {i1:Int}{r:Res}(k:Nat)(h:fdc (k+1) (k+1) i1=some r):qen [.one (Cell.int i1)] []=some r:=qap (k:=k+2) (Eq.trans (Eq.trans (by kernel_rfl) (qbcd k (k+1) i1)) h)
def qane:List (Nat×Run):=[(qkg,qen)]
def qkyc:Ctx:=ctx qbd qbe qane
def qdt:Run:=lim qkyc qle
theorem qsqb:FnOk Tryz.prog OkT qle qdt:=qan (l:=qane) qac tyTab_ok qad okT (.cons qqwb .nil) qle
def qezb (k m:Nat):Nat→Cell→Int→Int→List Entry→Option Res | 0,_,_,_,_=>none | n+1,c3,i4,i5,H6=>(lenC c3).bind fun n7=>cond (decide (i5 < (n7:Int))) ((qar qen [.one (Cell.int i4)] H6).bind fun r8=>cond (qab qbub r8) ((cS (qaa r8 0) 0).bind fun s9=>(idxA 1 (c3) i5).bind fun c10=>(qca H6 (c10) [Cell.str s9]).bind fun h11=>qezb k m n (c3) (IntKind.i64.wrap (i4+1)) (IntKind.i64.wrap (i5+1)) h11) none) (some ([.one (Cell.int i4)],H6))
def fda (k m:Nat)(c1:Cell)(i2:Int)(H:List Entry):Option Res:=qezb k m m (c1) i2 0 H
abbrev qltd (k m:Nat):TB:=evC qkyc qrc (evF qkyc (k+1)) m (sub [1,0,1,2,3] qrc.code) none
abbrev qird (k m:Nat):TK:=qav 0 (seqK (evC qkyc qrc (evF qkyc (k+1)) m (sub [1,1] qrc.code) none) (retK qkyc qrc))
theorem qpmc (k m:Nat):∀ (n:Nat) (c3:Cell) (i4 i5:Int) (H6:List Entry),qbo (some [0,1,5]) (qltd k m) (qird k m) n ⟨fT 20 0 [(0,.av (.one (c3))),(1,.av (.one (Cell.int i4))),(5,.av (.one (Cell.int i5)))],fX 20 0 [],H6⟩=qezb (k+1) m n c3 i4 i5 H6:=by
 intro n
 induction n with
 | zero=>intros;rfl
 | succ n ih=>intros;simp only[qezb,← ih];kernel_rfl
theorem qzxc (k m:Nat)(c1:Cell)(i2:Int)(H:List Entry):evC qkyc qrc (evF qkyc (k+1)) m qrc.code none (retK qkyc qrc) (enter qrc [.one (c1),.one (Cell.int i2)] H)=fda (k+1) m c1 i2 H:=by
 simp only[fda,← qpmc k m]
 kernel_rfl
theorem qxyb {c1:Cell}{i2:Int}{H:List Entry}{r:Res}(k:Nat)(h:fda (k+1) (k+1) c1 i2 H=some r):qdt [.one (c1),.one (Cell.int i2)] H=some r:=qap (k:=k+2) (Eq.trans (Eq.trans (by kernel_rfl) (qzxc k (k+1) c1 i2 H)) h)
def qsfd:List (Nat×Run):=[(qkg,qen)]
def qovc:Ctx:=ctx qbd qbe qsfd
def qcrb:Run:=lim qovc qovb
theorem ok_fcw:FnOk Tryz.prog OkT qovb qcrb:=qan (l:=qsfd) qac tyTab_ok qad okT (.cons qqwb .nil) qovb
def qfwb (k m:Nat):Nat→Cell→Int→Int→List Entry→Option Res | 0,_,_,_,_=>none | n+1,c3,i4,i5,H6=>(lenC c3).bind fun n7=>cond (decide (i5 < (n7:Int))) ((qar qen [.one (Cell.int i4)] H6).bind fun r8=>cond (qab qbub r8) ((cS (qaa r8 0) 0).bind fun s9=>(idxA 2 (c3) i5).bind fun c10=>(fldA c10 0).bind fun c11=>(qca H6 (c11) [Cell.str s9]).bind fun h12=>(qar qen [.one (Cell.int (IntKind.i64.wrap (i4+1)))] h12).bind fun r13=>cond (qab qbub r13) ((cS (qaa r13 0) 0).bind fun s14=>(idxA 2 (c3) i5).bind fun c15=>(fldA c15 1).bind fun c16=>(qca h12 (c16) [Cell.str s14]).bind fun h17=>qfwb k m n (c3) (IntKind.i64.wrap ((IntKind.i64.wrap (i4+1))+1)) (IntKind.i64.wrap (i5+1)) h17) none) none) (some ([.one (Cell.int i4)],H6))
def fcw (k m:Nat)(c1:Cell)(i2:Int)(H:List Entry):Option Res:=qfwb k m m (c1) i2 0 H
abbrev qupc (k m:Nat):TB:=evC qovc qqw (evF qovc (k+1)) m (sub [1,0,1,2,3] qqw.code) none
abbrev qcrd (k m:Nat):TK:=qav 0 (seqK (evC qovc qqw (evF qovc (k+1)) m (sub [1,1] qqw.code) none) (retK qovc qqw))
theorem qpfc (k m:Nat):∀ (n:Nat) (c3:Cell) (i4 i5:Int) (H6:List Entry),qbo (some [0,1,5]) (qupc k m) (qcrd k m) n ⟨fT 29 0 [(0,.av (.one (c3))),(1,.av (.one (Cell.int i4))),(5,.av (.one (Cell.int i5)))],fX 29 0 [],H6⟩=qfwb (k+1) m n c3 i4 i5 H6:=by
 intro n
 induction n with
 | zero=>intros;rfl
 | succ n ih=>intros;simp only[qfwb,← ih];kernel_rfl
theorem qcld (k m:Nat)(c1:Cell)(i2:Int)(H:List Entry):evC qovc qqw (evF qovc (k+1)) m qqw.code none (retK qovc qqw) (enter qqw [.one (c1),.one (Cell.int i2)] H)=fcw (k+1) m c1 i2 H:=by
 simp only[fcw,← qpfc k m]
 kernel_rfl
theorem qapc {c1:Cell}{i2:Int}{H:List Entry}{r:Res}(k:Nat)(h:fcw (k+1) (k+1) c1 i2 H=some r):qcrb [.one (c1),.one (Cell.int i2)] H=some r:=qap (k:=k+2) (Eq.trans (Eq.trans (by kernel_rfl) (qcld k (k+1) c1 i2 H)) h)
def qaie:List (Nat×Run):=[(qle,qdt),(qkg,qen)]
def qrvc:Ctx:=ctx qbd qbe qaie
def qazb:Run:=lim qrvc qmrb
theorem ok_fcv:FnOk Tryz.prog OkT qmrb qazb:=qan (l:=qaie) qac tyTab_ok qad okT (.cons qsqb (.cons qqwb .nil)) qmrb
def qffb (k m:Nat):Nat→Cell→Int→Int→List Entry→Option Res | 0,_,_,_,_=>none | n+1,c3,i4,i5,H6=>(lenC c3).bind fun n7=>cond (decide (i5 < (n7:Int))) ((qar qen [.one (Cell.int i4)] H6).bind fun r8=>cond (qab qbub r8) ((cS (qaa r8 0) 0).bind fun s9=>(idxA 2 (c3) i5).bind fun c10=>(fldA c10 0).bind fun c11=>(qca H6 (c11) [Cell.str s9]).bind fun h12=>(idxA 2 (c3) i5).bind fun c13=>(fldA c13 1).bind fun c14=>(deref h12 (c14)).bind fun p15=>(cC p15.1 p15.2).bind fun c16=>(qdt [.one (c16),.one (Cell.int (IntKind.i64.wrap (i4+1)))] h12).bind fun r17=>cond (qab qwg r17.1) ((cI .i64 (qaa r17.1 0) 0).bind fun i18=>qffb k m n (c3) i18 (IntKind.i64.wrap (i5+1)) r17.2) none) none) (some ([.one (Cell.int i4)],H6))
def fcv (k m:Nat)(c1:Cell)(i2:Int)(H:List Entry):Option Res:=qffb k m m (c1) i2 0 H
abbrev qamd (k m:Nat):TB:=evC qrvc qpb (evF qrvc (k+1)) m (sub [1,0,1,2,3] qpb.code) none
abbrev qjad (k m:Nat):TK:=qav 0 (seqK (evC qrvc qpb (evF qrvc (k+1)) m (sub [1,1] qpb.code) none) (retK qrvc qpb))
theorem qhkc (k m:Nat):∀ (n:Nat) (c3:Cell) (i4 i5:Int) (H6:List Entry),qbo (some [0,1,5]) (qamd k m) (qjad k m) n ⟨fT 28 0 [(0,.av (.one (c3))),(1,.av (.one (Cell.int i4))),(5,.av (.one (Cell.int i5)))],fX 28 0 [],H6⟩=qffb (k+1) m n c3 i4 i5 H6:=by
 intro n
 induction n with
 | zero=>intros;rfl
 | succ n ih=>intros;simp only[qffb,← ih];kernel_rfl
theorem qxuc (k m:Nat)(c1:Cell)(i2:Int)(H:List Entry):evC qrvc qpb (evF qrvc (k+1)) m qpb.code none (retK qrvc qpb) (enter qpb [.one (c1),.one (Cell.int i2)] H)=fcv (k+1) m c1 i2 H:=by
 simp only[fcv,← qhkc k m]
 kernel_rfl
theorem qwpb {c1:Cell}{i2:Int}{H:List Entry}{r:Res}(k:Nat)(h:fcv (k+1) (k+1) c1 i2 H=some r):qazb [.one (c1),.one (Cell.int i2)] H=some r:=qap (k:=k+2) (Eq.trans (Eq.trans (by kernel_rfl) (qxuc k (k+1) c1 i2 H)) h)
def qpad:List (Nat×Run):=[(qle,qdt),(qkg,qen),(qovb,qcrb),(qmrb,qazb)]
def qiwc:Ctx:=ctx qbd qbe qpad
def quu:Run:=lim qiwc qnzb
theorem ok_fcx:FnOk Tryz.prog OkT qnzb quu:=qan (l:=qpad) qac tyTab_ok qad okT (.cons qsqb (.cons qqwb (.cons ok_fcw (.cons ok_fcv .nil)))) qnzb
def qfub (k m:Nat):Nat→Cell→Int→Int→List Entry→Option Res | 0,_,_,_,_=>none | n+1,c3,i4,i5,H6=>(lenC c3).bind fun n7=>cond (decide (i5 < (n7:Int))) ((qar qen [.one (Cell.int i4)] H6).bind fun r8=>cond (qab qbub r8) ((cS (qaa r8 0) 0).bind fun s9=>(idxA 4 (c3) i5).bind fun c10=>(fldA c10 0).bind fun c11=>(qca H6 (c11) [Cell.str s9]).bind fun h12=>(idxA 4 (c3) i5).bind fun c13=>(fldA c13 1).bind fun c14=>(deref h12 (c14)).bind fun p15=>(cC p15.1 p15.2).bind fun c16=>(qdt [.one (c16),.one (Cell.int (IntKind.i64.wrap (i4+1)))] h12).bind fun r17=>cond (qab qwg r17.1) ((cI .i64 (qaa r17.1 0) 0).bind fun i18=>(idxA 4 (c3) i5).bind fun c19=>(fldA c19 2).bind fun c20=>(deref r17.2 (c20)).bind fun p21=>(cC p21.1 p21.2).bind fun c22=>(qcrb [.one (c22),.one (Cell.int i18)] r17.2).bind fun r23=>cond (qab qqtd r23.1) ((cI .i64 (qaa r23.1 0) 0).bind fun i24=>(idxA 4 (c3) i5).bind fun c25=>(fldA c25 3).bind fun c26=>(deref r23.2 (c26)).bind fun p27=>(cC p27.1 p27.2).bind fun c28=>(qazb [.one (c28),.one (Cell.int i24)] r23.2).bind fun r29=>cond (qab qxtd r29.1) ((cI .i64 (qaa r29.1 0) 0).bind fun i30=>qfub k m n (c3) i30 (IntKind.i64.wrap (i5+1)) r29.2) none) none) none) none) (some ([.one (Cell.int i4)],H6))
def fcx (k m:Nat)(c1:Cell)(i2:Int)(H:List Entry):Option Res:=qfub k m m (c1) i2 0 H
abbrev qfsd (k m:Nat):TB:=evC qiwc qpa (evF qiwc (k+1)) m (sub [1,0,1,2,3] qpa.code) none
abbrev qyac (k m:Nat):TK:=qav 0 (seqK (evC qiwc qpa (evF qiwc (k+1)) m (sub [1,1] qpa.code) none) (retK qiwc qpa))
theorem qkbc (k m:Nat):∀ (n:Nat) (c3:Cell) (i4 i5:Int) (H6:List Entry),qbo (some [0,1,5]) (qfsd k m) (qyac k m) n ⟨fT 42 0 [(0,.av (.one (c3))),(1,.av (.one (Cell.int i4))),(5,.av (.one (Cell.int i5)))],fX 42 0 [],H6⟩=qfub (k+1) m n c3 i4 i5 H6:=by
 intro n
 induction n with
 | zero=>intros;rfl
 | succ n ih=>intros;simp only[qfub,← ih];kernel_rfl
theorem qaud (k m:Nat)(c1:Cell)(i2:Int)(H:List Entry):evC qiwc qpa (evF qiwc (k+1)) m qpa.code none (retK qiwc qpa) (enter qpa [.one (c1),.one (Cell.int i2)] H)=fcx (k+1) m c1 i2 H:=by
 simp only[fcx,← qkbc k m]
 kernel_rfl
theorem qvsb {c1:Cell}{i2:Int}{H:List Entry}{r:Res}(k:Nat)(h:fcx (k+1) (k+1) c1 i2 H=some r):quu [.one (c1),.one (Cell.int i2)] H=some r:=qap (k:=k+2) (Eq.trans (Eq.trans (by kernel_rfl) (qaud k (k+1) c1 i2 H)) h)
def qotd:List (Nat×Run):=[(qle,qdt),(qkg,qen)]
def qhzc:Ctx:=ctx qbd qbe qotd
def qus:Run:=lim qhzc qkeb
theorem ok_fcz:FnOk Tryz.prog OkT qkeb qus:=qan (l:=qotd) qac tyTab_ok qad okT (.cons qsqb (.cons qqwb .nil)) qkeb
def qfsb (k m:Nat):Nat→Cell→Int→Int→List Entry→Option Res | 0,_,_,_,_=>none | n+1,c3,i4,i5,H6=>(lenC c3).bind fun n7=>cond (decide (i5 < (n7:Int))) ((qar qen [.one (Cell.int i4)] H6).bind fun r8=>cond (qab qbub r8) ((cS (qaa r8 0) 0).bind fun s9=>(idxA 5 (c3) i5).bind fun c10=>(fldA c10 0).bind fun c11=>(qca H6 (c11) [Cell.str s9]).bind fun h12=>(idxA 5 (c3) i5).bind fun c13=>(fldA c13 1).bind fun c14=>(deref h12 (c14)).bind fun p15=>(cC p15.1 p15.2).bind fun c16=>(qdt [.one (c16),.one (Cell.int (IntKind.i64.wrap (i4+1)))] h12).bind fun r17=>cond (qab qwg r17.1) ((cI .i64 (qaa r17.1 0) 0).bind fun i18=>(idxA 5 (c3) i5).bind fun c19=>(fldA c19 2).bind fun c20=>(deref r17.2 (c20)).bind fun p21=>(cC p21.1 p21.2).bind fun c22=>(qdt [.one (c22),.one (Cell.int i18)] r17.2).bind fun r23=>cond (qab qwg r23.1) ((cI .i64 (qaa r23.1 0) 0).bind fun i24=>(idxA 5 (c3) i5).bind fun c25=>(fldA c25 3).bind fun c26=>(deref r23.2 (c26)).bind fun p27=>(cC p27.1 p27.2).bind fun c28=>(qdt [.one (c28),.one (Cell.int i24)] r23.2).bind fun r29=>cond (qab qwg r29.1) ((cI .i64 (qaa r29.1 0) 0).bind fun i30=>(idxA 5 (c3) i5).bind fun c31=>(fldA c31 4).bind fun c32=>(qca r29.2 (c32) [Cell.bool ((i30.tmod 3)==0)]).bind fun h33=>qfsb k m n (c3) (IntKind.i64.wrap (i30+1)) (IntKind.i64.wrap (i5+1)) h33) none) none) none) none) (some ([.one (Cell.int i4)],H6))
def fcz (k m:Nat)(c1:Cell)(i2:Int)(H:List Entry):Option Res:=qfsb k m m (c1) i2 0 H
abbrev qkpd (k m:Nat):TB:=evC qhzc qpm (evF qhzc (k+1)) m (sub [1,0,1,2,3] qpm.code) none
abbrev qwnc (k m:Nat):TK:=qav 0 (seqK (evC qhzc qpm (evF qhzc (k+1)) m (sub [1,1] qpm.code) none) (retK qhzc qpm))
theorem qlkc (k m:Nat):∀ (n:Nat) (c3:Cell) (i4 i5:Int) (H6:List Entry),qbo (some [0,1,5]) (qkpd k m) (qwnc k m) n ⟨fT 51 0 [(0,.av (.one (c3))),(1,.av (.one (Cell.int i4))),(5,.av (.one (Cell.int i5)))],fX 51 0 [],H6⟩=qfsb (k+1) m n c3 i4 i5 H6:=by
 intro n
 induction n with
 | zero=>intros;rfl
 | succ n ih=>intros;simp only[qfsb,← ih];kernel_rfl
theorem qzoc (k m:Nat)(c1:Cell)(i2:Int)(H:List Entry):evC qhzc qpm (evF qhzc (k+1)) m qpm.code none (retK qhzc qpm) (enter qpm [.one (c1),.one (Cell.int i2)] H)=fcz (k+1) m c1 i2 H:=by
 simp only[fcz,← qlkc k m]
 kernel_rfl
theorem qamc {c1:Cell}{i2:Int}{H:List Entry}{r:Res}(k:Nat)(h:fcz (k+1) (k+1) c1 i2 H=some r):qus [.one (c1),.one (Cell.int i2)] H=some r:=qap (k:=k+2) (Eq.trans (Eq.trans (by kernel_rfl) (qzoc k (k+1) c1 i2 H)) h)
def qxkd:List (Nat×Run):=[(qle,qdt)]
def qitc:Ctx:=ctx qbd qbe qxkd
def qyu:Run:=lim qitc qnmb
theorem ok_fdb:FnOk Tryz.prog OkT qnmb qyu:=qan (l:=qxkd) qac tyTab_ok qad okT (.cons qsqb .nil) qnmb
def qeib (k m:Nat):Nat→Cell→Int→Int→List Entry→Option Res | 0,_,_,_,_=>none | n+1,c3,i4,i5,H6=>(lenC c3).bind fun n7=>cond (decide (i5 < (n7:Int))) ((idxA 1 (c3) i5).bind fun c8=>(deref H6 (c8)).bind fun p9=>(cC p9.1 p9.2).bind fun c10=>(qdt [.one (c10),.one (Cell.int i4)] H6).bind fun r11=>cond (qab qwg r11.1) ((cI .i64 (qaa r11.1 0) 0).bind fun i12=>qeib k m n (c3) i12 (IntKind.i64.wrap (i5+1)) r11.2) none) (some ([.one (Cell.int i4)],H6))
def fdb (k m:Nat)(c1:Cell)(i2:Int)(H:List Entry):Option Res:=qeib k m m (c1) i2 0 H
abbrev qetd (k m:Nat):TB:=evC qitc qsm (evF qitc (k+1)) m (sub [1,0,1,2,3] qsm.code) none
abbrev qyic (k m:Nat):TK:=qav 0 (seqK (evC qitc qsm (evF qitc (k+1)) m (sub [1,1] qsm.code) none) (retK qitc qsm))
theorem qqbc (k m:Nat):∀ (n:Nat) (c3:Cell) (i4 i5:Int) (H6:List Entry),qbo (some [0,1,5]) (qetd k m) (qyic k m) n ⟨fT 19 0 [(0,.av (.one (c3))),(1,.av (.one (Cell.int i4))),(5,.av (.one (Cell.int i5)))],fX 19 0 [],H6⟩=qeib (k+1) m n c3 i4 i5 H6:=by
 intro n
 induction n with
 | zero=>intros;rfl
 | succ n ih=>intros;simp only[qeib,← ih];kernel_rfl
theorem qkad (k m:Nat)(c1:Cell)(i2:Int)(H:List Entry):evC qitc qsm (evF qitc (k+1)) m qsm.code none (retK qitc qsm) (enter qsm [.one (c1),.one (Cell.int i2)] H)=fdb (k+1) m c1 i2 H:=by
 simp only[fdb,← qqbc k m]
 kernel_rfl
theorem qzgb {c1:Cell}{i2:Int}{H:List Entry}{r:Res}(k:Nat)(h:fdb (k+1) (k+1) c1 i2 H=some r):qyu [.one (c1),.one (Cell.int i2)] H=some r:=qap (k:=k+2) (Eq.trans (Eq.trans (by kernel_rfl) (qkad k (k+1) c1 i2 H)) h)
def qutd:List (Nat×Run):=[(qle,qdt),(qnmb,qyu)]
def qbee:Ctx:=ctx qbd qbe qutd
def qug:Run:=lim qbee qoeb
theorem ok_fcy:FnOk Tryz.prog OkT qoeb qug:=qan (l:=qutd) qac tyTab_ok qad okT (.cons qsqb (.cons ok_fdb .nil)) qoeb
def fcy (k m:Nat)(c1 c2:Cell)(i3:Int)(H:List Entry):Option Res:=(qdt [.one (c1),.one (Cell.int i3)] H).bind fun r4=>cond (qab qwg r4.1) ((cI .i64 (qaa r4.1 0) 0).bind fun i5=>(qyu [.one (c2),.one (Cell.int i5)] r4.2).bind fun r6=>cond (qab qmnd r6.1) ((cI .i64 (qaa r6.1 0) 0).bind fun i7=>some ([.one (Cell.int i7)],r6.2)) none) none
theorem qxwc (k m:Nat)(c1 c2:Cell)(i3:Int)(H:List Entry):evC qbee qrqb (evF qbee (k+1)) m qrqb.code none (retK qbee qrqb) (enter qrqb [.agg [c1,c2],.one (Cell.int i3)] H)=fcy (k+1) m c1 c2 i3 H:=by
 kernel_rfl
theorem qavc {c1 c2:Cell}{i3:Int}{H:List Entry}{r:Res}(k:Nat)(h:fcy (k+1) (k+1) c1 c2 i3 H=some r):qug [.agg [c1,c2],.one (Cell.int i3)] H=some r:=qap (k:=k+2) (Eq.trans (Eq.trans (by kernel_rfl) (qxwc k (k+1) c1 c2 i3 H)) h)
def qxcd:List (Nat×Run):=[(qkg,qen)]
def qhbc:Ctx:=ctx qbd qbe qxcd
def qpj:Run:=lim qhbc qdhb
theorem qqad:FnOk Tryz.prog OkT qdhb qpj:=qan (l:=qxcd) qac tyTab_ok qad okT (.cons qqwb .nil) qdhb
def qgwb (k m:Nat):Nat→Cell→Int→Int→Option Res | 0,_,_,_=>none | n+1,c3,i4,i5=>(lenC c3).bind fun n6=>cond (decide (i5 < (n6:Int))) ((idxA 1 (c3) i5).bind fun c7=>(deref [] (c7)).bind fun p8=>(cS p8.1 p8.2).bind fun s9=>(qar qen [.one (Cell.int i4)] []).bind fun r10=>cond (qab qbub r10) ((cS (qaa r10 0) 0).bind fun s11=>cond (!(s9.toList==s11.toList)) (some ([.one (Cell.int (-1))],[])) (qgwb k m n (c3) (IntKind.i64.wrap (i4+1)) (IntKind.i64.wrap (i5+1)))) none) (some ([.one (Cell.int i4)],[]))
def fct (k m:Nat)(c1:Cell)(i2:Int):Option Res:=qgwb k m m (c1) i2 0
abbrev qghd (k m:Nat):TB:=evC qhbc qoj (evF qhbc (k+1)) m (sub [1,0,1,2,3] qoj.code) none
abbrev qlgd (k m:Nat):TK:=qav 0 (seqK (evC qhbc qoj (evF qhbc (k+1)) m (sub [1,1] qoj.code) none) (retK qhbc qoj))
theorem qghc (k m:Nat):∀ (n:Nat) (c3:Cell) (i4 i5:Int),qbo (some [0,1,5]) (qghd k m) (qlgd k m) n ⟨fT 22 0 [(0,.av (.one (c3))),(1,.av (.one (Cell.int i4))),(5,.av (.one (Cell.int i5)))],fX 22 0 [],[]⟩=qgwb (k+1) m n c3 i4 i5:=by
 intro n
 induction n with
 | zero=>intros;rfl
 | succ n ih=>intros;simp only[qgwb,← ih];kernel_rfl
theorem qied (k m:Nat)(c1:Cell)(i2:Int):evC qhbc qoj (evF qhbc (k+1)) m qoj.code none (retK qhbc qoj) (enter qoj [.one (c1),.one (Cell.int i2)] [])=fct (k+1) m c1 i2:=by
 simp only[fct,← qghc k m]
 kernel_rfl
theorem qznb {c1:Cell}{i2:Int}{r:Res}(k:Nat)(h:fct (k+1) (k+1) c1 i2=some r):qpj [.one (c1),.one (Cell.int i2)] []=some r:=qap (k:=k+2) (Eq.trans (Eq.trans (by kernel_rfl) (qied k (k+1) c1 i2)) h)
def qzqd:List (Nat×Run):=[(qdhb,qpj)]
def qnkc:Ctx:=ctx qbd qbe qzqd
def qxp:Run:=lim qnkc qkob
theorem ok_fcu:FnOk Tryz.prog OkT qkob qxp:=qan (l:=qzqd) qac tyTab_ok qad okT (.cons qqad .nil) qkob
def qgbb (k m:Nat):Nat→Cell→Int→Int→Option Res | 0,_,_,_=>none | n+1,c3,i4,i5=>(lenC c3).bind fun n6=>cond (decide (i5 < (n6:Int))) ((idxA 1 (c3) i5).bind fun c7=>(deref [] (c7)).bind fun p8=>(cC p8.1 p8.2).bind fun c9=>(qar qpj [.one (c9),.one (Cell.int i4)] []).bind fun r10=>cond (qab qyoc r10) ((cI .i64 (qaa r10 0) 0).bind fun i11=>cond (decide (i11 < 0)) (some ([.one (Cell.int (-1))],[])) (qgbb k m n (c3) i11 (IntKind.i64.wrap (i5+1)))) none) (some ([.one (Cell.int i4)],[]))
def fcu (k m:Nat)(c1:Cell)(i2:Int):Option Res:=qgbb k m m (c1) i2 0
abbrev qjyd (k m:Nat):TB:=evC qnkc qpo (evF qnkc (k+1)) m (sub [1,0,1,2,3] qpo.code) none
abbrev qivd (k m:Nat):TK:=qav 0 (seqK (evC qnkc qpo (evF qnkc (k+1)) m (sub [1,1] qpo.code) none) (retK qnkc qpo))
theorem qdlc (k m:Nat):∀ (n:Nat) (c3:Cell) (i4 i5:Int),qbo (some [0,1,5]) (qjyd k m) (qivd k m) n ⟨fT 21 0 [(0,.av (.one (c3))),(1,.av (.one (Cell.int i4))),(5,.av (.one (Cell.int i5)))],fX 21 0 [],[]⟩=qgbb (k+1) m n c3 i4 i5:=by
 intro n
 induction n with
 | zero=>intros;rfl
 | succ n ih=>intros;simp only[qgbb,← ih];kernel_rfl
theorem qljd (k m:Nat)(c1:Cell)(i2:Int):evC qnkc qpo (evF qnkc (k+1)) m qpo.code none (retK qnkc qpo) (enter qpo [.one (c1),.one (Cell.int i2)] [])=fcu (k+1) m c1 i2:=by
 simp only[fcu,← qdlc k m]
 kernel_rfl
theorem qzjb {c1:Cell}{i2:Int}{r:Res}(k:Nat)(h:fcu (k+1) (k+1) c1 i2=some r):qxp [.one (c1),.one (Cell.int i2)] []=some r:=qap (k:=k+2) (Eq.trans (Eq.trans (by kernel_rfl) (qljd k (k+1) c1 i2)) h)
def quyd:List (Nat×Run):=[(qdhb,qpj),(qkob,qxp)]
def qbme:Ctx:=ctx qbd qbe quyd
def qmo:Run:=lim qbme qjwb
theorem ok_fcs:FnOk Tryz.prog OkT qjwb qmo:=qan (l:=quyd) qac tyTab_ok qad okT (.cons qqad (.cons ok_fcu .nil)) qjwb
def fcs (k m:Nat)(c1 c2:Cell)(i3:Int):Option Res:=(qar qpj [.one (c1),.one (Cell.int i3)] []).bind fun r4=>cond (qab qyoc r4) ((cI .i64 (qaa r4 0) 0).bind fun i5=>cond (decide (i5 < 0)) (some ([.one (Cell.int (-1))],[])) ((qar qxp [.one (c2),.one (Cell.int i5)] []).bind fun r6=>cond (qab qnjd r6) ((cI .i64 (qaa r6 0) 0).bind fun i7=>cond (decide (i7 < 0)) (some ([.one (Cell.int (-1))],[])) (some ([.one (Cell.int i7)],[]))) none)) none
theorem qvic (k m:Nat)(c1 c2:Cell)(i3:Int):evC qbme qrbb (evF qbme (k+1)) m qrbb.code none (retK qbme qrbb) (enter qrbb [.agg [c1,c2],.one (Cell.int i3)] [])=fcs (k+1) m c1 c2 i3:=by
 kernel_rfl
theorem qugb {c1 c2:Cell}{i3:Int}{r:Res}(k:Nat)(h:fcs (k+1) (k+1) c1 c2 i3=some r):qmo [.agg [c1,c2],.one (Cell.int i3)] []=some r:=qap (k:=k+2) (Eq.trans (Eq.trans (by kernel_rfl) (qvic k (k+1) c1 c2 i3)) h)
def qrmd:List (Nat×Run):=[(qndb,qzy),(qkbb,qww),(qrf,qfv),(qieb,qrh),(qmzb,qma),(qmwb,qmf),(qqb,qem),(qnvb,qmn),(qllb,qja),(qmhb,qtk),(qoab,qtu),(qla,qdu),(qnzb,quu),(qkeb,qus),(qle,qdt),(qoeb,qug),(qjwb,qmo)]
def qbye:Ctx:=ctx qbd qbe qrmd
def quab:Run:=lim qbye qvxb
theorem ok_fcg:FnOk Tryz.prog OkT qvxb quab:=qan (l:=qrmd) qac tyTab_ok qad okT (.cons ok_fdi (.cons ok_fdk (.cons qnlc (.cons ok_fen (.cons ok_fdr (.cons ok_fdt (.cons qlsc (.cons ok_fan (.cons ok_fcn (.cons ok_fcm (.cons ok_fcp (.cons qrgb (.cons ok_fcx (.cons ok_fcz (.cons qsqb (.cons ok_fcy (.cons ok_fcs .nil))))))))))))))))) qvxb
def fcg (k m:Nat)(c1 c2 c3:Cell):Option Res:=(qar qzy [.one (c1),.one (Cell.int 1048576)] []).bind fun r4=>cond (qab qsrd r4) ((cI .i64 (qaa r4 0) 0).bind fun i5=>cond (decide (i5 < 0)) (some ([.one (Cell.bool true)],[])) ((qar qww [.one (c2),.one (Cell.int i5)] []).bind fun r6=>cond (qab qaxe r6) ((cI .i64 (qaa r6 0) 0).bind fun i7=>cond (decide (i7 < 0)) (some ([.one (Cell.bool true)],[])) ((qar qfv [.one (c3),.one (Cell.int i7)] []).bind fun r8=>cond (qab qfib r8) ((cI .i64 (qaa r8 0) 0).bind fun i9=>cond (decide (i9 < 0)) (some ([.one (Cell.bool true)],[])) ((qdk qma [.one (c1)] []).bind fun r10=>cond (qab qvhb r10.1) ((cC (qaa r10.1 0) 0).bind fun c11=>(qdk qmf [.one (c2)] r10.2).bind fun r12=>cond (qab qzab r12.1) ((cC (qaa r12.1 0) 0).bind fun c13=>(qdk qem [.one (c3)] r12.2).bind fun r14=>cond (qab qst r14.1) ((cC (qaa r14.1 0) 0).bind fun c15=>(callL qrh [.one (c11),.one (c13),.one (c15)] r14.2).bind fun r16=>cond (qab qytd r16.1) ((cC (qaa r16.1 0) 0).bind fun c17=>(cC (qaa r16.1 0) 1).bind fun c18=>(cB (qaa r16.1 1) 0).bind fun b19=>(qdk qma [.one (c1)] r16.2).bind fun r20=>cond (qab qvhb r20.1) ((cC (qaa r20.1 0) 0).bind fun c21=>(qdk qmf [.one (c2)] r20.2).bind fun r22=>cond (qab qzab r22.1) ((cC (qaa r22.1 0) 0).bind fun c23=>(qdk qem [.one (c3)] r22.2).bind fun r24=>cond (qab qst r24.1) ((cC (qaa r24.1 0) 0).bind fun c25=>(qdk qmn [.one (c21),.one (c23),.one (c25)] r24.2).bind fun r26=>cond (qab qzdc r26.1) ((cC (qaa r26.1 0) 0).bind fun c27=>(cC (qaa r26.1 0) 1).bind fun c28=>(cB (qaa r26.1 1) 0).bind fun b29=>(qar qja [.agg [c27,c28],.agg [c17,c18]] r26.2).bind fun r30=>cond (qab qqic r30) ((cB (qaa r30 0) 0).bind fun b31=>cond (!b31) (some ([.one (Cell.bool false)],r26.2)) (cond (!(b29==b19)) (some ([.one (Cell.bool false)],r26.2)) ((qdk qma [.one (c1)] r26.2).bind fun r32=>cond (qab qvhb r32.1) ((cC (qaa r32.1 0) 0).bind fun c33=>(qar qtk [.one (c21),.one (c33)] r32.2).bind fun r34=>cond (qab qrdd r34) ((cB (qaa r34 0) 0).bind fun b35=>cond (!b35) (some ([.one (Cell.bool false)],r32.2)) ((qdk qmf [.one (c2)] r32.2).bind fun r36=>cond (qab qzab r36.1) ((cC (qaa r36.1 0) 0).bind fun c37=>(qar qtu [.one (c23),.one (c37)] r36.2).bind fun r38=>cond (qab qubd r38) ((cB (qaa r38 0) 0).bind fun b39=>cond (!b39) (some ([.one (Cell.bool false)],r36.2)) ((qdk qem [.one (c3)] r36.2).bind fun r40=>cond (qab qst r40.1) ((cC (qaa r40.1 0) 0).bind fun c41=>(qar qdu [.one (c25),.one (c41)] r40.2).bind fun r42=>cond (qab qvu r42) ((cB (qaa r42 0) 0).bind fun b43=>cond (!b43) (some ([.one (Cell.bool false)],r40.2)) ((quu [.one (c21),.one (Cell.int 1)] r40.2).bind fun r44=>cond (qab qvvd r44.1) ((cI .i64 (qaa r44.1 0) 0).bind fun i45=>(qus [.one (c23),.one (Cell.int i45)] r44.2).bind fun r46=>cond (qab qvid r46.1) ((cI .i64 (qaa r46.1 0) 0).bind fun i47=>(qdt [.one (c25),.one (Cell.int i47)] r46.2).bind fun r48=>cond (qab qwg r48.1) ((cI .i64 (qaa r48.1 0) 0).bind fun i49=>cond (decide (i49 < 0)) (some ([.one (Cell.bool false)],r48.2)) ((qar qja [.agg [c27,c28],.agg [c17,c18]] r48.2).bind fun r50=>cond (qab qqic r50) ((cB (qaa r50 0) 0).bind fun b51=>cond (!b51) (some ([.one (Cell.bool false)],r48.2)) (cond (!(b29==b19)) (some ([.one (Cell.bool false)],r48.2)) ((qug [.agg [c27,c28],.one (Cell.int 1)] r48.2).bind fun r52=>cond (qab qzmd r52.1) ((cI .i64 (qaa r52.1 0) 0).bind fun i53=>(qar qmo [.agg [c27,c28],.one (Cell.int 1)] r52.2).bind fun r54=>cond (qab qhgd r54) ((cI .i64 (qaa r54 0) 0).bind fun i55=>cond (decide (i55 < 0)) (some ([.one (Cell.bool false)],r52.2)) (cond (i55 != i53) (some ([.one (Cell.bool false)],r52.2)) ((qdk qma [.one (c1)] r52.2).bind fun r56=>cond (qab qvhb r56.1) ((cC (qaa r56.1 0) 0).bind fun c57=>(qdk qmf [.one (c2)] r56.2).bind fun r58=>cond (qab qzab r58.1) ((cC (qaa r58.1 0) 0).bind fun c59=>(qdk qem [.one (c3)] r58.2).bind fun r60=>cond (qab qst r60.1) ((cC (qaa r60.1 0) 0).bind fun c61=>(qdk qmn [.one (c57),.one (c59),.one (c61)] r60.2).bind fun r62=>cond (qab qzdc r62.1) ((cC (qaa r62.1 0) 0).bind fun c63=>(cC (qaa r62.1 0) 1).bind fun c64=>(cB (qaa r62.1 1) 0).bind fun b65=>(qar qja [.agg [c63,c64],.agg [c17,c18]] r62.2).bind fun r66=>cond (qab qqic r66) ((cB (qaa r66 0) 0).bind fun b67=>cond (!b67) (some ([.one (Cell.bool false)],r62.2)) (cond (!(b65==b19)) (some ([.one (Cell.bool false)],r62.2)) ((qar qmo [.agg [c27,c28],.one (Cell.int 1)] r62.2).bind fun r68=>cond (qab qhgd r68) ((cI .i64 (qaa r68 0) 0).bind fun i69=>cond (decide (i69 < 0)) (some ([.one (Cell.bool false)],r62.2)) (cond (i69 != i53) (some ([.one (Cell.bool false)],r62.2)) (some ([.one (Cell.bool true)],r62.2)))) none))) none) none) none) none) none))) none) none))) none)) none) none) none)) none) none)) none) none)) none) none))) none) none) none) none) none) none) none) none) none)) none)) none)) none
theorem qyrc (k m:Nat)(c1 c2 c3:Cell):evC qbye qsub (evF qbye (k+1)) m qsub.code none (retK qbye qsub) (enter qsub [.one (c1),.one (c2),.one (c3)] [])=fcg (k+1) m c1 c2 c3:=by
 kernel_rfl
theorem qke {c1 c2 c3:Cell}{r:Res}(k:Nat)(h:fcg (k+1) (k+1) c1 c2 c3=some r):quab [.one (c1),.one (c2),.one (c3)] []=some r:=qap (k:=k+2) (Eq.trans (Eq.trans (by kernel_rfl) (qyrc k (k+1) c1 c2 c3)) h)
end
end Go.Ev
