/- What the evaluator says of the functions, each as a Lean function over cells. Printed by a program of this claim. Conditions: none. -/
import Derived.Test.YteenbnljpddleaaGreatDoorSh5
import Derived.KernelRfl
namespace Go.Ev
open Go Go.Proofs
noncomputable section
set_option maxRecDepth 100000
set_option linter.unusedVariables false
set_option linter.unusedSimpArgs false
def qqkd:List (Nat×Run):=[(qmm,qew),(qksb,qdjb)]
def qewc:Ctx:=ctx qbd qbe qqkd
def qxo:Run:=lim qewc qkwb
theorem ok_faj:FnOk Tryz.prog OkT qkwb qxo:=qan (l:=qqkd) qac tyTab_ok qad okT (.cons qwlb (.cons ok_fbk .nil)) qkwb
def qftb (k m:Nat):Nat→Cell→Cell→Int→Int→List Entry→Option Res | 0,_,_,_,_,_=>none | n+1,c6,c7,i8,i9,H10=>cond (decide (i9 < i8)) ((idxA 1 (c7) i9).bind fun c11=>(deref H10 (c11)).bind fun p12=>(cS p12.1 p12.2).bind fun s13=>(callL qdjb [.one (Cell.str s13)] H10).bind fun r14=>cond (qab qscd r14.1) ((cC (qaa r14.1 0) 0).bind fun c15=>(cB (qaa r14.1 1) 0).bind fun b16=>cond (!b16) (some ([.one (.lst true 1 []),.one (Cell.bool false)],r14.2)) (restK [c15] fun d17=>(qbp r14.2 1 (.lst true 1 (chunks 1 1 d17))).bind fun r18=>(app r14.2 1 24 (c6) r18).bind fun p19=>qftb k m n (p19.1) (c7) i8 (IntKind.i64.wrap (i9+1)) p19.2)) none) (some ([.one (c6),.one (Cell.bool true)],H10))
def faj (k m:Nat)(s1:ByteArray):Option Res:=(qdk qew [.one (Cell.str s1),.one (Cell.str (bs [124,124]))] []).bind fun r2=>cond (qab qfeb r2.1) ((cC (qaa r2.1 0) 0).bind fun c3=>(lenC c3).bind fun n4=>cond (decide ((n4:Int) > 4)) (some ([.one (.lst true 1 []),.one (Cell.bool false)],r2.2)) ((lenC c3).bind fun n5=>qftb k m m (.lst true 1 []) (c3) (n5:Int) 0 r2.2)) none
abbrev qxdc (k m:Nat):TB:=evC qewc qqk (evF qewc (k+1)) m (sub [1,1,1,1,0,1,2,3] qqk.code) none
abbrev qigd (k m:Nat):TK:=qav 0 (seqK (evC qewc qqk (evF qewc (k+1)) m (sub [1,1,1,1,1] qqk.code) none) (retK qewc qqk))
theorem qodc (k m:Nat):∀ (n:Nat) (c6 c7:Cell) (i8 i9:Int) (H10:List Entry),qbo (some [5,15,16,17]) (qxdc k m) (qigd k m) n ⟨fT 34 0 [(5,.av (.one (c6))),(15,.av (.one (c7))),(16,.av (.one (Cell.int i8))),(17,.av (.one (Cell.int i9)))],fX 34 0 [],H10⟩=qftb (k+1) m n c6 c7 i8 i9 H10:=by
 intro n
 induction n with
 | zero=>intros;rfl
 | succ n ih=>intros;simp only[qftb,← ih];kernel_rfl
theorem qbnd (k m:Nat)(s1:ByteArray):evC qewc qqk (evF qewc (k+1)) m qqk.code none (retK qewc qqk) (enter qqk [.one (Cell.str s1)] [])=faj (k+1) m s1:=by
 simp only[faj,← qodc k m]
 kernel_rfl
theorem qzs {s1:ByteArray}{r:Res}(k:Nat)(h:faj (k+1) (k+1) s1=some r):qxo [.one (Cell.str s1)] []=some r:=qap (k:=k+2) (Eq.trans (Eq.trans (by kernel_rfl) (qbnd k (k+1) s1)) h)
def qxyd:List (Nat×Run):=[(qiz,qdl),(qkwb,qxo)]
def qcke:Ctx:=ctx qbd qbe qxyd
def qdfb:Run:=lim qcke qimb
theorem ok_fbm:FnOk Tryz.prog OkT qimb qdfb:=qan (l:=qxyd) qac tyTab_ok qad okT (.cons qhzb (.cons ok_faj .nil)) qimb
def fbm (k m:Nat)(s1 s2:ByteArray):Option Res:=(callL qxo [.one (Cell.str s2)] []).bind fun r3=>cond (qab qsld r3.1) ((cC (qaa r3.1 0) 0).bind fun c4=>(cB (qaa r3.1 1) 0).bind fun b5=>cond b5 ((qar qdl [.one (Cell.str s1)] r3.2).bind fun r6=>cond (qab qqs r6) ((cB (qaa r6 0) 0).bind fun b7=>cond b7 (some ([.one (Cell.bool (decide ((s2.size:Int)≤20)))],r3.2)) (some ([.one (Cell.bool false)],r3.2))) none) (some ([.one (Cell.bool false)],r3.2))) none
theorem quhc (k m:Nat)(s1 s2:ByteArray):evC qcke qrpb (evF qcke (k+1)) m qrpb.code none (retK qcke qrpb) (enter qrpb [.agg [Cell.str s1,Cell.str s2]] [])=fbm (k+1) m s1 s2:=by
 kernel_rfl
theorem qauc {s1 s2:ByteArray}{r:Res}(k:Nat)(h:fbm (k+1) (k+1) s1 s2=some r):qdfb [.agg [Cell.str s1,Cell.str s2]] []=some r:=qap (k:=k+2) (Eq.trans (Eq.trans (by kernel_rfl) (quhc k (k+1) s1 s2)) h)
def qvpd:List (Nat×Run):=[(qimb,qdfb)]
def qrjc:Ctx:=ctx qbd qbe qvpd
def qzm:Run:=lim qrjc qlmb
theorem ok_fbn:FnOk Tryz.prog OkT qlmb qzm:=qan (l:=qvpd) qac tyTab_ok qad okT (.cons ok_fbm .nil) qlmb
def qza (k m:Nat):Nat→Cell→Cell→Int→Int→Option Res | 0,_,_,_,_=>none | n+1,c3,c4,i5,i6=>cond (decide (i6 < i5)) ((idxA 2 (c4) i6).bind fun c7=>(deref [] (c7)).bind fun p8=>(cS p8.1 p8.2).bind fun s9=>(cS p8.1 (p8.2+1)).bind fun s10=>(qar qdfb [.agg [Cell.str s9,Cell.str s10]] []).bind fun r11=>cond (qab qnzd r11) ((cB (qaa r11 0) 0).bind fun b12=>cond (!b12) (some ([.one (Cell.bool false)],[])) (cond (decide (i6 > 0)) ((idxA 2 (c3) (IntKind.i64.wrap (i6 - 1))).bind fun c13=>(fldA c13 0).bind fun c14=>(deref [] (c14)).bind fun p15=>(cS p15.1 p15.2).bind fun s16=>cond (Op.bytesLess s9.toList s16.toList||s9.toList==s16.toList) (some ([.one (Cell.bool false)],[])) (qza k m n (c3) (c4) i5 (IntKind.i64.wrap (i6+1)))) (qza k m n (c3) (c4) i5 (IntKind.i64.wrap (i6+1))))) none) ((lenC c3).bind fun n17=>some ([.one (Cell.bool (decide ((n17:Int)≤4)))],[]))
def fbn (k m:Nat)(c1:Cell):Option Res:=(lenC c1).bind fun n2=>qza k m m (c1) (c1) (n2:Int) 0
abbrev qjrd (k m:Nat):TB:=evC qrjc qsk (evF qrjc (k+1)) m (sub [1,0,1,2,3] qsk.code) none
abbrev qbxd (k m:Nat):TK:=qav 0 (seqK (evC qrjc qsk (evF qrjc (k+1)) m (sub [1,1] qsk.code) none) (retK qrjc qsk))
theorem qeoc (k m:Nat):∀ (n:Nat) (c3 c4:Cell) (i5 i6:Int),qbo (some [0,5,6,7]) (qjrd k m) (qbxd k m) n ⟨fT 34 0 [(0,.av (.one (c3))),(5,.av (.one (c4))),(6,.av (.one (Cell.int i5))),(7,.av (.one (Cell.int i6)))],fX 34 0 [],[]⟩=qza (k+1) m n c3 c4 i5 i6:=by
 intro n
 induction n with
 | zero=>intros;rfl
 | succ n ih=>intros;simp only[qza,← ih];kernel_rfl
theorem qyvc (k m:Nat)(c1:Cell):evC qrjc qsk (evF qrjc (k+1)) m qsk.code none (retK qrjc qsk) (enter qsk [.one (c1)] [])=fbn (k+1) m c1:=by
 simp only[fbn,← qeoc k m]
 kernel_rfl
theorem qywb {c1:Cell}{r:Res}(k:Nat)(h:fbn (k+1) (k+1) c1=some r):qzm [.one (c1)] []=some r:=qap (k:=k+2) (Eq.trans (Eq.trans (by kernel_rfl) (qyvc k (k+1) c1)) h)
def qzhd:List (Nat×Run):=[(qnbb,qcob),(qiz,qdl),(qbjb,qky),(qjnb,qcqb),(qlmb,qzm)]
def qngc:Ctx:=ctx qbd qbe qzhd
def qxw:Run:=lim qngc qixb
theorem ok_fag:FnOk Tryz.prog OkT qixb qxw:=qan (l:=qzhd) qac tyTab_ok qad okT (.cons ok_fay (.cons qhzb (.cons qzzd (.cons ok_fbd (.cons ok_fbn .nil))))) qixb
def qcib (k m:Nat):Nat→Cell→Int→Int→ByteArray→Cell→Cell→Cell→Option Res | 0,_,_,_,_,_,_,_=>none | n+1,c6,i7,i8,s9,c10,c11,c12=>cond (decide (i8 < i7)) ((idxA 2 (c6) i8).bind fun c13=>(deref [] (c13)).bind fun p14=>(cS p14.1 p14.2).bind fun s15=>(cC p14.1 (p14.2+1)).bind fun c16=>(qar qcob [.agg [Cell.str s15,c16]] []).bind fun r17=>cond (qab qtsd r17) ((cB (qaa r17 0) 0).bind fun b18=>cond (!b18) (some ([.one (Cell.bool false)],[])) (cond (decide (i8 > 0)) ((idxA 2 (c12) (IntKind.i64.wrap (i8 - 1))).bind fun c19=>(fldA c19 0).bind fun c20=>(deref [] (c20)).bind fun p21=>(cS p21.1 p21.2).bind fun s22=>cond (Op.bytesLess s15.toList s22.toList||s15.toList==s22.toList) (some ([.one (Cell.bool false)],[])) (qcib k m n (c6) i7 (IntKind.i64.wrap (i8+1)) s9 (c10) (c11) (c12))) (qcib k m n (c6) i7 (IntKind.i64.wrap (i8+1)) s9 (c10) (c11) (c12)))) none) ((qar qdl [.one (Cell.str s9)] []).bind fun r23=>cond (qab qqs r23) ((cB (qaa r23 0) 0).bind fun b24=>cond b24 ((qar qky [.one (c10),.one (Cell.int 4)] []).bind fun r25=>cond (qab qikd r25) ((cB (qaa r25 0) 0).bind fun b26=>cond b26 ((qar qcqb [.one (c10)] []).bind fun r27=>cond (qab qsmd r27) ((cB (qaa r27 0) 0).bind fun b28=>cond b28 ((qar qzm [.one (c11)] []).bind fun r29=>cond (qab qwrd r29) ((cB (qaa r29 0) 0).bind fun b30=>cond b30 ((lenC c12).bind fun n31=>some ([.one (Cell.bool (decide ((n31:Int)≤4)))],[])) (some ([.one (Cell.bool false)],[]))) none) (some ([.one (Cell.bool false)],[]))) none) (some ([.one (Cell.bool false)],[]))) none) (some ([.one (Cell.bool false)],[]))) none)
def fag (k m:Nat)(s1:ByteArray)(c2 c3 c4:Cell):Option Res:=(lenC c4).bind fun n5=>qcib k m m (c4) (n5:Int) 0 s1 (c2) (c3) (c4)
abbrev qvoc (k m:Nat):TB:=evC qngc qrx (evF qngc (k+1)) m (sub [1,0,1,2,3] qrx.code) none
abbrev qgyd (k m:Nat):TK:=qav 0 (seqK (evC qngc qrx (evF qngc (k+1)) m (sub [1,1] qrx.code) none) (retK qngc qrx))
theorem qqcc (k m:Nat):∀ (n:Nat) (c6:Cell) (i7 i8:Int) (s9:ByteArray) (c10 c11 c12:Cell),qbo (some [1,6,7,8]) (qvoc k m) (qgyd k m) n ⟨fT 57 0 [(1,.loc 1 0),(6,.av (.one (c6))),(7,.av (.one (Cell.int i7))),(8,.av (.one (Cell.int i8)))],fX 57 0 [(1,[Cell.str s9,c10,c11,c12])],[]⟩=qcib (k+1) m n c6 i7 i8 s9 c10 c11 c12:=by
 intro n
 induction n with
 | zero=>intros;rfl
 | succ n ih=>intros;simp only[qcib,← ih];kernel_rfl
theorem qkkd (k m:Nat)(s1:ByteArray)(c2 c3 c4:Cell):evC qngc qrx (evF qngc (k+1)) m qrx.code none (retK qngc qrx) (enter qrx [.agg [Cell.str s1,c2,c3,c4]] [])=fag (k+1) m s1 c2 c3 c4:=by
 simp only[fag,← qqcc k m]
 kernel_rfl
theorem qujb {s1:ByteArray}{c2 c3 c4:Cell}{r:Res}(k:Nat)(h:fag (k+1) (k+1) s1 c2 c3 c4=some r):qxw [.agg [Cell.str s1,c2,c3,c4]] []=some r:=qap (k:=k+2) (Eq.trans (Eq.trans (by kernel_rfl) (qkkd k (k+1) s1 c2 c3 c4)) h)
def qtnd:List (Nat×Run):=[]
def qdle:Ctx:=ctx qbd qbe qtnd
def qtf:Run:=lim qdle qkz
theorem qpld:FnOk Tryz.prog OkT qkz qtf:=qan (l:=qtnd) qac tyTab_ok qad okT .nil qkz
def fab (k m:Nat)(s1:ByteArray)(c2 c3 c4 c5:Cell)(H:List Entry):Option Res:=(deref H (c5)).bind fun p6=>(cS p6.1 p6.2).bind fun s7=>some ([.one (Cell.bool (s1.toList==s7.toList))],H)
theorem qxsc (k m:Nat)(s1:ByteArray)(c2 c3 c4 c5:Cell)(H:List Entry):evC qdle qsvb (evF qdle (k+1)) m qsvb.code none (retK qdle qsvb) (enter qsvb [.agg [Cell.str s1,c2,c3,c4],.one (c5)] H)=fab (k+1) m s1 c2 c3 c4 c5 H:=by
 kernel_rfl
theorem qtwb {s1:ByteArray}{c2 c3 c4 c5:Cell}{H:List Entry}{r:Res}(k:Nat)(h:fab (k+1) (k+1) s1 c2 c3 c4 c5 H=some r):qtf [.agg [Cell.str s1,c2,c3,c4],.one (c5)] H=some r:=qap (k:=k+2) (Eq.trans (Eq.trans (by kernel_rfl) (qxsc k (k+1) s1 c2 c3 c4 c5 H)) h)
def qpvd:List (Nat×Run):=[(qkz,qtf)]
def qivc:Ctx:=ctx qbd qbe qpvd
def qkfb:Run:=lim qivc qlsb
theorem ok_fdz:FnOk Tryz.prog OkT qlsb qkfb:=qan (l:=qpvd) qac tyTab_ok qad okT (.cons qpld .nil) qlsb
def qaz (k m:Nat):Nat→Cell→Cell→Int→Int→List Entry→Option Res | 0,_,_,_,_,_=>none | n+1,c3,c4,i5,i6,H7=>cond (decide (i6 < i5)) ((idxA 4 (c3) i6).bind fun c8=>(deref H7 (c8)).bind fun p9=>(cS p9.1 p9.2).bind fun s10=>(cC p9.1 (p9.2+1)).bind fun c11=>(cC p9.1 ((p9.2+1)+1)).bind fun c12=>(cC p9.1 (((p9.2+1)+1)+1)).bind fun c13=>(qtf [.agg [Cell.str s10,c11,c12,c13],.one (c4)] H7).bind fun r14=>cond (qab qvad r14.1) ((cB (qaa r14.1 0) 0).bind fun b15=>cond b15 (some ([.one (Cell.int i6)],r14.2)) (qaz k m n (c3) (c4) i5 (IntKind.i64.wrap (i6+1)) r14.2)) none) (some ([.one (Cell.int (-1))],H7))
def qby (k m:Nat)(c1 q2:Cell)(H:List Entry):Option Res:=(lenC c1).bind fun n2=>qaz k m m (c1) (q2) (n2:Int) 0 H
abbrev qel (k m:Nat):TB:=evC qivc qpi (evF qivc (k+1)) m (sub [1,0,1,2,3] qpi.code) none
abbrev qek (k m:Nat):TK:=qav 0 (seqK (evC qivc qpi (evF qivc (k+1)) m (sub [1,1] qpi.code) none) (retK qivc qpi))
theorem qec (k m:Nat):∀ (n:Nat) (c3 c4:Cell) (i5 i6:Int) (H7:List Entry),qbo (some [0,1,7,8]) (qel k m) (qek k m) n ⟨fT 19 0 [(0,.av (.one (c3))),(1,.av (.one (.fn qkz [] [c4]))),(7,.av (.one (Cell.int i5))),(8,.av (.one (Cell.int i6)))],fX 19 0 [],H7⟩=qaz (k+1) m n c3 c4 i5 i6 H7:=by
 intro n
 induction n with
 | zero=>intros;rfl
 | succ n ih=>intros;simp only[qaz,← ih];kernel_rfl
theorem qej (k m:Nat)(c1 q2:Cell)(H:List Entry):evC qivc qpi (evF qivc (k+1)) m qpi.code none (retK qivc qpi) (enter qpi [.one (c1),.one (.fn qkz [] [q2])] H)=qby (k+1) m c1 q2 H:=by
 simp only[qby,← qec k m]
 kernel_rfl
theorem qdv {c1 q2:Cell}{H:List Entry}{r:Res}(k:Nat)(h:qby (k+1) (k+1) c1 q2 H=some r):qkfb [.one (c1),.one (.fn qkz [] [q2])] H=some r:=qap (k:=k+2) (Eq.trans (Eq.trans (by kernel_rfl) (qej k (k+1) c1 q2 H)) h)
def qtjd:List (Nat×Run):=[(qlsb,qkfb),(qkz,qtf)]
def qdse:Ctx:=ctx qbd qbe qtjd
def qhq:Run:=lim qdse qnr
theorem qevc:FnOk Tryz.prog OkT qnr qhq:=qan (l:=qtjd) qac tyTab_ok qad okT (.cons ok_fdz (.cons qpld .nil)) qnr
def faa (k m:Nat)(c1:Cell)(s2:ByteArray):Option Res:=(qkfb [.one (c1),.one (.fn qkz [] [.ptr 0 1 0 0 0])] [Entry.mk 1 [[Cell.str s2]] 0 false]).bind fun r3=>cond (qab quqd r3.1) ((cI .i64 (qaa r3.1 0) 0).bind fun i4=>some ([.one (Cell.int i4)],r3.2)) none
theorem qeyd (k m:Nat)(c1:Cell)(s2:ByteArray):evC qdse qsjb (evF qdse (k+1)) m qsjb.code none (retK qdse qsjb) (enter qsjb [.one (c1),.one (Cell.str s2)] [])=faa (k+1) m c1 s2:=by
 kernel_rfl
theorem qchc {c1:Cell}{s2:ByteArray}{r:Res}(k:Nat)(h:faa (k+1) (k+1) c1 s2=some r):qhq [.one (c1),.one (Cell.str s2)] []=some r:=qap (k:=k+2) (Eq.trans (Eq.trans (by kernel_rfl) (qeyd k (k+1) c1 s2)) h)
def qvkd:List (Nat×Run):=[(qixb,qxw),(qnr,qhq)]
def qsnb:Ctx:=ctx qbd qbe qvkd
def qym:Run:=lim qsnb qjyb
theorem ok_fah:FnOk Tryz.prog OkT qjyb qym:=qan (l:=qvkd) qac tyTab_ok qad okT (.cons ok_fag (.cons qevc .nil)) qjyb
def qve (k m:Nat)(b_l0:Cell→Cell→Int→Int→Option Res):Nat→Cell→Cell→Int→Int→Cell→Int→Int→ByteArray→Cell→Cell→Cell→Option Res | 0,_,_,_,_,_,_,_,_,_,_,_=>none | n+1,c20,c21,i22,i23,c24,i25,i26,s27,c28,c29,c30=>cond (decide (i26 < i25)) ((idxA 1 (c24) i26).bind fun c31=>(deref [] (c31)).bind fun p32=>(cS p32.1 p32.2).bind fun s33=>cond (s33.toList==s27.toList) (some ([.one (Cell.bool false)],[])) ((qar qhq [.one (c20),.one (Cell.str s33)] []).bind fun r34=>cond (qab qusb r34) ((cI .i64 (qaa r34 0) 0).bind fun i35=>cond (decide (i35 < 0)) (some ([.one (Cell.bool false)],[])) (qve k m b_l0 n (c20) (c21) i22 i23 (c24) i25 (IntKind.i64.wrap (i26+1)) s27 (c28) (c29) (c30))) none)) (b_l0 (c20) (c21) i22 (IntKind.i64.wrap (i23+1)))
def qcvb (k m:Nat):Nat→Cell→Cell→Int→Int→Option Res | 0,_,_,_,_=>none | n+1,c3,c4,i5,i6=>cond (decide (i6 < i5)) ((idxA 4 (c4) i6).bind fun c7=>(deref [] (c7)).bind fun p8=>(cS p8.1 p8.2).bind fun s9=>(cC p8.1 (p8.2+1)).bind fun c10=>(cC p8.1 ((p8.2+1)+1)).bind fun c11=>(cC p8.1 (((p8.2+1)+1)+1)).bind fun c12=>(qar qxw [.agg [Cell.str s9,c10,c11,c12]] []).bind fun r13=>cond (qab qyod r13) ((cB (qaa r13 0) 0).bind fun b14=>cond (!b14) (some ([.one (Cell.bool false)],[])) (cond (decide (i6 > 0)) ((idxA 4 (c3) (IntKind.i64.wrap (i6 - 1))).bind fun c15=>(fldA c15 0).bind fun c16=>(deref [] (c16)).bind fun p17=>(cS p17.1 p17.2).bind fun s18=>cond (Op.bytesLess s9.toList s18.toList||s9.toList==s18.toList) (some ([.one (Cell.bool false)],[])) ((lenC c10).bind fun n19=>qve k m (qcvb k m n) m (c3) (c4) i5 i6 (c10) (n19:Int) 0 s9 (c10) (c11) (c12))) ((lenC c10).bind fun n36=>qve k m (qcvb k m n) m (c3) (c4) i5 i6 (c10) (n36:Int) 0 s9 (c10) (c11) (c12)))) none) ((lenC c3).bind fun n37=>some ([.one (Cell.bool (decide ((n37:Int)≤6)))],[]))
def fah (k m:Nat)(c1:Cell):Option Res:=(lenC c1).bind fun n2=>qcvb k m m (c1) (c1) (n2:Int) 0
abbrev qhfb (k m:Nat):TB:=evC qsnb qji (evF qsnb (k+1)) m (sub [1,0,1,2,3] qji.code) none
abbrev qvp (k m:Nat):TK:=qav 0 (seqK (evC qsnb qji (evF qsnb (k+1)) m (sub [1,1] qji.code) none) (retK qsnb qji))
abbrev qxec (k m:Nat):TB:=evC qsnb qji (evF qsnb (k+1)) m (sub [1,0,1,2,3,1,1,0,2,1,1,1,2,3] qji.code) none
abbrev qkld (k m:Nat)(n_l0:Nat):TK:=qav 2 (qav 1 (seqK (evC qsnb qji (evF qsnb (k+1)) m (sub [1,0,1,2,3,1,1,1] qji.code) none) (qjsd (fun s=>qbo (some [0,7,8,9]) (qhfb k m) (qvp k m) n_l0 (qebb (some [0,7,8,9]) s)) (qvp k m))))
theorem qnwc (k m:Nat)(b_l0:Cell→Cell→Int→Int→Option Res)(n_l0:Nat)(h_l0:∀ (c3 c4:Cell) (i5 i6:Int),qbo (some [0,7,8,9]) (qhfb k m) (qvp k m) n_l0 ⟨fT 54 0 [(0,.av (.one (c3))),(7,.av (.one (c4))),(8,.av (.one (Cell.int i5))),(9,.av (.one (Cell.int i6)))],fX 54 0 [],[]⟩=b_l0 c3 c4 i5 i6):∀ (n:Nat) (c20 c21:Cell) (i22 i23:Int) (c24:Cell) (i25 i26:Int) (s27:ByteArray) (c28 c29 c30:Cell),qbo (some [0,4,7,8,9,33,34,35]) (qxec k m) (qkld k m n_l0) n ⟨fT 54 0 [(0,.av (.one (c20))),(4,.loc 4 0),(7,.av (.one (c21))),(8,.av (.one (Cell.int i22))),(9,.av (.one (Cell.int i23))),(33,.av (.one (c24))),(34,.av (.one (Cell.int i25))),(35,.av (.one (Cell.int i26)))],fX 54 0 [(4,[Cell.str s27,c28,c29,c30])],[]⟩=qve (k+1) m b_l0 n c20 c21 i22 i23 c24 i25 i26 s27 c28 c29 c30:=by
 intro n
 induction n with
 | zero=>intros;rfl
 | succ n ih=>intros;simp only[qve,← h_l0,← ih];kernel_rfl
theorem qjfc (k m:Nat):∀ (n:Nat) (c3 c4:Cell) (i5 i6:Int),qbo (some [0,7,8,9]) (qhfb k m) (qvp k m) n ⟨fT 54 0 [(0,.av (.one (c3))),(7,.av (.one (c4))),(8,.av (.one (Cell.int i5))),(9,.av (.one (Cell.int i6)))],fX 54 0 [],[]⟩=qcvb (k+1) m n c3 c4 i5 i6:=by
 intro n
 induction n with
 | zero=>intros;rfl
 | succ n ih=>intros;simp only[qcvb,← qnwc k m _ _ (ih)];kernel_rfl
theorem qkrd (k m:Nat)(c1:Cell):evC qsnb qji (evF qsnb (k+1)) m qji.code none (retK qsnb qji) (enter qji [.one (c1)] [])=fah (k+1) m c1:=by
 simp only[fah,← qjfc k m]
 kernel_rfl
theorem qwxb {c1:Cell}{r:Res}(k:Nat)(h:fah (k+1) (k+1) c1=some r):qym [.one (c1)] []=some r:=qap (k:=k+2) (Eq.trans (Eq.trans (by kernel_rfl) (qkrd k (k+1) c1)) h)
def qrad:List (Nat×Run):=[(qtj,qkj)]
def qche:Ctx:=ctx qbd qbe qrad
def qzl:Run:=lim qche qopb
theorem ok_fcf:FnOk Tryz.prog OkT qopb qzl:=qan (l:=qrad) qac tyTab_ok qad okT (.cons qicd .nil) qopb
def fcf (k m:Nat)(s1 s2:ByteArray):Option Res:=(qar qkj [.one (Cell.str s1),.one (Cell.str s2)] []).bind fun r3=>cond (qab qibc r3) ((cB (qaa r3 0) 0).bind fun b4=>cond b4 ((subS s1 (s2.size:Int) (s1.size:Int)).bind fun s5=>some ([.one (Cell.str s5)],[])) (some ([.one (Cell.str s1)],[]))) none
theorem qymc (k m:Nat)(s1 s2:ByteArray):evC qche qseb (evF qche (k+1)) m qseb.code none (retK qche qseb) (enter qseb [.one (Cell.str s1),.one (Cell.str s2)] [])=fcf (k+1) m s1 s2:=by
 kernel_rfl
theorem qcbc {s1 s2:ByteArray}{r:Res}(k:Nat)(h:fcf (k+1) (k+1) s1 s2=some r):qzl [.one (Cell.str s1),.one (Cell.str s2)] []=some r:=qap (k:=k+2) (Eq.trans (Eq.trans (by kernel_rfl) (qymc k (k+1) s1 s2)) h)
def qrhd:List (Nat×Run):=[(qopb,qzl)]
def qcze:Ctx:=ctx qbd qbe qrhd
def qcwb:Run:=lim qcze qlbb
theorem ok_fgk:FnOk Tryz.prog OkT qlbb qcwb:=qan (l:=qrhd) qac tyTab_ok qad okT (.cons ok_fcf .nil) qlbb
def fgk (k m:Nat)(s1 s2:ByteArray):Option Res:=(qar qzl [.one (Cell.str s1),.one (Cell.str s2)] []).bind fun r3=>cond (qab qyud r3) ((cS (qaa r3 0) 0).bind fun s4=>some ([.one (Cell.str s4)],[])) none
theorem qgxd (k m:Nat)(s1 s2:ByteArray):evC qcze qsdb (evF qcze (k+1)) m qsdb.code none (retK qcze qsdb) (enter qsdb [.one (Cell.str s1),.one (Cell.str s2)] [])=fgk (k+1) m s1 s2:=by
 kernel_rfl
theorem qucb {s1 s2:ByteArray}{r:Res}(k:Nat)(h:fgk (k+1) (k+1) s1 s2=some r):qcwb [.one (Cell.str s1),.one (Cell.str s2)] []=some r:=qap (k:=k+2) (Eq.trans (Eq.trans (by kernel_rfl) (qgxd k (k+1) s1 s2)) h)
def qqgd:List (Nat×Run):=[(qiz,qdl),(qpn,qgt),(qlbb,qcwb)]
def qcle:Ctx:=ctx qbd qbe qqgd
def qdrb:Run:=lim qcle qorb
theorem ok_faf:FnOk Tryz.prog OkT qorb qdrb:=qan (l:=qqgd) qac tyTab_ok qad okT (.cons qhzb (.cons qhic (.cons ok_fgk .nil))) qorb
def faf (k m:Nat)(s1:ByteArray):Option Res:=(qar qgt [.one (Cell.str s1),.one (Cell.str (bs [35]))] []).bind fun r2=>cond (qab quhb r2) ((cS (qaa r2 0) 0).bind fun s3=>(cS (qaa r2 1) 0).bind fun s4=>(cB (qaa r2 2) 0).bind fun b5=>cond b5 ((qar qdl [.one (Cell.str s3)] []).bind fun r6=>cond (qab qqs r6) ((cB (qaa r6 0) 0).bind fun b7=>cond b7 ((qar qdl [.one (Cell.str s4)] []).bind fun r8=>cond (qab qqs r8) ((cB (qaa r8 0) 0).bind fun b9=>some ([.one (Cell.bool b9)],[])) none) (some ([.one (Cell.bool false)],[]))) none) ((qar qcwb [.one (Cell.str s1),.one (Cell.str (bs [94]))] []).bind fun r10=>cond (qab qwhd r10) ((cS (qaa r10 0) 0).bind fun s11=>(qar qdl [.one (Cell.str s11)] []).bind fun r12=>cond (qab qqs r12) ((cB (qaa r12 0) 0).bind fun b13=>some ([.one (Cell.bool b13)],[])) none) none)) none
theorem qemd (k m:Nat)(s1:ByteArray):evC qcle qpqb (evF qcle (k+1)) m qpqb.code none (retK qcle qpqb) (enter qpqb [.one (Cell.str s1)] [])=faf (k+1) m s1:=by
 kernel_rfl
theorem qwab {s1:ByteArray}{r:Res}(k:Nat)(h:faf (k+1) (k+1) s1=some r):qdrb [.one (Cell.str s1)] []=some r:=qap (k:=k+2) (Eq.trans (Eq.trans (by kernel_rfl) (qemd k (k+1) s1)) h)
def qynd:List (Nat×Run):=[(qrt,qgs),(qks,qeg)]
def qbpe:Ctx:=ctx qbd qbe qynd
def qbab:Run:=lim qbpe qktb
theorem ok_fbg:FnOk Tryz.prog OkT qktb qbab:=qan (l:=qynd) qac tyTab_ok qad okT (.cons qfic (.cons qskb .nil)) qktb
def fbg (k m:Nat)(i1:Int):Option Res:=(qar qgs [.one (.sc (.int .u8 i1))] []).bind fun r2=>cond (qab qsib r2) ((cB (qaa r2 0) 0).bind fun b3=>cond b3 (some ([.one (Cell.bool true)],[])) ((qar qeg [.one (.sc (.int .u8 i1))] []).bind fun r4=>cond (qab qvo r4) ((cB (qaa r4 0) 0).bind fun b5=>cond b5 (some ([.one (Cell.bool true)],[])) (cond (i1==46) (some ([.one (Cell.bool true)],[])) (cond (i1==45) (some ([.one (Cell.bool true)],[])) (some ([.one (Cell.bool (i1==95))],[]))))) none)) none
theorem qwpc (k m:Nat)(i1:Int):evC qbpe qtcb (evF qbpe (k+1)) m qtcb.code none (retK qbpe qtcb) (enter qtcb [.one (.sc (.int .u8 i1))] [])=fbg (k+1) m i1:=by
 kernel_rfl
theorem qacc {i1:Int}{r:Res}(k:Nat)(h:fbg (k+1) (k+1) i1=some r):qbab [.one (.sc (.int .u8 i1))] []=some r:=qap (k:=k+2) (Eq.trans (Eq.trans (by kernel_rfl) (qwpc k (k+1) i1)) h)
def qaae:List (Nat×Run):=[(qtj,qkj)]
def qbde:Ctx:=ctx qbd qbe qaae
def qcsb:Run:=lim qbde qnnb
theorem ok_fgf:FnOk Tryz.prog OkT qnnb qcsb:=qan (l:=qaae) qac tyTab_ok qad okT (.cons qicd .nil) qnnb
def fgf (k m:Nat)(s1 s2:ByteArray):Option Res:=(qar qkj [.one (Cell.str s1),.one (Cell.str s2)] []).bind fun r3=>cond (qab qibc r3) ((cB (qaa r3 0) 0).bind fun b4=>some ([.one (Cell.bool b4)],[])) none
theorem qvdc (k m:Nat)(s1 s2:ByteArray):evC qbde qqzb (evF qbde (k+1)) m qqzb.code none (retK qbde qqzb) (enter qqzb [.one (Cell.str s1),.one (Cell.str s2)] [])=fgf (k+1) m s1 s2:=by
 kernel_rfl
theorem qwcb {s1 s2:ByteArray}{r:Res}(k:Nat)(h:fgf (k+1) (k+1) s1 s2=some r):qcsb [.one (Cell.str s1),.one (Cell.str s2)] []=some r:=qap (k:=k+2) (Eq.trans (Eq.trans (by kernel_rfl) (qvdc k (k+1) s1 s2)) h)
def qokd:List (Nat×Run):=[(qiu,qdb),(qrt,qgs),(qks,qeg),(qktb,qbab),(qnnb,qcsb)]
def qphc:Ctx:=ctx qbd qbe qokd
def qcjb:Run:=lim qphc qnqb
theorem ok_fbu:FnOk Tryz.prog OkT qnqb qcjb:=qan (l:=qokd) qac tyTab_ok qad okT (.cons qhqb (.cons qfic (.cons qskb (.cons ok_fbg (.cons ok_fgf .nil))))) qnqb
def qzj (k m:Nat):Nat→ByteArray→Int→Option Res | 0,_,_=>none | n+1,s25,i26=>cond (decide (i26 < (s25.size:Int))) ((bytS s25 i26).bind fun i27=>(qar qgs [.one (.sc (.int .u8 i27))] []).bind fun r28=>cond (qab qsib r28) ((cB (qaa r28 0) 0).bind fun b29=>cond b29 (qzj k m n s25 (IntKind.i64.wrap (i26+1))) ((bytS s25 i26).bind fun i30=>(qar qeg [.one (.sc (.int .u8 i30))] []).bind fun r31=>cond (qab qvo r31) ((cB (qaa r31 0) 0).bind fun b32=>cond b32 (qzj k m n s25 (IntKind.i64.wrap (i26+1))) ((qar qdb [.one (Cell.int (IntKind.i64.wrap (i26 - 1))),.one (Cell.int 1),.one (Cell.int 5)] []).bind fun r33=>cond (qab qlw r33) ((cB (qaa r33 0) 0).bind fun b34=>cond (!b34) (some ([.one (Cell.int 0)],[])) (cond (i26==(s25.size:Int)) (some ([.one (Cell.int 0)],[])) ((bytS s25 i26).bind fun i35=>cond (i35 != 93) (some ([.one (Cell.int 0)],[])) (some ([.one (Cell.int (IntKind.i64.wrap (i26+1)))],[]))))) none)) none)) none) ((qar qdb [.one (Cell.int (IntKind.i64.wrap (i26 - 1))),.one (Cell.int 1),.one (Cell.int 5)] []).bind fun r36=>cond (qab qlw r36) ((cB (qaa r36 0) 0).bind fun b37=>cond (!b37) (some ([.one (Cell.int 0)],[])) (cond (i26==(s25.size:Int)) (some ([.one (Cell.int 0)],[])) ((bytS s25 i26).bind fun i38=>cond (i38 != 93) (some ([.one (Cell.int 0)],[])) (some ([.one (Cell.int (IntKind.i64.wrap (i26+1)))],[]))))) none)
def qxh (k m:Nat):Nat→ByteArray→Int→Option Res | 0,_,_=>none | n+1,s11,i12=>cond (decide (i12 < (s11.size:Int))) ((bytS s11 i12).bind fun i13=>(qar qgs [.one (.sc (.int .u8 i13))] []).bind fun r14=>cond (qab qsib r14) ((cB (qaa r14 0) 0).bind fun b15=>cond b15 (qxh k m n s11 (IntKind.i64.wrap (i12+1))) ((bytS s11 i12).bind fun i16=>(qar qeg [.one (.sc (.int .u8 i16))] []).bind fun r17=>cond (qab qvo r17) ((cB (qaa r17 0) 0).bind fun b18=>cond b18 (qxh k m n s11 (IntKind.i64.wrap (i12+1))) ((qar qdb [.one (Cell.int (IntKind.i64.wrap (i12 - 2))),.one (Cell.int 1),.one (Cell.int 5)] []).bind fun r19=>cond (qab qlw r19) ((cB (qaa r19 0) 0).bind fun b20=>cond (!b20) (some ([.one (Cell.int 0)],[])) (cond (i12==(s11.size:Int)) (some ([.one (Cell.int 0)],[])) ((bytS s11 i12).bind fun i21=>cond (i21 != 93) (some ([.one (Cell.int 0)],[])) (some ([.one (Cell.int (IntKind.i64.wrap (i12+1)))],[]))))) none)) none)) none) ((qar qdb [.one (Cell.int (IntKind.i64.wrap (i12 - 2))),.one (Cell.int 1),.one (Cell.int 5)] []).bind fun r22=>cond (qab qlw r22) ((cB (qaa r22 0) 0).bind fun b23=>cond (!b23) (some ([.one (Cell.int 0)],[])) (cond (i12==(s11.size:Int)) (some ([.one (Cell.int 0)],[])) ((bytS s11 i12).bind fun i24=>cond (i24 != 93) (some ([.one (Cell.int 0)],[])) (some ([.one (Cell.int (IntKind.i64.wrap (i12+1)))],[]))))) none)
def fbu (k m:Nat)(s1:ByteArray):Option Res:=(bytS s1 0).bind fun i2=>(qar qbab [.one (.sc (.int .u8 i2))] []).bind fun r3=>cond (qab qxld r3) ((cB (qaa r3 0) 0).bind fun b4=>cond b4 (some ([.one (Cell.int 1)],[])) ((bytS s1 0).bind fun i5=>cond (i5==63) (some ([.one (Cell.int 1)],[])) ((bytS s1 0).bind fun i6=>cond (i6==42) (some ([.one (Cell.int 1)],[])) ((bytS s1 0).bind fun i7=>cond (i7 != 91) (some ([.one (Cell.int 0)],[])) ((subS s1 1 (s1.size:Int)).bind fun s8=>(qar qcsb [.one (Cell.str s8),.one (Cell.str (bs [33]))] []).bind fun r9=>cond (qab qzrd r9) ((cB (qaa r9 0) 0).bind fun b10=>cond b10 (qxh k m m s1 2) (qzj k m m s1 1)) none))))) none
abbrev qygb (k m:Nat):TB:=evC qphc qsb (evF qphc (k+1)) m (sub [1,1,1,1,1,1,0,2,3] qsb.code) none
abbrev qzib (k m:Nat):TK:=qav 0 (seqK (evC qphc qsb (evF qphc (k+1)) m (sub [1,1,1,1,1,1,1] qsb.code) none) (retK qphc qsb))
theorem qmwc (k m:Nat):∀ (n:Nat) (s25:ByteArray) (i26:Int),qbo (some [0,3,4]) (qygb k m) (qzib k m) n ⟨fT 65 0 [(0,.av (.one (Cell.str s25))),(3,.av (.one (Cell.int i26))),(4,.av (.one (Cell.int 1)))],fX 65 0 [],[]⟩=qzj (k+1) m n s25 i26:=by
 intro n
 induction n with
 | zero=>intros;rfl
 | succ n ih=>intros;simp only[qzj,← ih];kernel_rfl
theorem qlic (k m:Nat):∀ (n:Nat) (s11:ByteArray) (i12:Int),qbo (some [0,3,4]) (qygb k m) (qzib k m) n ⟨fT 65 0 [(0,.av (.one (Cell.str s11))),(3,.av (.one (Cell.int i12))),(4,.av (.one (Cell.int 2)))],fX 65 0 [],[]⟩=qxh (k+1) m n s11 i12:=by
 intro n
 induction n with
 | zero=>intros;rfl
 | succ n ih=>intros;simp only[qxh,← ih];kernel_rfl
theorem qbed (k m:Nat)(s1:ByteArray):evC qphc qsb (evF qphc (k+1)) m qsb.code none (retK qphc qsb) (enter qsb [.one (Cell.str s1)] [])=fbu (k+1) m s1:=by
 simp only[fbu,← qlic k m,← qmwc k m]
 kernel_rfl
theorem qvfb {s1:ByteArray}{r:Res}(k:Nat)(h:fbu (k+1) (k+1) s1=some r):qcjb [.one (Cell.str s1)] []=some r:=qap (k:=k+2) (Eq.trans (Eq.trans (by kernel_rfl) (qbed k (k+1) s1)) h)
def qoed:List (Nat×Run):=[(qiu,qdb),(qnqb,qcjb)]
def qsfc:Ctx:=ctx qbd qbe qoed
def qbsb:Run:=lim qsfc qocb
theorem ok_fbq:FnOk Tryz.prog OkT qocb qbsb:=qan (l:=qoed) qac tyTab_ok qad okT (.cons qhqb (.cons ok_fbu .nil)) qocb
def qakb (k m:Nat):Nat→Int→ByteArray→Option Res | 0,_,_=>none | n+1,i2,s3=>cond (!(s3.toList==(bs []).toList)) ((qar qcjb [.one (Cell.str s3)] []).bind fun r4=>cond (qab qrvd r4) ((cI .i64 (qaa r4 0) 0).bind fun i5=>cond (i5==0) (some ([.one (Cell.bool false)],[])) ((subS s3 i5 (s3.size:Int)).bind fun s6=>qakb k m n (IntKind.i64.wrap (i2+1)) s6)) none) ((qar qdb [.one (Cell.int i2),.one (Cell.int 1),.one (Cell.int 12)] []).bind fun r7=>cond (qab qlw r7) ((cB (qaa r7 0) 0).bind fun b8=>some ([.one (Cell.bool b8)],[])) none)
def fbq (k m:Nat)(s1:ByteArray):Option Res:=qakb k m m 0 s1
abbrev qcwd (k m:Nat):TB:=evC qsfc qpu (evF qsfc (k+1)) m (sub [1,1,0,1,2,3] qpu.code) none
abbrev qwcc (k m:Nat):TK:=qav 0 (seqK (evC qsfc qpu (evF qsfc (k+1)) m (sub [1,1,1] qpu.code) none) (retK qsfc qpu))
theorem qjzc (k m:Nat):∀ (n:Nat) (i2:Int) (s3:ByteArray),qbo (some [3,4]) (qcwd k m) (qwcc k m) n ⟨fT 20 0 [(3,.av (.one (Cell.int i2))),(4,.av (.one (Cell.str s3)))],fX 20 0 [],[]⟩=qakb (k+1) m n i2 s3:=by
 intro n
 induction n with
 | zero=>intros;rfl
 | succ n ih=>intros;simp only[qakb,← ih];kernel_rfl
theorem qwdc (k m:Nat)(s1:ByteArray):evC qsfc qpu (evF qsfc (k+1)) m qpu.code none (retK qsfc qpu) (enter qpu [.one (Cell.str s1)] [])=fbq (k+1) m s1:=by
 simp only[fbq,← qjzc k m]
 kernel_rfl
theorem qasc {s1:ByteArray}{r:Res}(k:Nat)(h:fbq (k+1) (k+1) s1=some r):qbsb [.one (Cell.str s1)] []=some r:=qap (k:=k+2) (Eq.trans (Eq.trans (by kernel_rfl) (qwdc k (k+1) s1)) h)
def qowd:List (Nat×Run):=[(qmm,qew),(qocb,qbsb)]
def qlnc:Ctx:=ctx qbd qbe qowd
def qxq:Run:=lim qlnc qjdb
theorem ok_fac:FnOk Tryz.prog OkT qjdb qxq:=qan (l:=qowd) qac tyTab_ok qad okT (.cons qwlb (.cons ok_fbq .nil)) qjdb
def qgjb (k m:Nat):Nat→Cell→Cell→Int→Int→List Entry→Option Res | 0,_,_,_,_,_=>none | n+1,c5,c6,i7,i8,H9=>cond (decide (i8 < i7)) ((idxA 1 (c6) i8).bind fun c10=>(deref H9 (c10)).bind fun p11=>(cS p11.1 p11.2).bind fun s12=>(qar qbsb [.one (Cell.str s12)] H9).bind fun r13=>cond (qab qwqd r13) ((cB (qaa r13 0) 0).bind fun b14=>cond (!b14) (some ([.one (Cell.bool false)],H9)) (qgjb k m n (c5) (c6) i7 (IntKind.i64.wrap (i8+1)) H9)) none) ((lenC c5).bind fun n15=>some ([.one (Cell.bool (decide ((n15:Int)≤4)))],H9))
def fac (k m:Nat)(s1:ByteArray):Option Res:=(qdk qew [.one (Cell.str s1),.one (Cell.str (bs [47]))] []).bind fun r2=>cond (qab qfeb r2.1) ((cC (qaa r2.1 0) 0).bind fun c3=>(lenC c3).bind fun n4=>qgjb k m m (c3) (c3) (n4:Int) 0 r2.2) none
abbrev qvfc (k m:Nat):TB:=evC qlnc qrd (evF qlnc (k+1)) m (sub [1,1,0,1,2,3] qrd.code) none
abbrev qhhd (k m:Nat):TK:=qav 0 (seqK (evC qlnc qrd (evF qlnc (k+1)) m (sub [1,1,1] qrd.code) none) (retK qlnc qrd))
theorem qffc (k m:Nat):∀ (n:Nat) (c5 c6:Cell) (i7 i8:Int) (H9:List Entry),qbo (some [3,8,9,10]) (qvfc k m) (qhhd k m) n ⟨fT 21 0 [(3,.av (.one (c5))),(8,.av (.one (c6))),(9,.av (.one (Cell.int i7))),(10,.av (.one (Cell.int i8)))],fX 21 0 [],H9⟩=qgjb (k+1) m n c5 c6 i7 i8 H9:=by
 intro n
 induction n with
 | zero=>intros;rfl
 | succ n ih=>intros;simp only[qgjb,← ih];kernel_rfl
theorem qlvd (k m:Nat)(s1:ByteArray):evC qlnc qrd (evF qlnc (k+1)) m qrd.code none (retK qlnc qrd) (enter qrd [.one (Cell.str s1)] [])=fac (k+1) m s1:=by
 simp only[fac,← qffc k m]
 kernel_rfl
theorem qztb {s1:ByteArray}{r:Res}(k:Nat)(h:fac (k+1) (k+1) s1=some r):qxq [.one (Cell.str s1)] []=some r:=qap (k:=k+2) (Eq.trans (Eq.trans (by kernel_rfl) (qlvd k (k+1) s1)) h)
def qoud:List (Nat×Run):=[(qiz,qdl),(qbjb,qky),(qorb,qdrb),(qjdb,qxq)]
def qinb:Ctx:=ctx qbd qbe qoud
def qxx:Run:=lim qinb qmkb
theorem ok_fbs:FnOk Tryz.prog OkT qmkb qxx:=qan (l:=qoud) qac tyTab_ok qad okT (.cons qhzb (.cons qzzd (.cons ok_faf (.cons ok_fac .nil)))) qmkb
def qclb (k m:Nat):Nat→Cell→Int→Int→ByteArray→Cell→Cell→Cell→Bool→Option Res | 0,_,_,_,_,_,_,_,_=>none | n+1,c21,i22,i23,s24,c25,c26,c27,b28=>cond (decide (i23 < i22)) ((idxA 1 (c21) i23).bind fun c29=>(deref [] (c29)).bind fun p30=>(cS p30.1 p30.2).bind fun s31=>(qar qxq [.one (Cell.str s31)] []).bind fun r32=>cond (qab qnkd r32) ((cB (qaa r32 0) 0).bind fun b33=>cond (!b33) (some ([.one (Cell.bool false)],[])) (cond (decide ((s31.size:Int) > 60)) (some ([.one (Cell.bool false)],[])) (qclb k m n (c21) i22 (IntKind.i64.wrap (i23+1)) s24 (c25) (c26) (c27) b28))) none) ((qar qdl [.one (Cell.str s24)] []).bind fun r34=>cond (qab qqs r34) ((cB (qaa r34 0) 0).bind fun b35=>cond b35 ((lenC c25).bind fun n36=>cond (decide ((n36:Int)≤4)) ((lenC c26).bind fun n37=>cond (decide ((n37:Int)≤4)) ((qar qky [.one (c27),.one (Cell.int 3)] []).bind fun r38=>cond (qab qikd r38) ((cB (qaa r38 0) 0).bind fun b39=>some ([.one (Cell.bool b39)],[])) none) (some ([.one (Cell.bool false)],[]))) (some ([.one (Cell.bool false)],[]))) (some ([.one (Cell.bool false)],[]))) none)
def qgib (k m:Nat):Nat→Cell→Int→Int→ByteArray→Cell→Cell→Cell→Bool→Option Res | 0,_,_,_,_,_,_,_,_=>none | n+1,c7,i8,i9,s10,c11,c12,c13,b14=>cond (decide (i9 < i8)) ((idxA 1 (c7) i9).bind fun c15=>(deref [] (c15)).bind fun p16=>(cS p16.1 p16.2).bind fun s17=>(qar qdrb [.one (Cell.str s17)] []).bind fun r18=>cond (qab qqjd r18) ((cB (qaa r18 0) 0).bind fun b19=>cond (!b19) (some ([.one (Cell.bool false)],[])) (qgib k m n (c7) i8 (IntKind.i64.wrap (i9+1)) s10 (c11) (c12) (c13) b14)) none) ((lenC c12).bind fun n20=>qclb k m m (c12) (n20:Int) 0 s10 (c11) (c12) (c13) b14)
def fbs (k m:Nat)(s1:ByteArray)(c2 c3 c4:Cell)(b5:Bool):Option Res:=(lenC c2).bind fun n6=>qgib k m m (c2) (n6:Int) 0 s1 (c2) (c3) (c4) b5
abbrev qwwc (k m:Nat):TB:=evC qinb qik (evF qinb (k+1)) m (sub [1,0,1,2,3] qik.code) none
abbrev qled (k m:Nat):TK:=qav 0 (seqK (evC qinb qik (evF qinb (k+1)) m (sub [1,1] qik.code) none) (retK qinb qik))
abbrev qihd (k m:Nat):TB:=evC qinb qik (evF qinb (k+1)) m (sub [1,1,0,1,2,3] qik.code) none
abbrev qvlc (k m:Nat):TK:=qav 2 (seqK (evC qinb qik (evF qinb (k+1)) m (sub [1,1,1] qik.code) none) (retK qinb qik))
theorem qiuc (k m:Nat):∀ (n:Nat) (c21:Cell) (i22 i23:Int) (s24:ByteArray) (c25 c26 c27:Cell) (b28:Bool),qbo (some [1,19,20,21]) (qihd k m) (qvlc k m) n ⟨fT 54 0 [(1,.loc 1 0),(19,.av (.one (c21))),(20,.av (.one (Cell.int i22))),(21,.av (.one (Cell.int i23)))],fX 54 0 [(1,[Cell.str s24,c25,c26,c27,Cell.bool b28])],[]⟩=qclb (k+1) m n c21 i22 i23 s24 c25 c26 c27 b28:=by
 intro n
 induction n with
 | zero=>intros;rfl
 | succ n ih=>intros;simp only[qclb,← ih];kernel_rfl
theorem qhcc (k m:Nat):∀ (n:Nat) (c7:Cell) (i8 i9:Int) (s10:ByteArray) (c11 c12 c13:Cell) (b14:Bool),qbo (some [1,8,9,10]) (qwwc k m) (qled k m) n ⟨fT 54 0 [(1,.loc 1 0),(8,.av (.one (c7))),(9,.av (.one (Cell.int i8))),(10,.av (.one (Cell.int i9)))],fX 54 0 [(1,[Cell.str s10,c11,c12,c13,Cell.bool b14])],[]⟩=qgib (k+1) m n c7 i8 i9 s10 c11 c12 c13 b14:=by
 intro n
 induction n with
 | zero=>intros;rfl
 | succ n ih=>intros;simp only[qgib,← qiuc k m,← ih];kernel_rfl
theorem qkud (k m:Nat)(s1:ByteArray)(c2 c3 c4:Cell)(b5:Bool):evC qinb qik (evF qinb (k+1)) m qik.code none (retK qinb qik) (enter qik [.agg [Cell.str s1,c2,c3,c4,Cell.bool b5]] [])=fbs (k+1) m s1 c2 c3 c4 b5:=by
 simp only[fbs,← qhcc k m]
 kernel_rfl
theorem qbwc {s1:ByteArray}{c2 c3 c4:Cell}{b5:Bool}{r:Res}(k:Nat)(h:fbs (k+1) (k+1) s1 c2 c3 c4 b5=some r):qxx [.agg [Cell.str s1,c2,c3,c4,Cell.bool b5]] []=some r:=qap (k:=k+2) (Eq.trans (Eq.trans (by kernel_rfl) (qkud k (k+1) s1 c2 c3 c4 b5)) h)
def qovd:List (Nat×Run):=[(qmkb,qxx)]
def qrkc:Ctx:=ctx qbd qbe qovd
def qwo:Run:=lim qrkc qkzb
theorem ok_faq:FnOk Tryz.prog OkT qkzb qwo:=qan (l:=qovd) qac tyTab_ok qad okT (.cons ok_fbs .nil) qkzb
def qdeb (k m:Nat):Nat→Cell→Cell→Int→Int→Option Res | 0,_,_,_,_=>none | n+1,c3,c4,i5,i6=>cond (decide (i6 < i5)) ((idxA 5 (c4) i6).bind fun c7=>(deref [] (c7)).bind fun p8=>(cS p8.1 p8.2).bind fun s9=>(cC p8.1 (p8.2+1)).bind fun c10=>(cC p8.1 ((p8.2+1)+1)).bind fun c11=>(cC p8.1 (((p8.2+1)+1)+1)).bind fun c12=>(cB p8.1 ((((p8.2+1)+1)+1)+1)).bind fun b13=>(qar qxx [.agg [Cell.str s9,c10,c11,c12,Cell.bool b13]] []).bind fun r14=>cond (qab qnmd r14) ((cB (qaa r14 0) 0).bind fun b15=>cond (!b15) (some ([.one (Cell.bool false)],[])) (cond (decide (i6 > 0)) ((idxA 5 (c3) (IntKind.i64.wrap (i6 - 1))).bind fun c16=>(fldA c16 0).bind fun c17=>(deref [] (c17)).bind fun p18=>(cS p18.1 p18.2).bind fun s19=>cond (Op.bytesLess s9.toList s19.toList||s9.toList==s19.toList) (some ([.one (Cell.bool false)],[])) (qdeb k m n (c3) (c4) i5 (IntKind.i64.wrap (i6+1)))) (qdeb k m n (c3) (c4) i5 (IntKind.i64.wrap (i6+1))))) none) ((lenC c3).bind fun n20=>some ([.one (Cell.bool (decide ((n20:Int)≤5)))],[]))
def faq (k m:Nat)(c1:Cell):Option Res:=(lenC c1).bind fun n2=>qdeb k m m (c1) (c1) (n2:Int) 0
abbrev qwhc (k m:Nat):TB:=evC qrkc qqq (evF qrkc (k+1)) m (sub [1,0,1,2,3] qqq.code) none
abbrev qfzd (k m:Nat):TK:=qav 0 (seqK (evC qrkc qqq (evF qrkc (k+1)) m (sub [1,1] qqq.code) none) (retK qrkc qqq))
theorem qmyc (k m:Nat):∀ (n:Nat) (c3 c4:Cell) (i5 i6:Int),qbo (some [0,5,6,7]) (qwhc k m) (qfzd k m) n ⟨fT 34 0 [(0,.av (.one (c3))),(5,.av (.one (c4))),(6,.av (.one (Cell.int i5))),(7,.av (.one (Cell.int i6)))],fX 34 0 [],[]⟩=qdeb (k+1) m n c3 c4 i5 i6:=by
 intro n
 induction n with
 | zero=>intros;rfl
 | succ n ih=>intros;simp only[qdeb,← ih];kernel_rfl
theorem quyc (k m:Nat)(c1:Cell):evC qrkc qqq (evF qrkc (k+1)) m qqq.code none (retK qrkc qqq) (enter qqq [.one (c1)] [])=faq (k+1) m c1:=by
 simp only[faq,← qmyc k m]
 kernel_rfl
theorem qafc {c1:Cell}{r:Res}(k:Nat)(h:faq (k+1) (k+1) c1=some r):qwo [.one (c1)] []=some r:=qap (k:=k+2) (Eq.trans (Eq.trans (by kernel_rfl) (quyc k (k+1) c1)) h)
def qqud:List (Nat×Run):=[]
def qjuc:Ctx:=ctx qbd qbe qqud
def qayb:Run:=lim qjuc qodb
theorem ok_fea:FnOk Tryz.prog OkT qodb qayb:=qan (l:=qqud) qac tyTab_ok qad okT .nil qodb
def qeyb (k m:Nat):Nat→Cell→ByteArray→Int→Int→Option Res | 0,_,_,_,_=>none | n+1,c4,s5,i6,i7=>cond (decide (i7 < i6)) ((idxA 1 (c4) i7).bind fun c8=>(deref [] (c8)).bind fun p9=>(cS p9.1 p9.2).bind fun s10=>cond (s5.toList==s10.toList) (some ([.one (Cell.int i7)],[])) (qeyb k m n (c4) s5 i6 (IntKind.i64.wrap (i7+1)))) (some ([.one (Cell.int (-1))],[]))
def fea (k m:Nat)(c1:Cell)(s2:ByteArray):Option Res:=(lenC c1).bind fun n3=>qeyb k m m (c1) s2 (n3:Int) 0
abbrev qvec (k m:Nat):TB:=evC qjuc qrl (evF qjuc (k+1)) m (sub [1,0,1,2,3] qrl.code) none
abbrev qgid (k m:Nat):TK:=qav 0 (seqK (evC qjuc qrl (evF qjuc (k+1)) m (sub [1,1] qrl.code) none) (retK qjuc qrl))
theorem qgqc (k m:Nat):∀ (n:Nat) (c4:Cell) (s5:ByteArray) (i6 i7:Int),qbo (some [0,1,7,8]) (qvec k m) (qgid k m) n ⟨fT 19 0 [(0,.av (.one (c4))),(1,.av (.one (Cell.str s5))),(7,.av (.one (Cell.int i6))),(8,.av (.one (Cell.int i7)))],fX 19 0 [],[]⟩=qeyb (k+1) m n c4 s5 i6 i7:=by
 intro n
 induction n with
 | zero=>intros;rfl
 | succ n ih=>intros;simp only[qeyb,← ih];kernel_rfl
theorem qdvd (k m:Nat)(c1:Cell)(s2:ByteArray):evC qjuc qrl (evF qjuc (k+1)) m qrl.code none (retK qjuc qrl) (enter qrl [.one (c1),.one (Cell.str s2)] [])=fea (k+1) m c1 s2:=by
 simp only[fea,← qgqc k m]
 kernel_rfl
theorem qbjc {c1:Cell}{s2:ByteArray}{r:Res}(k:Nat)(h:fea (k+1) (k+1) c1 s2=some r):qayb [.one (c1),.one (Cell.str s2)] []=some r:=qap (k:=k+2) (Eq.trans (Eq.trans (by kernel_rfl) (qdvd k (k+1) c1 s2)) h)
end
end Go.Ev
