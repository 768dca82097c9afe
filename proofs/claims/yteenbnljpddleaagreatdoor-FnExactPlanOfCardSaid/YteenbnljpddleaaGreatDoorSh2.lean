/- What the evaluator says of the functions, each as a Lean function over cells. Printed by a program of this claim. Conditions: none. -/
import Derived.Test.YteenbnljpddleaaGreatDoorSh1
import Derived.KernelRfl
namespace Go.Ev
open Go Go.Proofs
noncomputable section
set_option maxRecDepth 100000
set_option linter.unusedVariables false
set_option linter.unusedSimpArgs false
def qpud:List (Nat×Run):=[(qkp,qco),(qmeb,qdlb),(qknb,qamb),(qlab,qcab),(qlpb,qdzb)]
def qehc:Ctx:=ctx qbd qbe qpud
def qbeb:Run:=lim qehc qnob
theorem ok_fej:FnOk Tryz.prog OkT qnob qbeb:=qan (l:=qpud) qac tyTab_ok qad okT (.cons qrub (.cons ok_ffp (.cons ok_ffl (.cons ok_ffr (.cons ok_ffk .nil))))) qnob
def qfgb (k m:Nat):Nat→Cell→Cell→Int→List Entry→Option Res | 0,_,_,_,_=>none | n+1,c4,c5,i6,H7=>(lenC c5).bind fun n8=>cond (decide (i6 < (n8:Int))) ((idxA 1 (c5) i6).bind fun c9=>(deref H7 (c9)).bind fun p10=>(cS p10.1 p10.2).bind fun s11=>(qar qcab [.one (Cell.str s11)] H7).bind fun r12=>cond (qab qphd r12) ((cS (qaa r12 0) 0).bind fun s13=>(callL qco [.one (Cell.str s13),.one (.sc (.int .u8 32))] H7).bind fun r14=>cond (qab qly r14.1) ((cC (qaa r14.1 0) 0).bind fun c15=>(callL qamb [.one (c15)] r14.2).bind fun r16=>cond (qab qvsd r16.1) ((cC (qaa r16.1 0) 0).bind fun c17=>(cB (qaa r16.1 1) 0).bind fun b18=>cond (!b18) (some ([.one (.lst true 1 []),.one (Cell.bool false)],r16.2)) ((qar qdzb [.one (c17)] r16.2).bind fun r19=>cond (qab qwfd r19) ((cB (qaa r19 0) 0).bind fun b20=>cond (!b20) (some ([.one (.lst true 1 []),.one (Cell.bool false)],r16.2)) (restK [c17] fun d21=>(qbp r16.2 1 (.lst true 1 (chunks 1 1 d21))).bind fun r22=>(app r16.2 1 24 (c4) r22).bind fun p23=>qfgb k m n (p23.1) (c5) (IntKind.i64.wrap (i6+1)) p23.2)) none)) none) none) none) ((lenC c4).bind fun n24=>cond (decide ((n24:Int) > 4)) (some ([.one (.lst true 1 []),.one (Cell.bool false)],H7)) (some ([.one (c4),.one (Cell.bool true)],H7)))
def fej (k m:Nat)(s1:ByteArray):Option Res:=(callL qdlb [.one (Cell.str s1)] []).bind fun r2=>cond (qab qmsd r2.1) ((cC (qaa r2.1 0) 0).bind fun c3=>qfgb k m m (.lst true 1 []) (c3) 0 r2.2) none
abbrev qhid (k m:Nat):TB:=evC qehc qpy (evF qehc (k+1)) m (sub [1,1,1,0,1,2,3] qpy.code) none
abbrev qbad (k m:Nat):TK:=qav 0 (seqK (evC qehc qpy (evF qehc (k+1)) m (sub [1,1,1,1] qpy.code) none) (retK qehc qpy))
theorem qcuc (k m:Nat):∀ (n:Nat) (c4 c5:Cell) (i6:Int) (H7:List Entry),qbo (some [4,5,6]) (qhid k m) (qbad k m) n ⟨fT 45 0 [(4,.av (.one (c4))),(5,.av (.one (c5))),(6,.av (.one (Cell.int i6)))],fX 45 0 [],H7⟩=qfgb (k+1) m n c4 c5 i6 H7:=by
 intro n
 induction n with
 | zero=>intros;rfl
 | succ n ih=>intros;simp only[qfgb,← ih];kernel_rfl
theorem qwic (k m:Nat)(s1:ByteArray):evC qehc qpy (evF qehc (k+1)) m qpy.code none (retK qehc qpy) (enter qpy [.one (Cell.str s1)] [])=fej (k+1) m s1:=by
 simp only[fej,← qcuc k m]
 kernel_rfl
theorem quvb {s1:ByteArray}{r:Res}(k:Nat)(h:fej (k+1) (k+1) s1=some r):qbeb [.one (Cell.str s1)] []=some r:=qap (k:=k+2) (Eq.trans (Eq.trans (by kernel_rfl) (qwic k (k+1) s1)) h)
def qrrd:List (Nat×Run):=[(qit,qcv),(qnob,qbeb)]
def qcue:Ctx:=ctx qbd qbe qrrd
def qaab:Run:=lim qcue qnab
theorem ok_ffz:FnOk Tryz.prog OkT qnab qaab:=qan (l:=qrrd) qac tyTab_ok qad okT (.cons qhtb (.cons ok_fej .nil)) qnab
def ffz (k m:Nat)(s1 s2:ByteArray):Option Res:=(callL qbeb [.one (Cell.str s2)] []).bind fun r3=>cond (qab qwcd r3.1) ((cC (qaa r3.1 0) 0).bind fun c4=>(cB (qaa r3.1 1) 0).bind fun b5=>(qar qcv [.one (Cell.str s1)] r3.2).bind fun r6=>cond (qab qjk r6) ((cB (qaa r6 0) 0).bind fun b7=>cond b7 (cond (decide ((s2.size:Int)≤20)) (some ([.one (Cell.bool b5)],r3.2)) (some ([.one (Cell.bool false)],r3.2))) (some ([.one (Cell.bool false)],r3.2))) none) none
theorem qysc (k m:Nat)(s1 s2:ByteArray):evC qcue qpvb (evF qcue (k+1)) m qpvb.code none (retK qcue qpvb) (enter qpvb [.agg [Cell.str s1,Cell.str s2]] [])=ffz (k+1) m s1 s2:=by
 kernel_rfl
theorem qyqb {s1 s2:ByteArray}{r:Res}(k:Nat)(h:ffz (k+1) (k+1) s1 s2=some r):qaab [.agg [Cell.str s1,Cell.str s2]] []=some r:=qap (k:=k+2) (Eq.trans (Eq.trans (by kernel_rfl) (qysc k (k+1) s1 s2)) h)
def qpid:List (Nat×Run):=[(qnab,qaab)]
def qfyc:Ctx:=ctx qbd qbe qpid
def qxt:Run:=lim qfyc qmsb
theorem ok_fga:FnOk Tryz.prog OkT qmsb qxt:=qan (l:=qpid) qac tyTab_ok qad okT (.cons ok_ffz .nil) qmsb
def qxk (k m:Nat):Nat→Cell→Int→Option Res | 0,_,_=>none | n+1,c2,i3=>(lenC c2).bind fun n4=>cond (decide (i3 < (n4:Int))) ((idxA 2 (c2) i3).bind fun c5=>(deref [] (c5)).bind fun p6=>(cS p6.1 p6.2).bind fun s7=>(cS p6.1 (p6.2+1)).bind fun s8=>(qar qaab [.agg [Cell.str s7,Cell.str s8]] []).bind fun r9=>cond (qab qobd r9) ((cB (qaa r9 0) 0).bind fun b10=>cond (!b10) (some ([.one (Cell.bool false)],[])) (cond (decide (i3 > 0)) ((idxA 2 (c2) (IntKind.i64.wrap (i3 - 1))).bind fun c11=>(fldA c11 0).bind fun c12=>(deref [] (c12)).bind fun p13=>(cS p13.1 p13.2).bind fun s14=>(idxA 2 (c2) i3).bind fun c15=>(fldA c15 0).bind fun c16=>(deref [] (c16)).bind fun p17=>(cS p17.1 p17.2).bind fun s18=>cond (!Op.bytesLess s14.toList s18.toList) (some ([.one (Cell.bool false)],[])) (qxk k m n (c2) (IntKind.i64.wrap (i3+1)))) (qxk k m n (c2) (IntKind.i64.wrap (i3+1))))) none) ((lenC c2).bind fun n19=>some ([.one (Cell.bool (decide ((n19:Int)≤4)))],[]))
def fga (k m:Nat)(c1:Cell):Option Res:=qxk k m m (c1) 0
abbrev qggd (k m:Nat):TB:=evC qfyc qpd (evF qfyc (k+1)) m (sub [1,0,1,2,3] qpd.code) none
abbrev qydc (k m:Nat):TK:=qav 0 (seqK (evC qfyc qpd (evF qfyc (k+1)) m (sub [1,1] qpd.code) none) (retK qfyc qpd))
theorem qpoc (k m:Nat):∀ (n:Nat) (c2:Cell) (i3:Int),qbo (some [0,3]) (qggd k m) (qydc k m) n ⟨fT 37 0 [(0,.av (.one (c2))),(3,.av (.one (Cell.int i3)))],fX 37 0 [],[]⟩=qxk (k+1) m n c2 i3:=by
 intro n
 induction n with
 | zero=>intros;rfl
 | succ n ih=>intros;simp only[qxk,← ih];kernel_rfl
theorem qgwd (k m:Nat)(c1:Cell):evC qfyc qpd (evF qfyc (k+1)) m qpd.code none (retK qfyc qpd) (enter qpd [.one (c1)] [])=fga (k+1) m c1:=by
 simp only[fga,← qpoc k m]
 kernel_rfl
theorem qxvb {c1:Cell}{r:Res}(k:Nat)(h:fga (k+1) (k+1) c1=some r):qxt [.one (c1)] []=some r:=qap (k:=k+2) (Eq.trans (Eq.trans (by kernel_rfl) (qgwd k (k+1) c1)) h)
def qnld:List (Nat×Run):=[(qfc,qcb)]
def qmec:Ctx:=ctx qbd qbe qnld
def quc:Run:=lim qmec qkab
theorem ok_fem:FnOk Tryz.prog OkT qkab quc:=qan (l:=qnld) qac tyTab_ok qad okT (.cons qnp .nil) qkab
def qhmb (k m:Nat):Nat→ByteArray→Int→Int→Option Res | 0,_,_,_=>none | n+1,s3,i4,i5=>cond (decide (i5 < (s3.size:Int))) ((bytS s3 i5).bind fun i6=>(qar qcb [.one (Cell.int (IntKind.i64.wrap i6)),.one (Cell.int 32),.one (Cell.int 126)] []).bind fun r7=>cond (qab qgv r7) ((cB (qaa r7 0) 0).bind fun b8=>cond (!b8) (some ([.one (Cell.bool false)],[])) (qhmb k m n s3 i4 (IntKind.i64.wrap (i5+1)))) none) (some ([.one (Cell.bool (decide ((s3.size:Int)≤i4)))],[]))
def fem (k m:Nat)(s1:ByteArray)(i2:Int):Option Res:=qhmb k m m s1 i2 0
abbrev qkcd (k m:Nat):TB:=evC qmec qri (evF qmec (k+1)) m (sub [1,0,1,2,3] qri.code) none
abbrev qvbc (k m:Nat):TK:=qav 0 (seqK (evC qmec qri (evF qmec (k+1)) m (sub [1,1] qri.code) none) (retK qmec qri))
theorem qmoc (k m:Nat):∀ (n:Nat) (s3:ByteArray) (i4 i5:Int),qbo (some [0,1,5]) (qkcd k m) (qvbc k m) n ⟨fT 22 0 [(0,.av (.one (Cell.str s3))),(1,.av (.one (Cell.int i4))),(5,.av (.one (Cell.int i5)))],fX 22 0 [],[]⟩=qhmb (k+1) m n s3 i4 i5:=by
 intro n
 induction n with
 | zero=>intros;rfl
 | succ n ih=>intros;simp only[qhmb,← ih];kernel_rfl
theorem qffd (k m:Nat)(s1:ByteArray)(i2:Int):evC qmec qri (evF qmec (k+1)) m qri.code none (retK qmec qri) (enter qri [.one (Cell.str s1),.one (Cell.int i2)] [])=fem (k+1) m s1 i2:=by
 simp only[fem,← qmoc k m]
 kernel_rfl
theorem qxdb {s1:ByteArray}{i2:Int}{r:Res}(k:Nat)(h:fem (k+1) (k+1) s1 i2=some r):quc [.one (Cell.str s1),.one (Cell.int i2)] []=some r:=qap (k:=k+2) (Eq.trans (Eq.trans (by kernel_rfl) (qffd k (k+1) s1 i2)) h)
def qpkd:List (Nat×Run):=[(qit,qcv),(qfc,qcb),(qkab,quc)]
def qqsb:Ctx:=ctx qbd qbe qpkd
def qaub:Run:=lim qqsb qlkb
theorem ok_ffx:FnOk Tryz.prog OkT qlkb qaub:=qan (l:=qpkd) qac tyTab_ok qad okT (.cons qhtb (.cons qnp (.cons ok_fem .nil))) qlkb
def qux (k m:Nat)(b_l0:Cell→Int→Option Res):Nat→Cell→Int→Int→Option Res | 0,_,_,_=>none | n+1,c26,i27,i28=>(idxA 2 (c26) i27).bind fun c29=>(fldA c29 1).bind fun c30=>(deref [] (c30)).bind fun p31=>(cC p31.1 p31.2).bind fun c32=>(lenC c32).bind fun n33=>cond (decide (i28 < (n33:Int))) ((idxA 2 (c26) i27).bind fun c34=>(fldA c34 1).bind fun c35=>(deref [] (c35)).bind fun p36=>(cC p36.1 p36.2).bind fun c37=>(idxA 1 (c37) i28).bind fun c38=>(deref [] (c38)).bind fun p39=>(cS p39.1 p39.2).bind fun s40=>(qar quc [.one (Cell.str s40),.one (Cell.int 40)] []).bind fun r41=>cond (qab qtud r41) ((cB (qaa r41 0) 0).bind fun b42=>cond (!b42) (some ([.one (Cell.bool false)],[])) (qux k m b_l0 n (c26) i27 (IntKind.i64.wrap (i28+1)))) none) (b_l0 (c26) (IntKind.i64.wrap (i27+1)))
def qajb (k m:Nat):Nat→Cell→Int→Option Res | 0,_,_=>none | n+1,c2,i3=>(lenC c2).bind fun n4=>cond (decide (i3 < (n4:Int))) ((idxA 2 (c2) i3).bind fun c5=>(fldA c5 0).bind fun c6=>(deref [] (c6)).bind fun p7=>(cS p7.1 p7.2).bind fun s8=>(qar qcv [.one (Cell.str s8)] []).bind fun r9=>cond (qab qjk r9) ((cB (qaa r9 0) 0).bind fun b10=>cond (!b10) (some ([.one (Cell.bool false)],[])) ((idxA 2 (c2) i3).bind fun c11=>(fldA c11 1).bind fun c12=>(deref [] (c12)).bind fun p13=>(cC p13.1 p13.2).bind fun c14=>(lenC c14).bind fun n15=>(qar qcb [.one (Cell.int (n15:Int)),.one (Cell.int 1),.one (Cell.int 5)] []).bind fun r16=>cond (qab qgv r16) ((cB (qaa r16 0) 0).bind fun b17=>cond (!b17) (some ([.one (Cell.bool false)],[])) (cond (decide (i3 > 0)) ((idxA 2 (c2) (IntKind.i64.wrap (i3 - 1))).bind fun c18=>(fldA c18 0).bind fun c19=>(deref [] (c19)).bind fun p20=>(cS p20.1 p20.2).bind fun s21=>(idxA 2 (c2) i3).bind fun c22=>(fldA c22 0).bind fun c23=>(deref [] (c23)).bind fun p24=>(cS p24.1 p24.2).bind fun s25=>cond (!Op.bytesLess s21.toList s25.toList) (some ([.one (Cell.bool false)],[])) (qux k m (qajb k m n) m (c2) i3 0)) (qux k m (qajb k m n) m (c2) i3 0))) none)) none) ((lenC c2).bind fun n43=>some ([.one (Cell.bool (decide ((n43:Int)≤4)))],[]))
def ffx (k m:Nat)(c1:Cell):Option Res:=qajb k m m (c1) 0
abbrev qerb (k m:Nat):TB:=evC qqsb qjp (evF qqsb (k+1)) m (sub [1,0,1,2,3] qjp.code) none
abbrev qvg (k m:Nat):TK:=qav 0 (seqK (evC qqsb qjp (evF qqsb (k+1)) m (sub [1,1] qjp.code) none) (retK qqsb qjp))
abbrev qvnc (k m:Nat):TB:=evC qqsb qjp (evF qqsb (k+1)) m (sub [1,0,1,2,3,1,0,2,1,1,2,3] qjp.code) none
abbrev qhtd (k m:Nat)(n_l0:Nat):TK:=qav 2 (qav 1 (seqK (evC qqsb qjp (evF qqsb (k+1)) m (sub [1,0,1,2,3,1,1] qjp.code) none) (qjsd (fun s=>qbo (some [0,3]) (qerb k m) (qvg k m) n_l0 (qebb (some [0,3]) s)) (qvg k m))))
theorem qkec (k m:Nat)(b_l0:Cell→Int→Option Res)(n_l0:Nat)(h_l0:∀ (c2:Cell) (i3:Int),qbo (some [0,3]) (qerb k m) (qvg k m) n_l0 ⟨fT 69 0 [(0,.av (.one (c2))),(3,.av (.one (Cell.int i3)))],fX 69 0 [],[]⟩=b_l0 c2 i3):∀ (n:Nat) (c26:Cell) (i27 i28:Int),qbo (some [0,3,4]) (qvnc k m) (qhtd k m n_l0) n ⟨fT 69 0 [(0,.av (.one (c26))),(3,.av (.one (Cell.int i27))),(4,.av (.one (Cell.int i28)))],fX 69 0 [],[]⟩=qux (k+1) m b_l0 n c26 i27 i28:=by
 intro n
 induction n with
 | zero=>intros;rfl
 | succ n ih=>intros;simp only[qux,← h_l0,← ih];kernel_rfl
theorem qqhc (k m:Nat):∀ (n:Nat) (c2:Cell) (i3:Int),qbo (some [0,3]) (qerb k m) (qvg k m) n ⟨fT 69 0 [(0,.av (.one (c2))),(3,.av (.one (Cell.int i3)))],fX 69 0 [],[]⟩=qajb (k+1) m n c2 i3:=by
 intro n
 induction n with
 | zero=>intros;rfl
 | succ n ih=>intros;simp only[qajb,← qkec k m _ _ (ih)];kernel_rfl
theorem qaxd (k m:Nat)(c1:Cell):evC qqsb qjp (evF qqsb (k+1)) m qjp.code none (retK qqsb qjp) (enter qjp [.one (c1)] [])=ffx (k+1) m c1:=by
 simp only[ffx,← qqhc k m]
 kernel_rfl
theorem qazc {c1:Cell}{r:Res}(k:Nat)(h:ffx (k+1) (k+1) c1=some r):qaub [.one (c1)] []=some r:=qap (k:=k+2) (Eq.trans (Eq.trans (by kernel_rfl) (qaxd k (k+1) c1)) h)
def qrbd:List (Nat×Run):=[(qit,qcv),(qxr,qsd),(qleb,qdob),(qmsb,qxt),(qlkb,qaub)]
def qdre:Ctx:=ctx qbd qbe qrbd
def qzh:Run:=lim qdre qmpb
theorem ok_feg:FnOk Tryz.prog OkT qmpb qzh:=qan (l:=qrbd) qac tyTab_ok qad okT (.cons qhtb (.cons qqmd (.cons ok_ffw (.cons ok_fga (.cons ok_ffx .nil))))) qmpb
def feg (k m:Nat)(s1:ByteArray)(c2 c3 c4:Cell):Option Res:=(qar qcv [.one (Cell.str s1)] []).bind fun r5=>cond (qab qjk r5) ((cB (qaa r5 0) 0).bind fun b6=>cond b6 ((lenC c2).bind fun n7=>cond (decide ((n7:Int)≤4)) ((qar qsd [.one (c2)] []).bind fun r8=>cond (qab qfxd r8) ((cB (qaa r8 0) 0).bind fun b9=>cond b9 ((qar qdob [.one (c2)] []).bind fun r10=>cond (qab qvhd r10) ((cB (qaa r10 0) 0).bind fun b11=>cond b11 ((qar qxt [.one (c3)] []).bind fun r12=>cond (qab qszd r12) ((cB (qaa r12 0) 0).bind fun b13=>cond b13 ((qar qaub [.one (c4)] []).bind fun r14=>cond (qab qxid r14) ((cB (qaa r14 0) 0).bind fun b15=>some ([.one (Cell.bool b15)],[])) none) (some ([.one (Cell.bool false)],[]))) none) (some ([.one (Cell.bool false)],[]))) none) (some ([.one (Cell.bool false)],[]))) none) (some ([.one (Cell.bool false)],[]))) (some ([.one (Cell.bool false)],[]))) none
theorem qgcd (k m:Nat)(s1:ByteArray)(c2 c3 c4:Cell):evC qdre qslb (evF qdre (k+1)) m qslb.code none (retK qdre qslb) (enter qslb [.agg [Cell.str s1,c2,c3,c4]] [])=feg (k+1) m s1 c2 c3 c4:=by
 kernel_rfl
theorem qcac {s1:ByteArray}{c2 c3 c4:Cell}{r:Res}(k:Nat)(h:feg (k+1) (k+1) s1 c2 c3 c4=some r):qzh [.agg [Cell.str s1,c2,c3,c4]] []=some r:=qap (k:=k+2) (Eq.trans (Eq.trans (by kernel_rfl) (qgcd k (k+1) s1 c2 c3 c4)) h)
def qumd:List (Nat×Run):=[]
def qfnc:Ctx:=ctx qbd qbe qumd
def qku:Run:=lim qfnc qtl
theorem qaed:FnOk Tryz.prog OkT qtl qku:=qan (l:=qumd) qac tyTab_ok qad okT .nil qtl
def qgnb (k m:Nat):Nat→Cell→ByteArray→Int→Option Res | 0,_,_,_=>none | n+1,c3,s4,i5=>(lenC c3).bind fun n6=>cond (decide (i5 < (n6:Int))) ((idxA 4 (c3) i5).bind fun c7=>(fldA c7 0).bind fun c8=>(deref [] (c8)).bind fun p9=>(cS p9.1 p9.2).bind fun s10=>cond (s10.toList==s4.toList) (some ([.one (Cell.int i5)],[])) (qgnb k m n (c3) s4 (IntKind.i64.wrap (i5+1)))) (some ([.one (Cell.int (-1))],[]))
def fec (k m:Nat)(c1:Cell)(s2:ByteArray):Option Res:=qgnb k m m (c1) s2 0
abbrev qhcd (k m:Nat):TB:=evC qfnc qoy (evF qfnc (k+1)) m (sub [1,0,1,2,3] qoy.code) none
abbrev qync (k m:Nat):TK:=qav 0 (seqK (evC qfnc qoy (evF qfnc (k+1)) m (sub [1,1] qoy.code) none) (retK qfnc qoy))
theorem qqac (k m:Nat):∀ (n:Nat) (c3:Cell) (s4:ByteArray) (i5:Int),qbo (some [0,1,5]) (qhcd k m) (qync k m) n ⟨fT 20 0 [(0,.av (.one (c3))),(1,.av (.one (Cell.str s4))),(5,.av (.one (Cell.int i5)))],fX 20 0 [],[]⟩=qgnb (k+1) m n c3 s4 i5:=by
 intro n
 induction n with
 | zero=>intros;rfl
 | succ n ih=>intros;simp only[qgnb,← ih];kernel_rfl
theorem qchd (k m:Nat)(c1:Cell)(s2:ByteArray):evC qfnc qoy (evF qfnc (k+1)) m qoy.code none (retK qfnc qoy) (enter qoy [.one (c1),.one (Cell.str s2)] [])=fec (k+1) m c1 s2:=by
 simp only[fec,← qqac k m]
 kernel_rfl
theorem qaec {c1:Cell}{s2:ByteArray}{r:Res}(k:Nat)(h:fec (k+1) (k+1) c1 s2=some r):qku [.one (c1),.one (Cell.str s2)] []=some r:=qap (k:=k+2) (Eq.trans (Eq.trans (by kernel_rfl) (qchd k (k+1) c1 s2)) h)
def qmtd:List (Nat×Run):=[(qmpb,qzh),(qtl,qku)]
def qszb:Ctx:=ctx qbd qbe qmtd
def qmj:Run:=lim qszb qkvb
theorem ok_feh:FnOk Tryz.prog OkT qkvb qmj:=qan (l:=qmtd) qac tyTab_ok qad okT (.cons ok_feg (.cons qaed .nil)) qkvb
def qvi (k m:Nat)(b_l0:Cell→Int→Option Res):Nat→Cell→Int→Int→Option Res | 0,_,_,_=>none | n+1,c21,i22,i23=>(idxA 4 (c21) i22).bind fun c24=>(fldA c24 1).bind fun c25=>(deref [] (c25)).bind fun p26=>(cC p26.1 p26.2).bind fun c27=>(lenC c27).bind fun n28=>cond (decide (i23 < (n28:Int))) ((idxA 4 (c21) i22).bind fun c29=>(fldA c29 1).bind fun c30=>(deref [] (c30)).bind fun p31=>(cC p31.1 p31.2).bind fun c32=>(idxA 1 (c32) i23).bind fun c33=>(deref [] (c33)).bind fun p34=>(cS p34.1 p34.2).bind fun s35=>(qar qku [.one (c21),.one (Cell.str s35)] []).bind fun r36=>cond (qab qcyc r36) ((cI .i64 (qaa r36 0) 0).bind fun i37=>cond (decide (i37 < 0)) (some ([.one (Cell.bool false)],[])) ((idxA 4 (c21) i22).bind fun c38=>(fldA c38 1).bind fun c39=>(deref [] (c39)).bind fun p40=>(cC p40.1 p40.2).bind fun c41=>(idxA 1 (c41) i23).bind fun c42=>(deref [] (c42)).bind fun p43=>(cS p43.1 p43.2).bind fun s44=>(idxA 4 (c21) i22).bind fun c45=>(fldA c45 0).bind fun c46=>(deref [] (c46)).bind fun p47=>(cS p47.1 p47.2).bind fun s48=>cond (s44.toList==s48.toList) (some ([.one (Cell.bool false)],[])) (qvi k m b_l0 n (c21) i22 (IntKind.i64.wrap (i23+1))))) none) (b_l0 (c21) (IntKind.i64.wrap (i22+1)))
def qxz (k m:Nat):Nat→Cell→Int→Option Res | 0,_,_=>none | n+1,c2,i3=>(lenC c2).bind fun n4=>cond (decide (i3 < (n4:Int))) ((idxA 4 (c2) i3).bind fun c5=>(deref [] (c5)).bind fun p6=>(cS p6.1 p6.2).bind fun s7=>(cC p6.1 (p6.2+1)).bind fun c8=>(cC p6.1 ((p6.2+1)+1)).bind fun c9=>(cC p6.1 (((p6.2+1)+1)+1)).bind fun c10=>(qar qzh [.agg [Cell.str s7,c8,c9,c10]] []).bind fun r11=>cond (qab qxbd r11) ((cB (qaa r11 0) 0).bind fun b12=>cond (!b12) (some ([.one (Cell.bool false)],[])) (cond (decide (i3 > 0)) ((idxA 4 (c2) (IntKind.i64.wrap (i3 - 1))).bind fun c13=>(fldA c13 0).bind fun c14=>(deref [] (c14)).bind fun p15=>(cS p15.1 p15.2).bind fun s16=>(idxA 4 (c2) i3).bind fun c17=>(fldA c17 0).bind fun c18=>(deref [] (c18)).bind fun p19=>(cS p19.1 p19.2).bind fun s20=>cond (!Op.bytesLess s16.toList s20.toList) (some ([.one (Cell.bool false)],[])) (qvi k m (qxz k m n) m (c2) i3 0)) (qvi k m (qxz k m n) m (c2) i3 0))) none) ((lenC c2).bind fun n49=>some ([.one (Cell.bool (decide ((n49:Int)≤6)))],[]))
def feh (k m:Nat)(c1:Cell):Option Res:=qxz k m m (c1) 0
abbrev qfbb (k m:Nat):TB:=evC qszb qjo (evF qszb (k+1)) m (sub [1,0,1,2,3] qjo.code) none
abbrev quz (k m:Nat):TK:=qav 0 (seqK (evC qszb qjo (evF qszb (k+1)) m (sub [1,1] qjo.code) none) (retK qszb qjo))
abbrev qcqd (k m:Nat):TB:=evC qszb qjo (evF qszb (k+1)) m (sub [1,0,1,2,3,1,0,2,1,1,2,3] qjo.code) none
abbrev qdhd (k m:Nat)(n_l0:Nat):TK:=qav 2 (qav 1 (seqK (evC qszb qjo (evF qszb (k+1)) m (sub [1,0,1,2,3,1,1] qjo.code) none) (qjsd (fun s=>qbo (some [0,3]) (qfbb k m) (quz k m) n_l0 (qebb (some [0,3]) s)) (quz k m))))
theorem qnjc (k m:Nat)(b_l0:Cell→Int→Option Res)(n_l0:Nat)(h_l0:∀ (c2:Cell) (i3:Int),qbo (some [0,3]) (qfbb k m) (quz k m) n_l0 ⟨fT 75 0 [(0,.av (.one (c2))),(3,.av (.one (Cell.int i3)))],fX 75 0 [],[]⟩=b_l0 c2 i3):∀ (n:Nat) (c21:Cell) (i22 i23:Int),qbo (some [0,3,4]) (qcqd k m) (qdhd k m n_l0) n ⟨fT 75 0 [(0,.av (.one (c21))),(3,.av (.one (Cell.int i22))),(4,.av (.one (Cell.int i23)))],fX 75 0 [],[]⟩=qvi (k+1) m b_l0 n c21 i22 i23:=by
 intro n
 induction n with
 | zero=>intros;rfl
 | succ n ih=>intros;simp only[qvi,← h_l0,← ih];kernel_rfl
theorem qmrc (k m:Nat):∀ (n:Nat) (c2:Cell) (i3:Int),qbo (some [0,3]) (qfbb k m) (quz k m) n ⟨fT 75 0 [(0,.av (.one (c2))),(3,.av (.one (Cell.int i3)))],fX 75 0 [],[]⟩=qxz (k+1) m n c2 i3:=by
 intro n
 induction n with
 | zero=>intros;rfl
 | succ n ih=>intros;simp only[qxz,← qnjc k m _ _ (ih)];kernel_rfl
theorem qcud (k m:Nat)(c1:Cell):evC qszb qjo (evF qszb (k+1)) m qjo.code none (retK qszb qjo) (enter qjo [.one (c1)] [])=feh (k+1) m c1:=by
 simp only[feh,← qmrc k m]
 kernel_rfl
theorem qutb {c1:Cell}{r:Res}(k:Nat)(h:feh (k+1) (k+1) c1=some r):qmj [.one (c1)] []=some r:=qap (k:=k+2) (Eq.trans (Eq.trans (by kernel_rfl) (qcud k (k+1) c1)) h)
def qzxd:List (Nat×Run):=[(qkp,qco),(qit,qcv)]
def qbse:Ctx:=ctx qbd qbe qzxd
def qbfb:Run:=lim qbse qngb
theorem ok_fef:FnOk Tryz.prog OkT qngb qbfb:=qan (l:=qzxd) qac tyTab_ok qad okT (.cons qrub (.cons qhtb .nil)) qngb
def fef (k m:Nat)(s1:ByteArray):Option Res:=cond (decide ((s1.size:Int) > 0)) ((bytS s1 0).bind fun i2=>cond (i2==94) ((subS s1 1 (s1.size:Int)).bind fun s3=>(qar qcv [.one (Cell.str s3)] []).bind fun r4=>cond (qab qjk r4) ((cB (qaa r4 0) 0).bind fun b5=>some ([.one (Cell.bool b5)],[])) none) ((callL qco [.one (Cell.str s1),.one (.sc (.int .u8 35))] []).bind fun r6=>cond (qab qly r6.1) ((cC (qaa r6.1 0) 0).bind fun c7=>(lenC c7).bind fun n8=>cond ((n8:Int)==2) ((idxA 1 (c7) 0).bind fun c9=>(deref r6.2 (c9)).bind fun p10=>(cS p10.1 p10.2).bind fun s11=>(qar qcv [.one (Cell.str s11)] r6.2).bind fun r12=>cond (qab qjk r12) ((cB (qaa r12 0) 0).bind fun b13=>cond b13 ((idxA 1 (c7) 1).bind fun c14=>(deref r6.2 (c14)).bind fun p15=>(cS p15.1 p15.2).bind fun s16=>(qar qcv [.one (Cell.str s16)] r6.2).bind fun r17=>cond (qab qjk r17) ((cB (qaa r17 0) 0).bind fun b18=>some ([.one (Cell.bool b18)],r6.2)) none) (some ([.one (Cell.bool false)],r6.2))) none) ((qar qcv [.one (Cell.str s1)] r6.2).bind fun r19=>cond (qab qjk r19) ((cB (qaa r19 0) 0).bind fun b20=>some ([.one (Cell.bool b20)],r6.2)) none)) none)) ((callL qco [.one (Cell.str s1),.one (.sc (.int .u8 35))] []).bind fun r21=>cond (qab qly r21.1) ((cC (qaa r21.1 0) 0).bind fun c22=>(lenC c22).bind fun n23=>cond ((n23:Int)==2) ((idxA 1 (c22) 0).bind fun c24=>(deref r21.2 (c24)).bind fun p25=>(cS p25.1 p25.2).bind fun s26=>(qar qcv [.one (Cell.str s26)] r21.2).bind fun r27=>cond (qab qjk r27) ((cB (qaa r27 0) 0).bind fun b28=>cond b28 ((idxA 1 (c22) 1).bind fun c29=>(deref r21.2 (c29)).bind fun p30=>(cS p30.1 p30.2).bind fun s31=>(qar qcv [.one (Cell.str s31)] r21.2).bind fun r32=>cond (qab qjk r32) ((cB (qaa r32 0) 0).bind fun b33=>some ([.one (Cell.bool b33)],r21.2)) none) (some ([.one (Cell.bool false)],r21.2))) none) ((qar qcv [.one (Cell.str s1)] r21.2).bind fun r34=>cond (qab qjk r34) ((cB (qaa r34 0) 0).bind fun b35=>some ([.one (Cell.bool b35)],r21.2)) none)) none)
theorem qjxd (k m:Nat)(s1:ByteArray):evC qbse qssb (evF qbse (k+1)) m qssb.code none (retK qbse qssb) (enter qssb [.one (Cell.str s1)] [])=fef (k+1) m s1:=by
 kernel_rfl
theorem qbnc {s1:ByteArray}{r:Res}(k:Nat)(h:fef (k+1) (k+1) s1=some r):qbfb [.one (Cell.str s1)] []=some r:=qap (k:=k+2) (Eq.trans (Eq.trans (by kernel_rfl) (qjxd k (k+1) s1)) h)
def qoad:List (Nat×Run):=[(qoq,qhg),(qkx,qet),(qfc,qcb)]
def qinc:Ctx:=ctx qbd qbe qoad
def qxl:Run:=lim qinc qmxb
theorem ok_ffu:FnOk Tryz.prog OkT qmxb qxl:=qan (l:=qoad) qac tyTab_ok qad okT (.cons qdac (.cons qsxb (.cons qnp .nil))) qmxb
def qsz (k m:Nat):Nat→ByteArray→Int→Int→Option Res | 0,_,_,_=>none | n+1,s4,i5,i6=>cond (decide (i5 < (s4.size:Int))) ((bytS s4 i5).bind fun i7=>(qar qhg [.one (.sc (.int .u8 i7))] []).bind fun r8=>cond (qab qvwb r8) ((cB (qaa r8 0) 0).bind fun b9=>cond b9 (qsz k m n s4 (IntKind.i64.wrap (i5+1)) (IntKind.i64.wrap (i6+1))) ((bytS s4 i5).bind fun i10=>(qar qet [.one (.sc (.int .u8 i10))] []).bind fun r11=>cond (qab qfyb r11) ((cB (qaa r11 0) 0).bind fun b12=>cond b12 (qsz k m n s4 (IntKind.i64.wrap (i5+1)) (IntKind.i64.wrap (i6+1))) ((qar qcb [.one (Cell.int i6),.one (Cell.int 1),.one (Cell.int 5)] []).bind fun r13=>cond (qab qgv r13) ((cB (qaa r13 0) 0).bind fun b14=>cond (!b14) (some ([.one (Cell.int (-1))],[])) (cond (decide (i5≥(s4.size:Int))) (some ([.one (Cell.int (-1))],[])) ((bytS s4 i5).bind fun i15=>cond (i15 != 93) (some ([.one (Cell.int (-1))],[])) (some ([.one (Cell.int (IntKind.i64.wrap (i5+1)))],[]))))) none)) none)) none) ((qar qcb [.one (Cell.int i6),.one (Cell.int 1),.one (Cell.int 5)] []).bind fun r16=>cond (qab qgv r16) ((cB (qaa r16 0) 0).bind fun b17=>cond (!b17) (some ([.one (Cell.int (-1))],[])) (cond (decide (i5≥(s4.size:Int))) (some ([.one (Cell.int (-1))],[])) ((bytS s4 i5).bind fun i18=>cond (i18 != 93) (some ([.one (Cell.int (-1))],[])) (some ([.one (Cell.int (IntKind.i64.wrap (i5+1)))],[]))))) none)
def ffu (k m:Nat)(s1:ByteArray)(i2:Int):Option Res:=cond (decide ((IntKind.i64.wrap (i2+1)) < (s1.size:Int))) ((bytS s1 (IntKind.i64.wrap (i2+1))).bind fun i3=>cond (i3==33) (qsz k m m s1 (IntKind.i64.wrap ((IntKind.i64.wrap (i2+1))+1)) 0) (qsz k m m s1 (IntKind.i64.wrap (i2+1)) 0)) (qsz k m m s1 (IntKind.i64.wrap (i2+1)) 0)
abbrev qvac (k m:Nat):TB:=evC qinc qno (evF qinc (k+1)) m (sub [1,1,1,1,0,2,3] qno.code) none
abbrev qeqd (k m:Nat):TK:=qav 0 (seqK (evC qinc qno (evF qinc (k+1)) m (sub [1,1,1,1,1] qno.code) none) (retK qinc qno))
theorem qljc (k m:Nat):∀ (n:Nat) (s4:ByteArray) (i5 i6:Int),qbo (some [0,5,6]) (qvac k m) (qeqd k m) n ⟨fT 58 0 [(0,.av (.one (Cell.str s4))),(5,.av (.one (Cell.int i5))),(6,.av (.one (Cell.int i6)))],fX 58 0 [],[]⟩=qsz (k+1) m n s4 i5 i6:=by
 intro n
 induction n with
 | zero=>intros;rfl
 | succ n ih=>intros;simp only[qsz,← ih];kernel_rfl
theorem qkmd (k m:Nat)(s1:ByteArray)(i2:Int):evC qinc qno (evF qinc (k+1)) m qno.code none (retK qinc qno) (enter qno [.one (Cell.str s1),.one (Cell.int i2)] [])=ffu (k+1) m s1 i2:=by
 simp only[ffu,← qljc k m]
 kernel_rfl
theorem qatc {s1:ByteArray}{i2:Int}{r:Res}(k:Nat)(h:ffu (k+1) (k+1) s1 i2=some r):qxl [.one (Cell.str s1),.one (Cell.int i2)] []=some r:=qap (k:=k+2) (Eq.trans (Eq.trans (by kernel_rfl) (qkmd k (k+1) s1 i2)) h)
def quad:List (Nat×Run):=[(qoq,qhg),(qkx,qet)]
def qdqe:Ctx:=ctx qbd qbe quad
def qwr:Run:=lim qdqe qipb
theorem ok_fft:FnOk Tryz.prog OkT qipb qwr:=qan (l:=quad) qac tyTab_ok qad okT (.cons qdac (.cons qsxb .nil)) qipb
def fft (k m:Nat)(i1:Int):Option Res:=(qar qhg [.one (.sc (.int .u8 i1))] []).bind fun r2=>cond (qab qvwb r2) ((cB (qaa r2 0) 0).bind fun b3=>cond b3 (some ([.one (Cell.bool true)],[])) ((qar qet [.one (.sc (.int .u8 i1))] []).bind fun r4=>cond (qab qfyb r4) ((cB (qaa r4 0) 0).bind fun b5=>cond b5 (some ([.one (Cell.bool true)],[])) (cond (i1==46) (some ([.one (Cell.bool true)],[])) (cond (i1==45) (some ([.one (Cell.bool true)],[])) (some ([.one (Cell.bool (i1==95))],[]))))) none)) none
theorem qknd (k m:Nat)(i1:Int):evC qdqe qqkb (evF qdqe (k+1)) m qqkb.code none (retK qdqe qqkb) (enter qqkb [.one (.sc (.int .u8 i1))] [])=fft (k+1) m i1:=by
 kernel_rfl
theorem qxcb {i1:Int}{r:Res}(k:Nat)(h:fft (k+1) (k+1) i1=some r):qwr [.one (.sc (.int .u8 i1))] []=some r:=qap (k:=k+2) (Eq.trans (Eq.trans (by kernel_rfl) (qknd k (k+1) i1)) h)
def qold:List (Nat×Run):=[(qfc,qcb),(qmxb,qxl),(qipb,qwr)]
def qhsc:Ctx:=ctx qbd qbe qold
def qzo:Run:=lim qhsc qjrb
theorem ok_ffv:FnOk Tryz.prog OkT qjrb qzo:=qan (l:=qold) qac tyTab_ok qad okT (.cons qnp (.cons ok_ffu (.cons ok_fft .nil))) qjrb
def qqh (k m:Nat):Nat→ByteArray→Int→Int→Option Res | 0,_,_,_=>none | n+1,s2,i3,i4=>cond (decide (i4 < (s2.size:Int))) ((bytS s2 i4).bind fun i5=>cond (i5==91) ((qar qxl [.one (Cell.str s2),.one (Cell.int i4)] []).bind fun r6=>cond (qab qwwd r6) ((cI .i64 (qaa r6 0) 0).bind fun i7=>cond (decide (i7 < 0)) (some ([.one (Cell.bool false)],[])) (qqh k m n s2 (IntKind.i64.wrap (i3+1)) i7)) none) ((bytS s2 i4).bind fun i8=>(qar qwr [.one (.sc (.int .u8 i8))] []).bind fun r9=>cond (qab qate r9) ((cB (qaa r9 0) 0).bind fun b10=>cond b10 (qqh k m n s2 (IntKind.i64.wrap (i3+1)) (IntKind.i64.wrap (i4+1))) ((bytS s2 i4).bind fun i11=>cond (i11==63) (qqh k m n s2 (IntKind.i64.wrap (i3+1)) (IntKind.i64.wrap (i4+1))) ((bytS s2 i4).bind fun i12=>cond (i12==42) (qqh k m n s2 (IntKind.i64.wrap (i3+1)) (IntKind.i64.wrap (i4+1))) (some ([.one (Cell.bool false)],[]))))) none)) ((qar qcb [.one (Cell.int i3),.one (Cell.int 1),.one (Cell.int 12)] []).bind fun r13=>cond (qab qgv r13) ((cB (qaa r13 0) 0).bind fun b14=>some ([.one (Cell.bool b14)],[])) none)
def ffv (k m:Nat)(s1:ByteArray):Option Res:=qqh k m m s1 0 0
abbrev qwjc (k m:Nat):TB:=evC qhsc qqe (evF qhsc (k+1)) m (sub [1,1,0,1,2,3] qqe.code) none
abbrev qgfd (k m:Nat):TK:=qav 0 (seqK (evC qhsc qqe (evF qhsc (k+1)) m (sub [1,1,1] qqe.code) none) (retK qhsc qqe))
theorem qooc (k m:Nat):∀ (n:Nat) (s2:ByteArray) (i3 i4:Int),qbo (some [0,3,4]) (qwjc k m) (qgfd k m) n ⟨fT 42 0 [(0,.av (.one (Cell.str s2))),(3,.av (.one (Cell.int i3))),(4,.av (.one (Cell.int i4)))],fX 42 0 [],[]⟩=qqh (k+1) m n s2 i3 i4:=by
 intro n
 induction n with
 | zero=>intros;rfl
 | succ n ih=>intros;simp only[qqh,← ih];kernel_rfl
theorem qaid (k m:Nat)(s1:ByteArray):evC qhsc qqe (evF qhsc (k+1)) m qqe.code none (retK qhsc qqe) (enter qqe [.one (Cell.str s1)] [])=ffv (k+1) m s1:=by
 simp only[ffv,← qooc k m]
 kernel_rfl
theorem qbtc {s1:ByteArray}{r:Res}(k:Nat)(h:ffv (k+1) (k+1) s1=some r):qzo [.one (Cell.str s1)] []=some r:=qap (k:=k+2) (Eq.trans (Eq.trans (by kernel_rfl) (qaid k (k+1) s1)) h)
def qaee:List (Nat×Run):=[(qkp,qco),(qjrb,qzo)]
def qgjc:Ctx:=ctx qbd qbe qaee
def qzp:Run:=lim qgjc qneb
theorem ok_fed:FnOk Tryz.prog OkT qneb qzp:=qan (l:=qaee) qac tyTab_ok qad okT (.cons qrub (.cons ok_ffv .nil)) qneb
def qyr (k m:Nat):Nat→Cell→Int→List Entry→Option Res | 0,_,_,_=>none | n+1,c4,i5,H6=>(lenC c4).bind fun n7=>cond (decide (i5 < (n7:Int))) ((idxA 1 (c4) i5).bind fun c8=>(deref H6 (c8)).bind fun p9=>(cS p9.1 p9.2).bind fun s10=>cond (!(s10.toList==(bs [42,42]).toList)) ((idxA 1 (c4) i5).bind fun c11=>(deref H6 (c11)).bind fun p12=>(cS p12.1 p12.2).bind fun s13=>(qar qzo [.one (Cell.str s13)] H6).bind fun r14=>cond (qab qqed r14) ((cB (qaa r14 0) 0).bind fun b15=>cond (!b15) (some ([.one (Cell.bool false)],H6)) (qyr k m n (c4) (IntKind.i64.wrap (i5+1)) H6)) none) (qyr k m n (c4) (IntKind.i64.wrap (i5+1)) H6)) ((lenC c4).bind fun n16=>some ([.one (Cell.bool (decide ((n16:Int)≤4)))],H6))
def fed (k m:Nat)(s1:ByteArray):Option Res:=(callL qco [.one (Cell.str s1),.one (.sc (.int .u8 47))] []).bind fun r2=>cond (qab qly r2.1) ((cC (qaa r2.1 0) 0).bind fun c3=>qyr k m m (c3) 0 r2.2) none
abbrev qkyd (k m:Nat):TB:=evC qgjc qpv (evF qgjc (k+1)) m (sub [1,1,0,1,2,3] qpv.code) none
abbrev qwfc (k m:Nat):TK:=qav 0 (seqK (evC qgjc qpv (evF qgjc (k+1)) m (sub [1,1,1] qpv.code) none) (retK qgjc qpv))
theorem qktc (k m:Nat):∀ (n:Nat) (c4:Cell) (i5:Int) (H6:List Entry),qbo (some [3,4]) (qkyd k m) (qwfc k m) n ⟨fT 29 0 [(3,.av (.one (c4))),(4,.av (.one (Cell.int i5)))],fX 29 0 [],H6⟩=qyr (k+1) m n c4 i5 H6:=by
 intro n
 induction n with
 | zero=>intros;rfl
 | succ n ih=>intros;simp only[qyr,← ih];kernel_rfl
theorem qzrc (k m:Nat)(s1:ByteArray):evC qgjc qpv (evF qgjc (k+1)) m qpv.code none (retK qgjc qpv) (enter qpv [.one (Cell.str s1)] [])=fed (k+1) m s1:=by
 simp only[fed,← qktc k m]
 kernel_rfl
theorem qwdb {s1:ByteArray}{r:Res}(k:Nat)(h:fed (k+1) (k+1) s1=some r):qzp [.one (Cell.str s1)] []=some r:=qap (k:=k+2) (Eq.trans (Eq.trans (by kernel_rfl) (qzrc k (k+1) s1)) h)
def qwvd:List (Nat×Run):=[(qit,qcv),(qxr,qsd),(qngb,qbfb),(qneb,qzp)]
def qmub:Ctx:=ctx qbd qbe qwvd
def qyf:Run:=lim qmub qowb
theorem ok_few:FnOk Tryz.prog OkT qowb qyf:=qan (l:=qwvd) qac tyTab_ok qad okT (.cons qhtb (.cons qqmd (.cons ok_fef (.cons ok_fed .nil)))) qowb
def qczb (k m:Nat):Nat→Int→ByteArray→Cell→Cell→Cell→Bool→Option Res | 0,_,_,_,_,_,_=>none | n+1,i18,s19,c20,c21,c22,b23=>(lenC c21).bind fun n24=>cond (decide (i18 < (n24:Int))) ((idxA 1 (c21) i18).bind fun c25=>(deref [] (c25)).bind fun p26=>(cS p26.1 p26.2).bind fun s27=>(qar qzp [.one (Cell.str s27)] []).bind fun r28=>cond (qab quid r28) ((cB (qaa r28 0) 0).bind fun b29=>cond (!b29) (some ([.one (Cell.bool false)],[])) ((idxA 1 (c21) i18).bind fun c30=>(deref [] (c30)).bind fun p31=>(cS p31.1 p31.2).bind fun s32=>cond (decide ((s32.size:Int) > 60)) (some ([.one (Cell.bool false)],[])) (qczb k m n (IntKind.i64.wrap (i18+1)) s19 (c20) (c21) (c22) b23))) none) ((qar qcv [.one (Cell.str s19)] []).bind fun r33=>cond (qab qjk r33) ((cB (qaa r33 0) 0).bind fun b34=>cond b34 ((lenC c20).bind fun n35=>cond (decide ((n35:Int)≤4)) ((lenC c21).bind fun n36=>cond (decide ((n36:Int)≤4)) ((lenC c22).bind fun n37=>cond (decide ((n37:Int)≤3)) ((qar qsd [.one (c22)] []).bind fun r38=>cond (qab qfxd r38) ((cB (qaa r38 0) 0).bind fun b39=>some ([.one (Cell.bool b39)],[])) none) (some ([.one (Cell.bool false)],[]))) (some ([.one (Cell.bool false)],[]))) (some ([.one (Cell.bool false)],[]))) (some ([.one (Cell.bool false)],[]))) none)
def qgab (k m:Nat):Nat→Int→ByteArray→Cell→Cell→Cell→Bool→Option Res | 0,_,_,_,_,_,_=>none | n+1,i6,s7,c8,c9,c10,b11=>(lenC c8).bind fun n12=>cond (decide (i6 < (n12:Int))) ((idxA 1 (c8) i6).bind fun c13=>(deref [] (c13)).bind fun p14=>(cS p14.1 p14.2).bind fun s15=>(qar qbfb [.one (Cell.str s15)] []).bind fun r16=>cond (qab qndd r16) ((cB (qaa r16 0) 0).bind fun b17=>cond (!b17) (some ([.one (Cell.bool false)],[])) (qgab k m n (IntKind.i64.wrap (i6+1)) s7 (c8) (c9) (c10) b11)) none) (qczb k m m 0 s7 (c8) (c9) (c10) b11)
def few (k m:Nat)(s1:ByteArray)(c2 c3 c4:Cell)(b5:Bool):Option Res:=qgab k m m 0 s1 (c2) (c3) (c4) b5
abbrev qdpd (k m:Nat):TB:=evC qmub qim (evF qmub (k+1)) m (sub [1,0,1,2,3] qim.code) none
abbrev qvqc (k m:Nat):TK:=qav 0 (seqK (evC qmub qim (evF qmub (k+1)) m (sub [1,1] qim.code) none) (retK qmub qim))
abbrev qefd (k m:Nat):TB:=evC qmub qim (evF qmub (k+1)) m (sub [1,1,0,1,2,3] qim.code) none
abbrev qylc (k m:Nat):TK:=qav 2 (seqK (evC qmub qim (evF qmub (k+1)) m (sub [1,1,1] qim.code) none) (retK qmub qim))
theorem qncc (k m:Nat):∀ (n:Nat) (i18:Int) (s19:ByteArray) (c20 c21 c22:Cell) (b23:Bool),qbo (some [1,4]) (qefd k m) (qylc k m) n ⟨fT 68 0 [(1,.loc 1 0),(4,.av (.one (Cell.int i18)))],fX 68 0 [(1,[Cell.str s19,c20,c21,c22,Cell.bool b23])],[]⟩=qczb (k+1) m n i18 s19 c20 c21 c22 b23:=by
 intro n
 induction n with
 | zero=>intros;rfl
 | succ n ih=>intros;simp only[qczb,← ih];kernel_rfl
theorem qonc (k m:Nat):∀ (n:Nat) (i6:Int) (s7:ByteArray) (c8 c9 c10:Cell) (b11:Bool),qbo (some [1,3]) (qdpd k m) (qvqc k m) n ⟨fT 68 0 [(1,.loc 1 0),(3,.av (.one (Cell.int i6)))],fX 68 0 [(1,[Cell.str s7,c8,c9,c10,Cell.bool b11])],[]⟩=qgab (k+1) m n i6 s7 c8 c9 c10 b11:=by
 intro n
 induction n with
 | zero=>intros;rfl
 | succ n ih=>intros;simp only[qgab,← qncc k m,← ih];kernel_rfl
theorem qjwd (k m:Nat)(s1:ByteArray)(c2 c3 c4:Cell)(b5:Bool):evC qmub qim (evF qmub (k+1)) m qim.code none (retK qmub qim) (enter qim [.agg [Cell.str s1,c2,c3,c4,Cell.bool b5]] [])=few (k+1) m s1 c2 c3 c4 b5:=by
 simp only[few,← qonc k m]
 kernel_rfl
theorem qwvb {s1:ByteArray}{c2 c3 c4:Cell}{b5:Bool}{r:Res}(k:Nat)(h:few (k+1) (k+1) s1 c2 c3 c4 b5=some r):qyf [.agg [Cell.str s1,c2,c3,c4,Cell.bool b5]] []=some r:=qap (k:=k+2) (Eq.trans (Eq.trans (by kernel_rfl) (qjwd k (k+1) s1 c2 c3 c4 b5)) h)
def qtpd:List (Nat×Run):=[(qowb,qyf)]
def qerc:Ctx:=ctx qbd qbe qtpd
def qmd:Run:=lim qerc qnrb
theorem ok_fep:FnOk Tryz.prog OkT qnrb qmd:=qan (l:=qtpd) qac tyTab_ok qad okT (.cons ok_few .nil) qnrb
def qdkb (k m:Nat):Nat→Cell→Int→Option Res | 0,_,_=>none | n+1,c2,i3=>(lenC c2).bind fun n4=>cond (decide (i3 < (n4:Int))) ((idxA 5 (c2) i3).bind fun c5=>(deref [] (c5)).bind fun p6=>(cS p6.1 p6.2).bind fun s7=>(cC p6.1 (p6.2+1)).bind fun c8=>(cC p6.1 ((p6.2+1)+1)).bind fun c9=>(cC p6.1 (((p6.2+1)+1)+1)).bind fun c10=>(cB p6.1 ((((p6.2+1)+1)+1)+1)).bind fun b11=>(qar qyf [.agg [Cell.str s7,c8,c9,c10,Cell.bool b11]] []).bind fun r12=>cond (qab qnwd r12) ((cB (qaa r12 0) 0).bind fun b13=>cond (!b13) (some ([.one (Cell.bool false)],[])) (cond (decide (i3 > 0)) ((idxA 5 (c2) (IntKind.i64.wrap (i3 - 1))).bind fun c14=>(fldA c14 0).bind fun c15=>(deref [] (c15)).bind fun p16=>(cS p16.1 p16.2).bind fun s17=>(idxA 5 (c2) i3).bind fun c18=>(fldA c18 0).bind fun c19=>(deref [] (c19)).bind fun p20=>(cS p20.1 p20.2).bind fun s21=>cond (!Op.bytesLess s17.toList s21.toList) (some ([.one (Cell.bool false)],[])) (qdkb k m n (c2) (IntKind.i64.wrap (i3+1)))) (qdkb k m n (c2) (IntKind.i64.wrap (i3+1))))) none) ((lenC c2).bind fun n22=>some ([.one (Cell.bool (decide ((n22:Int)≤5)))],[]))
def fep (k m:Nat)(c1:Cell):Option Res:=qdkb k m m (c1) 0
abbrev qhzd (k m:Nat):TB:=evC qerc qre (evF qerc (k+1)) m (sub [1,0,1,2,3] qre.code) none
abbrev qftd (k m:Nat):TK:=qav 0 (seqK (evC qerc qre (evF qerc (k+1)) m (sub [1,1] qre.code) none) (retK qerc qre))
theorem qjvc (k m:Nat):∀ (n:Nat) (c2:Cell) (i3:Int),qbo (some [0,3]) (qhzd k m) (qftd k m) n ⟨fT 37 0 [(0,.av (.one (c2))),(3,.av (.one (Cell.int i3)))],fX 37 0 [],[]⟩=qdkb (k+1) m n c2 i3:=by
 intro n
 induction n with
 | zero=>intros;rfl
 | succ n ih=>intros;simp only[qdkb,← ih];kernel_rfl
theorem qxpc (k m:Nat)(c1:Cell):evC qerc qre (evF qerc (k+1)) m qre.code none (retK qerc qre) (enter qre [.one (c1)] [])=fep (k+1) m c1:=by
 simp only[fep,← qjvc k m]
 kernel_rfl
theorem qvjb {c1:Cell}{r:Res}(k:Nat)(h:fep (k+1) (k+1) c1=some r):qmd [.one (c1)] []=some r:=qap (k:=k+2) (Eq.trans (Eq.trans (by kernel_rfl) (qxpc k (k+1) c1)) h)
def qwbd:List (Nat×Run):=[(qkp,qco),(qit,qcv)]
def qcte:Ctx:=ctx qbd qbe qwbd
def qiq:Run:=lim qcte que
theorem qlwd:FnOk Tryz.prog OkT que qiq:=qan (l:=qwbd) qac tyTab_ok qad okT (.cons qrub (.cons qhtb .nil)) que
def fek (k m:Nat)(s1:ByteArray):Option Res:=(callL qco [.one (Cell.str s1),.one (.sc (.int .u8 35))] []).bind fun r2=>cond (qab qly r2.1) ((cC (qaa r2.1 0) 0).bind fun c3=>(lenC c3).bind fun n4=>cond ((n4:Int) != 2) (some ([.one (Cell.str (bs [])),.one (Cell.str (bs [])),.one (Cell.bool false)],r2.2)) ((idxA 1 (c3) 0).bind fun c5=>(deref r2.2 (c5)).bind fun p6=>(cS p6.1 p6.2).bind fun s7=>(qar qcv [.one (Cell.str s7)] r2.2).bind fun r8=>cond (qab qjk r8) ((cB (qaa r8 0) 0).bind fun b9=>cond (!b9) (some ([.one (Cell.str (bs [])),.one (Cell.str (bs [])),.one (Cell.bool false)],r2.2)) ((idxA 1 (c3) 1).bind fun c10=>(deref r2.2 (c10)).bind fun p11=>(cS p11.1 p11.2).bind fun s12=>(qar qcv [.one (Cell.str s12)] r2.2).bind fun r13=>cond (qab qjk r13) ((cB (qaa r13 0) 0).bind fun b14=>cond (!b14) (some ([.one (Cell.str (bs [])),.one (Cell.str (bs [])),.one (Cell.bool false)],r2.2)) ((idxA 1 (c3) 0).bind fun c15=>(deref r2.2 (c15)).bind fun p16=>(cS p16.1 p16.2).bind fun s17=>(idxA 1 (c3) 1).bind fun c18=>(deref r2.2 (c18)).bind fun p19=>(cS p19.1 p19.2).bind fun s20=>some ([.one (Cell.str s17),.one (Cell.str s20),.one (Cell.bool true)],r2.2))) none)) none)) none
theorem quqc (k m:Nat)(s1:ByteArray):evC qcte qpwb (evF qcte (k+1)) m qpwb.code none (retK qcte qpwb) (enter qpwb [.one (Cell.str s1)] [])=fek (k+1) m s1:=by
 kernel_rfl
theorem qtyb {s1:ByteArray}{r:Res}(k:Nat)(h:fek (k+1) (k+1) s1=some r):qiq [.one (Cell.str s1)] []=some r:=qap (k:=k+2) (Eq.trans (Eq.trans (by kernel_rfl) (quqc k (k+1) s1)) h)
def qxed:List (Nat×Run):=[(qtl,qku)]
def qocc:Ctx:=ctx qbd qbe qxed
def qyz:Run:=lim qocc qmob
theorem ok_fex:FnOk Tryz.prog OkT qmob qyz:=qan (l:=qxed) qac tyTab_ok qad okT (.cons qaed .nil) qmob
def qadb (k m:Nat):Nat→Cell→ByteArray→Int→Int→Option Res | 0,_,_,_,_=>none | n+1,c6,s7,i8,i9=>cond (decide (i8≥0)) ((idxA 4 (c6) i8).bind fun c10=>(fldA c10 3).bind fun c11=>(deref [] (c11)).bind fun p12=>(cC p12.1 p12.2).bind fun c13=>(lenC c13).bind fun n14=>cond (decide (i9 < (n14:Int))) ((idxA 4 (c6) i8).bind fun c15=>(fldA c15 3).bind fun c16=>(deref [] (c16)).bind fun p17=>(cC p17.1 p17.2).bind fun c18=>(idxA 2 (c18) i9).bind fun c19=>(fldA c19 0).bind fun c20=>(deref [] (c20)).bind fun p21=>(cS p21.1 p21.2).bind fun s22=>cond (s22.toList==s7.toList) ((idxA 4 (c6) i8).bind fun c23=>(fldA c23 3).bind fun c24=>(deref [] (c24)).bind fun p25=>(cC p25.1 p25.2).bind fun c26=>(idxA 2 (c26) i9).bind fun c27=>(deref [] (c27)).bind fun p28=>(cS p28.1 p28.2).bind fun s29=>(cC p28.1 (p28.2+1)).bind fun c30=>some ([.agg [Cell.str s29,c30],.one (Cell.bool true)],[])) (qadb k m n (c6) s7 i8 (IntKind.i64.wrap (i9+1)))) (some ([.agg [Cell.str (bs []),.lst true 1 []],.one (Cell.bool false)],[]))) (some ([.agg [Cell.str (bs []),.lst true 1 []],.one (Cell.bool false)],[]))
def fex (k m:Nat)(c1:Cell)(s2 s3:ByteArray):Option Res:=(qar qku [.one (c1),.one (Cell.str s2)] []).bind fun r4=>cond (qab qcyc r4) ((cI .i64 (qaa r4 0) 0).bind fun i5=>qadb k m m (c1) s3 i5 0) none
abbrev qdzd (k m:Nat):TB:=evC qocc qnt (evF qocc (k+1)) m (sub [1,1,0,1,2,3] qnt.code) none
abbrev qifd (k m:Nat):TK:=qav 0 (seqK (evC qocc qnt (evF qocc (k+1)) m (sub [1,1,1] qnt.code) none) (retK qocc qnt))
theorem qfsc (k m:Nat):∀ (n:Nat) (c6:Cell) (s7:ByteArray) (i8 i9:Int),qbo (some [0,2,6,8,9]) (qdzd k m) (qifd k m) n ⟨fT 47 0 [(0,.av (.one (c6))),(2,.av (.one (Cell.str s7))),(6,.loc 6 0),(8,.av (.one (Cell.int i8))),(9,.av (.one (Cell.int i9)))],fX 47 0 [(6,[Cell.str (bs []),.lst true 1 []])],[]⟩=qadb (k+1) m n c6 s7 i8 i9:=by
 intro n
 induction n with
 | zero=>intros;rfl
 | succ n ih=>intros;simp only[qadb,← ih];kernel_rfl
theorem qfnd (k m:Nat)(c1:Cell)(s2 s3:ByteArray):evC qocc qnt (evF qocc (k+1)) m qnt.code none (retK qocc qnt) (enter qnt [.one (c1),.one (Cell.str s2),.one (Cell.str s3)] [])=fex (k+1) m c1 s2 s3:=by
 simp only[fex,← qfsc k m]
 kernel_rfl
theorem qceb {c1:Cell}{s2 s3:ByteArray}{r:Res}(k:Nat)(h:fex (k+1) (k+1) c1 s2 s3=some r):qyz [.one (c1),.one (Cell.str s2),.one (Cell.str s3)] []=some r:=qap (k:=k+2) (Eq.trans (Eq.trans (by kernel_rfl) (qfnd k (k+1) c1 s2 s3)) h)
end
end Go.Ev
