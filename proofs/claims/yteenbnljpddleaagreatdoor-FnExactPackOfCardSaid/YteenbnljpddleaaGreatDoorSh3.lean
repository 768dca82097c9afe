/- What the evaluator says of the functions, each as a Lean function over cells. Printed by a program of this claim. Conditions: none. -/
import Derived.Test.YteenbnljpddleaaGreatDoorSh2
import Derived.KernelRfl
namespace Go.Ev
open Go Go.Proofs
noncomputable section
set_option maxRecDepth 100000
set_option linter.unusedVariables false
set_option linter.unusedSimpArgs false
def qedd:List (Nat×Run):=[(qffb,qwj),(qgbb,quu),(qghb,qrf)]
def qumb:Ctx:=ctx qbh qbg qedd
def qoe:Run:=lim qumb qesb
theorem ok_fcy:FnOk Tryz.prog OkT qesb qoe:=qaq (l:=qedd) qac tyTab_ok qad okT (.cons ok_fdf (.cons ok_feg (.cons ok_fcz .nil))) qesb
def qabb (k m:Nat):Nat→Int→Int→Int→ByteArray→Cell→Cell→List Entry→Option Res | 0,_,_,_,_,_,_,_=>none | n+1,i8,i9,i10,s11,c12,c13,H14=>(lenC c12).bind fun n15=>cond (decide (i8 < (n15:Int))) ((idxA 1 (c13) i8).bind fun c16=>(deref H14 (c16)).bind fun p17=>(cS p17.1 p17.2).bind fun s18=>(idxA 5 (c12) i8).bind fun c19=>(deref H14 (c19)).bind fun p20=>(cI .i64 p20.1 p20.2).bind fun i21=>(cI .i64 p20.1 (p20.2+1)).bind fun i22=>(cS p20.1 ((p20.2+1)+1)).bind fun s23=>(cC p20.1 (((p20.2+1)+1)+1)).bind fun c24=>(cC p20.1 ((((p20.2+1)+1)+1)+1)).bind fun c25=>(quu [.one (.ptr 0 4 0 0 0),.one (Cell.str s18),.agg [Cell.int i21,Cell.int i22,Cell.str s23,c24,c25]] H14).bind fun r26=>cond (qab qaud r26.1) ((cB (qaa r26.1 0) 0).bind fun b27=>cond (!b27) (some ([.agg [Cell.str (bs []),.lst true 1 [],.lst true 2 [],.lst true 2 []],.one (Cell.bool false)],r26.2)) (qabb k m n (IntKind.i64.wrap (i8+1)) i9 i10 s11 (c12) (c13) r26.2)) none) ((deref H14 (.ptr 0 4 0 0 0)).bind fun p28=>(cS p28.1 p28.2).bind fun s29=>(cC p28.1 (p28.2+1)).bind fun c30=>(cC p28.1 ((p28.2+1)+1)).bind fun c31=>(cC p28.1 (((p28.2+1)+1)+1)).bind fun c32=>(qak qrf [.agg [Cell.str s29,c30,c31,c32]] H14).bind fun r33=>cond (qab qead r33) ((cB (qaa r33 0) 0).bind fun b34=>cond (!b34) (some ([.agg [Cell.str (bs []),.lst true 1 [],.lst true 2 [],.lst true 2 []],.one (Cell.bool false)],H14)) ((deref H14 (.ptr 0 4 0 0 0)).bind fun p35=>(cS p35.1 p35.2).bind fun s36=>(cC p35.1 (p35.2+1)).bind fun c37=>(cC p35.1 ((p35.2+1)+1)).bind fun c38=>(cC p35.1 (((p35.2+1)+1)+1)).bind fun c39=>some ([.agg [Cell.str s36,c37,c38,c39],.one (Cell.bool true)],H14))) none)
def fcy (k m:Nat)(i1 i2:Int)(s3:ByteArray)(c4 c5:Cell):Option Res:=(qak qwj [.agg [Cell.int i1,Cell.int i2,Cell.str s3,c4,c5]] [Entry.mk 4 [[Cell.str (bs []),.lst true 1 [],.lst true 2 [],.lst true 2 []]] 0 false]).bind fun r6=>cond (qab qvbc r6) ((cB (qaa r6 0) 0).bind fun b7=>cond (!b7) (some ([.agg [Cell.str (bs []),.lst true 1 [],.lst true 2 [],.lst true 2 []],.one (Cell.bool false)],[Entry.mk 4 [[Cell.str (bs []),.lst true 1 [],.lst true 2 [],.lst true 2 []]] 0 false])) (cond (i1 != 5) (some ([.agg [Cell.str (bs []),.lst true 1 [],.lst true 2 [],.lst true 2 []],.one (Cell.bool false)],[Entry.mk 4 [[Cell.str (bs []),.lst true 1 [],.lst true 2 [],.lst true 2 []]] 0 false])) (qabb k m m 0 i1 i2 s3 (c4) (c5) [Entry.mk 4 [[Cell.str (bs []),.lst true 1 [],.lst true 2 [],.lst true 2 []]] 0 false]))) none
abbrev qpqc (k m:Nat):TB:=evC qumb qnb (evF qumb (k+1)) m (sub [1,1,1,0,1,2,3] qnb.code) none
abbrev qinc (k m:Nat):TK:=qay 0 (seqK (evC qumb qnb (evF qumb (k+1)) m (sub [1,1,1,1] qnb.code) none) (retK qumb qnb))
theorem qwcb (k m:Nat):∀ (n:Nat) (i8 i9 i10:Int) (s11:ByteArray) (c12 c13:Cell) (H14:List Entry),qca (some [1,2,4,5]) (qpqc k m) (qinc k m) n ⟨fT 41 0 [(1,.loc 1 0),(2,.loc 2 0),(4,.av (.one (.ptr 0 4 0 0 0))),(5,.av (.one (Cell.int i8)))],fX 41 0 [(1,[Cell.int i9,Cell.int i10,Cell.str s11,c12,c13]),(2,[Cell.str (bs []),.lst true 1 [],.lst true 2 [],.lst true 2 []])],H14⟩=qabb (k+1) m n i8 i9 i10 s11 c12 c13 H14:=by
 intro n
 induction n with
 | zero=>intros;rfl
 | succ n ih=>intros;simp only[qabb,← ih];kernel_rfl
theorem qkbc (k m:Nat)(i1 i2:Int)(s3:ByteArray)(c4 c5:Cell):evC qumb qnb (evF qumb (k+1)) m qnb.code none (retK qumb qnb) (enter qnb [.agg [Cell.int i1,Cell.int i2,Cell.str s3,c4,c5]] [])=fcy (k+1) m i1 i2 s3 c4 c5:=by
 simp only[fcy,← qwcb k m]
 kernel_rfl
theorem qnp {i1 i2:Int}{s3:ByteArray}{c4 c5:Cell}{r:Res}(k:Nat)(h:fcy (k+1) (k+1) i1 i2 s3 c4 c5=some r):qoe [.agg [Cell.int i1,Cell.int i2,Cell.str s3,c4,c5]] []=some r:=qas (k:=k+2) (Eq.trans (Eq.trans (by kernel_rfl) (qkbc k (k+1) i1 i2 s3 c4 c5)) h)
def qvsc:List (Nat×Run):=[]
def qdnc:Ctx:=ctx qbh qbg qvsc
def qwr:Run:=lim qdnc qgeb
theorem ok_fcs:FnOk Tryz.prog OkT qgeb qwr:=qaq (l:=qvsc) qac tyTab_ok qad okT .nil qgeb
def qasb (k m:Nat):Nat→Cell→Cell→Int→List Entry→Option Res | 0,_,_,_,_=>none | n+1,c3,c4,i5,H6=>(lenC c3).bind fun n7=>cond (decide (i5 < (n7:Int))) ((idxA 1 (c3) i5).bind fun c8=>(deref H6 (c8)).bind fun p9=>(cS p9.1 p9.2).bind fun s10=>(idxA 1 (c4) i5).bind fun c11=>(qbm H6 (c11) [Cell.str s10]).bind fun h12=>qasb k m n (c3) (c4) (IntKind.i64.wrap (i5+1)) h12) (some ([.one (c4)],H6))
def fcs (k m:Nat)(c1:Cell):Option Res:=(lenC c1).bind fun n2=>if 0≤(n2:Int)∧(n2:Int)≤(n2:Int)∧(n2:Int)*16≤bound∧(n2:Int)≤bound then (qasb k m m (c1) ((.vs 0 1 0 (n2:Int).toNat 0)) 0 [Entry.mk 1 (qce (n2:Int).toNat [Cell.str (bs [])]) 0 false]) else none
abbrev qghc (k m:Nat):TB:=evC qdnc qlu (evF qdnc (k+1)) m (sub [1,1,0,1,2,3] qlu.code) none
abbrev qmxc (k m:Nat):TK:=qay 0 (seqK (evC qdnc qlu (evF qdnc (k+1)) m (sub [1,1,1] qlu.code) none) (retK qdnc qlu))
theorem qtmb (k m:Nat):∀ (n:Nat) (c3 c4:Cell) (i5:Int) (H6:List Entry),qca (some [0,3,4]) (qghc k m) (qmxc k m) n ⟨fT 22 0 [(0,.av (.one (c3))),(3,.av (.one (c4))),(4,.av (.one (Cell.int i5)))],fX 22 0 [],H6⟩=qasb (k+1) m n c3 c4 i5 H6:=by
 intro n
 induction n with
 | zero=>intros;rfl
 | succ n ih=>intros;simp only[qasb,← ih];kernel_rfl
theorem qknc (k m:Nat)(c1:Cell):evC qdnc qlu (evF qdnc (k+1)) m qlu.code none (retK qdnc qlu) (enter qlu [.one (c1)] [])=fcs (k+1) m c1:=by
 simp only[fcs,← qtmb k m]
 kernel_rfl
theorem qlrb {c1:Cell}{r:Res}(k:Nat)(h:fcs (k+1) (k+1) c1=some r):qwr [.one (c1)] []=some r:=qas (k:=k+2) (Eq.trans (Eq.trans (by kernel_rfl) (qknc k (k+1) c1)) h)
def qazd:List (Nat×Run):=[(qgeb,qwr)]
def qqh:Ctx:=ctx qbh qbg qazd
def qny:Run:=lim qqh qjy
theorem ok_fct:FnOk Tryz.prog OkT qjy qny:=qaq (l:=qazd) qac tyTab_ok qad okT (.cons ok_fcs .nil) qjy
def fct (k m:Nat)(i1 i2:Int)(s3:ByteArray)(c4 c5:Cell):Option Res:=(qek (evF qqh k qxc) [.one (c4)] []).bind fun r6=>cond (qab qygc r6.1) ((cC (qaa r6.1 0) 0).bind fun c7=>(qek qwr [.one (c5)] r6.2).bind fun r8=>cond (qab qyyc r8.1) ((cC (qaa r8.1 0) 0).bind fun c9=>some ([.agg [Cell.int i1,Cell.int i2,Cell.str s3,c7,c9]],r8.2)) none) none
theorem qlwc (k m:Nat)(i1 i2:Int)(s3:ByteArray)(c4 c5:Cell):evC qqh qkqb (evF qqh (k+1)) m qkqb.code none (retK qqh qkqb) (enter qkqb [.agg [Cell.int i1,Cell.int i2,Cell.str s3,c4,c5]] [])=fct (k+1) m i1 i2 s3 c4 c5:=by
 kernel_rfl
theorem fct_eq (k:Nat)(i1 i2:Int)(s3:ByteArray)(c4 c5:Cell):evF qqh (k+2) qjy [.agg [Cell.int i1,Cell.int i2,Cell.str s3,c4,c5]] []=fct (k+1) (k+1) i1 i2 s3 c4 c5:=
 Eq.trans (by kernel_rfl) (qlwc k (k+1) i1 i2 s3 c4 c5)
def qbpb (k m:Nat):Nat→Cell→Cell→Int→List Entry→Option Res | 0,_,_,_,_=>none | n+1,c3,c4,i5,H6=>(lenC c3).bind fun n7=>cond (decide (i5 < (n7:Int))) ((idxA 5 (c3) i5).bind fun c8=>(deref H6 (c8)).bind fun p9=>(cI .i64 p9.1 p9.2).bind fun i10=>(cI .i64 p9.1 (p9.2+1)).bind fun i11=>(cS p9.1 ((p9.2+1)+1)).bind fun s12=>(cC p9.1 (((p9.2+1)+1)+1)).bind fun c13=>(cC p9.1 ((((p9.2+1)+1)+1)+1)).bind fun c14=>(qek (evF qqh k qjy) [.agg [Cell.int i10,Cell.int i11,Cell.str s12,c13,c14]] H6).bind fun r15=>cond (qab qksb r15.1) ((cI .i64 (qaa r15.1 0) 0).bind fun i16=>(cI .i64 (qaa r15.1 0) 1).bind fun i17=>(cS (qaa r15.1 0) 2).bind fun s18=>(cC (qaa r15.1 0) 3).bind fun c19=>(cC (qaa r15.1 0) 4).bind fun c20=>(idxA 5 (c4) i5).bind fun c21=>(qbm r15.2 (c21) [Cell.int i16,Cell.int i17,Cell.str s18,c19,c20]).bind fun h22=>qbpb k m n (c3) (c4) (IntKind.i64.wrap (i5+1)) h22) none) (some ([.one (c4)],H6))
def fcu (k m:Nat)(c1:Cell):Option Res:=(lenC c1).bind fun n2=>if 0≤(n2:Int)∧(n2:Int)≤(n2:Int)∧(n2:Int)*80≤bound∧(n2:Int)≤bound then (qbpb k m m (c1) ((.vs 0 5 0 (n2:Int).toNat 0)) 0 [Entry.mk 5 (qce (n2:Int).toNat [Cell.int 0,Cell.int 0,Cell.str (bs []),.lst true 5 [],.lst true 1 []]) 0 false]) else none
abbrev qluc (k m:Nat):TB:=evC qqh qno (evF qqh (k+1)) m (sub [1,1,0,1,2,3] qno.code) none
abbrev qojc (k m:Nat):TK:=qay 0 (seqK (evC qqh qno (evF qqh (k+1)) m (sub [1,1,1] qno.code) none) (retK qqh qno))
theorem qzgb (k m:Nat):∀ (n:Nat) (c3 c4:Cell) (i5:Int) (H6:List Entry),qca (some [0,3,4]) (qluc k m) (qojc k m) n ⟨fT 23 0 [(0,.av (.one (c3))),(3,.av (.one (c4))),(4,.av (.one (Cell.int i5)))],fX 23 0 [],H6⟩=qbpb (k+1) m n c3 c4 i5 H6:=by
 intro n
 induction n with
 | zero=>intros;rfl
 | succ n ih=>intros;simp only[qbpb,← ih];kernel_rfl
theorem qjoc (k m:Nat)(c1:Cell):evC qqh qno (evF qqh (k+1)) m qno.code none (retK qqh qno) (enter qno [.one (c1)] [])=fcu (k+1) m c1:=by
 simp only[fcu,← qzgb k m]
 kernel_rfl
theorem fcu_eq (k:Nat)(c1:Cell):evF qqh (k+2) qxc [.one (c1)] []=fcu (k+1) (k+1) c1:=
 Eq.trans (by kernel_rfl) (qjoc k (k+1) c1)
def qefd:List (Nat×Run):=[]
def qesd:Ctx:=ctx qbh qbg qefd
def qib:Run:=lim qesd qro
theorem qpvc:FnOk Tryz.prog OkT qro qib:=qaq (l:=qefd) qac tyTab_ok qad okT .nil qro
def fak (k m:Nat)(i1 i2:Int)(s3:ByteArray)(c4 c5:Cell):Option Res:=cond (i1==5) ((lenC c4).bind fun n6=>(lenC c5).bind fun n7=>some ([.one (Cell.bool ((n6:Int)==(n7:Int)))],[])) (some ([.one (Cell.bool false)],[]))
theorem qhjc (k m:Nat)(i1 i2:Int)(s3:ByteArray)(c4 c5:Cell):evC qesd qibb (evF qesd (k+1)) m qibb.code none (retK qesd qibb) (enter qibb [.agg [Cell.int i1,Cell.int i2,Cell.str s3,c4,c5]] [])=fak (k+1) m i1 i2 s3 c4 c5:=by
 kernel_rfl
theorem qpyb {i1 i2:Int}{s3:ByteArray}{c4 c5:Cell}{r:Res}(k:Nat)(h:fak (k+1) (k+1) i1 i2 s3 c4 c5=some r):qib [.agg [Cell.int i1,Cell.int i2,Cell.str s3,c4,c5]] []=some r:=qas (k:=k+2) (Eq.trans (Eq.trans (by kernel_rfl) (qhjc k (k+1) i1 i2 s3 c4 c5)) h)
def qccd:List (Nat×Run):=[]
def qcbc:Ctx:=ctx qbh qbg qccd
def qjw:Run:=lim qcbc qwx
theorem qecd:FnOk Tryz.prog OkT qwx qjw:=qaq (l:=qccd) qac tyTab_ok qad okT .nil qwx
def qwi (k m:Nat):Nat→Cell→Int→Option Res | 0,_,_=>none | n+1,c2,i3=>(lenC c2).bind fun n4=>cond (decide (i3 < (n4:Int))) ((idxA 1 (c2) i3).bind fun c5=>(deref [] (c5)).bind fun p6=>(cS p6.1 p6.2).bind fun s7=>(idxA 1 (c2) (IntKind.i64.wrap (i3 - 1))).bind fun c8=>(deref [] (c8)).bind fun p9=>(cS p9.1 p9.2).bind fun s10=>cond (Op.bytesLess s7.toList s10.toList||s7.toList==s10.toList) (some ([.one (Cell.bool false)],[])) (qwi k m n (c2) (IntKind.i64.wrap (i3+1)))) (some ([.one (Cell.bool true)],[]))
def fav (k m:Nat)(c1:Cell):Option Res:=qwi k m m (c1) 1
abbrev qkrc (k m:Nat):TB:=evC qcbc qle (evF qcbc (k+1)) m (sub [1,0,1,2,3] qle.code) none
abbrev qhkc (k m:Nat):TK:=qay 0 (seqK (evC qcbc qle (evF qcbc (k+1)) m (sub [1,1] qle.code) none) (retK qcbc qle))
theorem qujb (k m:Nat):∀ (n:Nat) (c2:Cell) (i3:Int),qca (some [0,3]) (qkrc k m) (qhkc k m) n ⟨fT 20 0 [(0,.av (.one (c2))),(3,.av (.one (Cell.int i3)))],fX 20 0 [],[]⟩=qwi (k+1) m n c2 i3:=by
 intro n
 induction n with
 | zero=>intros;rfl
 | succ n ih=>intros;simp only[qwi,← ih];kernel_rfl
theorem qogc (k m:Nat)(c1:Cell):evC qcbc qle (evF qcbc (k+1)) m qle.code none (retK qcbc qle) (enter qle [.one (c1)] [])=fav (k+1) m c1:=by
 simp only[fav,← qujb k m]
 kernel_rfl
theorem qokb {c1:Cell}{r:Res}(k:Nat)(h:fav (k+1) (k+1) c1=some r):qjw [.one (c1)] []=some r:=qas (k:=k+2) (Eq.trans (Eq.trans (by kernel_rfl) (qogc k (k+1) c1)) h)
def qzzc:List (Nat×Run):=[]
def qfvd:Ctx:=ctx qbh qbg qzzc
def qdb:Run:=lim qfvd qje
theorem qiyb:FnOk Tryz.prog OkT qje qdb:=qaq (l:=qzzc) qac tyTab_ok qad okT .nil qje
def fau (k m:Nat)(i1 i2 i3:Int):Option Res:=cond (decide (i1≥i2)) (some ([.one (Cell.bool (decide (i1≤i3)))],[])) (some ([.one (Cell.bool false)],[]))
theorem qrkc (k m:Nat)(i1 i2 i3:Int):evC qfvd qkfb (evF qfvd (k+1)) m qkfb.code none (retK qfvd qkfb) (enter qkfb [.one (Cell.int i1),.one (Cell.int i2),.one (Cell.int i3)] [])=fau (k+1) m i1 i2 i3:=by
 kernel_rfl
theorem qsab {i1 i2 i3:Int}{r:Res}(k:Nat)(h:fau (k+1) (k+1) i1 i2 i3=some r):qdb [.one (Cell.int i1),.one (Cell.int i2),.one (Cell.int i3)] []=some r:=qas (k:=k+2) (Eq.trans (Eq.trans (by kernel_rfl) (qrkc k (k+1) i1 i2 i3)) h)
def qayd:List (Nat×Run):=[]
def qeud:Ctx:=ctx qbh qbg qayd
def qkd:Run:=lim qeud qtr
theorem qahd:FnOk Tryz.prog OkT qtr qkd:=qaq (l:=qayd) qac tyTab_ok qad okT .nil qtr
def faz (k m:Nat)(i1:Int):Option Res:=cond (decide (i1≥32)) (some ([.one (Cell.bool (decide (i1≤126)))],[])) (some ([.one (Cell.bool false)],[]))
theorem qsuc (k m:Nat)(i1:Int):evC qeud qizb (evF qeud (k+1)) m qizb.code none (retK qeud qizb) (enter qizb [.one (.sc (.int .u8 i1))] [])=faz (k+1) m i1:=by
 kernel_rfl
theorem qxg {i1:Int}{r:Res}(k:Nat)(h:faz (k+1) (k+1) i1=some r):qkd [.one (.sc (.int .u8 i1))] []=some r:=qas (k:=k+2) (Eq.trans (Eq.trans (by kernel_rfl) (qsuc k (k+1) i1)) h)
def qcmd:List (Nat×Run):=[(qtr,qkd)]
def qfbd:Ctx:=ctx qbh qbg qcmd
def qxv:Run:=lim qfbd qdkb
theorem ok_fbb:FnOk Tryz.prog OkT qdkb qxv:=qaq (l:=qcmd) qac tyTab_ok qad okT (.cons qahd .nil) qdkb
def fbb (k m:Nat)(i1:Int):Option Res:=(qak qkd [.one (.sc (.int .u8 i1))] []).bind fun r2=>cond (qab qktc r2) ((cB (qaa r2 0) 0).bind fun b3=>cond b3 (some ([.one (Cell.bool true)],[])) (cond (i1==10) (some ([.one (Cell.bool true)],[])) (some ([.one (Cell.bool (i1==9))],[])))) none
theorem qtdc (k m:Nat)(i1:Int):evC qfbd qkib (evF qfbd (k+1)) m qkib.code none (retK qfbd qkib) (enter qkib [.one (.sc (.int .u8 i1))] [])=fbb (k+1) m i1:=by
 kernel_rfl
theorem qnhb {i1:Int}{r:Res}(k:Nat)(h:fbb (k+1) (k+1) i1=some r):qxv [.one (.sc (.int .u8 i1))] []=some r:=qas (k:=k+2) (Eq.trans (Eq.trans (by kernel_rfl) (qtdc k (k+1) i1)) h)
def qbld:List (Nat×Run):=[(qdkb,qxv)]
def qdsc:Ctx:=ctx qbh qbg qbld
def qmb:Run:=lim qdsc qve
theorem qbfd:FnOk Tryz.prog OkT qve qmb:=qaq (l:=qbld) qac tyTab_ok qad okT (.cons ok_fbb .nil) qve
def qbwb (k m:Nat):Nat→ByteArray→Int→Option Res | 0,_,_=>none | n+1,s2,i3=>cond (decide (i3 < (s2.size:Int))) ((bytS s2 i3).bind fun i4=>(qak qxv [.one (.sc (.int .u8 i4))] []).bind fun r5=>cond (qab qxhc r5) ((cB (qaa r5 0) 0).bind fun b6=>cond (!b6) (some ([.one (Cell.bool false)],[])) (qbwb k m n s2 (IntKind.i64.wrap (i3+1)))) none) (some ([.one (Cell.bool (decide ((s2.size:Int)≤60)))],[]))
def fbl (k m:Nat)(s1:ByteArray):Option Res:=qbwb k m m s1 0
abbrev qnnc (k m:Nat):TB:=evC qdsc qps (evF qdsc (k+1)) m (sub [1,0,1,2,3] qps.code) none
abbrev qmdc (k m:Nat):TK:=qay 0 (seqK (evC qdsc qps (evF qdsc (k+1)) m (sub [1,1] qps.code) none) (retK qdsc qps))
theorem qcdc (k m:Nat):∀ (n:Nat) (s2:ByteArray) (i3:Int),qca (some [0,3]) (qnnc k m) (qmdc k m) n ⟨fT 18 0 [(0,.av (.one (Cell.str s2))),(3,.av (.one (Cell.int i3)))],fX 18 0 [],[]⟩=qbwb (k+1) m n s2 i3:=by
 intro n
 induction n with
 | zero=>intros;rfl
 | succ n ih=>intros;simp only[qbwb,← ih];kernel_rfl
theorem qqvc (k m:Nat)(s1:ByteArray):evC qdsc qps (evF qdsc (k+1)) m qps.code none (retK qdsc qps) (enter qps [.one (Cell.str s1)] [])=fbl (k+1) m s1:=by
 simp only[fbl,← qcdc k m]
 kernel_rfl
theorem qrrb {s1:ByteArray}{r:Res}(k:Nat)(h:fbl (k+1) (k+1) s1=some r):qmb [.one (Cell.str s1)] []=some r:=qas (k:=k+2) (Eq.trans (Eq.trans (by kernel_rfl) (qqvc k (k+1) s1)) h)
def qbyd:List (Nat×Run):=[(qve,qmb)]
def qeqd:Ctx:=ctx qbh qbg qbyd
def qnh:Run:=lim qeqd qdp
theorem qllc:FnOk Tryz.prog OkT qdp qnh:=qaq (l:=qbyd) qac tyTab_ok qad okT (.cons qbfd .nil) qdp
def fay (k m:Nat)(s1:ByteArray):Option Res:=(qak qmb [.one (Cell.str s1)] []).bind fun r2=>cond (qab qkec r2) ((cB (qaa r2 0) 0).bind fun b3=>some ([.one (Cell.bool (!b3))],[])) none
theorem qhzc (k m:Nat)(s1:ByteArray):evC qeqd qkub (evF qeqd (k+1)) m qkub.code none (retK qeqd qkub) (enter qkub [.one (Cell.str s1)] [])=fay (k+1) m s1:=by
 kernel_rfl
theorem qpdb {s1:ByteArray}{r:Res}(k:Nat)(h:fay (k+1) (k+1) s1=some r):qnh [.one (Cell.str s1)] []=some r:=qas (k:=k+2) (Eq.trans (Eq.trans (by kernel_rfl) (qhzc k (k+1) s1)) h)
def qusc:List (Nat×Run):=[(qdp,qnh)]
def qagc:Ctx:=ctx qbh qbg qusc
def qyw:Run:=lim qagc qcmb
theorem ok_fcw:FnOk Tryz.prog OkT qcmb qyw:=qaq (l:=qusc) qac tyTab_ok qad okT (.cons qllc .nil) qcmb
def qat (k m:Nat):Nat→Cell→Int→Int→List Entry→Option Res | 0,_,_,_,_=>none | n+1,c3,i4,i5,H6=>cond (decide (i5 < i4)) ((idxA 1 (c3) i5).bind fun c7=>(deref H6 (c7)).bind fun p8=>(cS p8.1 p8.2).bind fun s9=>(qak qnh [.one (Cell.str s9)] H6).bind fun r10=>cond (qab qvwc r10) ((cB (qaa r10 0) 0).bind fun b11=>cond b11 (some ([.one (Cell.int i5)],H6)) (qat k m n (c3) i4 (IntKind.i64.wrap (i5+1)) H6)) none) (some ([.one (Cell.int (-1))],H6))
def qbj (k m:Nat)(c1:Cell)(H:List Entry):Option Res:=(lenC c1).bind fun n2=>qat k m m (c1) (n2:Int) 0 H
abbrev qdg (k m:Nat):TB:=evC qagc qou (evF qagc (k+1)) m (sub [1,0,1,2,3] qou.code) none
abbrev qdd (k m:Nat):TK:=qay 0 (seqK (evC qagc qou (evF qagc (k+1)) m (sub [1,1] qou.code) none) (retK qagc qou))
theorem qda (k m:Nat):∀ (n:Nat) (c3:Cell) (i4 i5:Int) (H6:List Entry),qca (some [0,1,7,8]) (qdg k m) (qdd k m) n ⟨fT 19 0 [(0,.av (.one (c3))),(1,.av (.one (.fn qdp [] []))),(7,.av (.one (Cell.int i4))),(8,.av (.one (Cell.int i5)))],fX 19 0 [],H6⟩=qat (k+1) m n c3 i4 i5 H6:=by
 intro n
 induction n with
 | zero=>intros;rfl
 | succ n ih=>intros;simp only[qat,← ih];kernel_rfl
theorem qdh (k m:Nat)(c1:Cell)(H:List Entry):evC qagc qou (evF qagc (k+1)) m qou.code none (retK qagc qou) (enter qou [.one (c1),.one (.fn qdp [] [])] H)=qbj (k+1) m c1 H:=by
 simp only[qbj,← qda k m]
 kernel_rfl
theorem qcz {c1:Cell}{H:List Entry}{r:Res}(k:Nat)(h:qbj (k+1) (k+1) c1 H=some r):qyw [.one (c1),.one (.fn qdp [] [])] H=some r:=qas (k:=k+2) (Eq.trans (Eq.trans (by kernel_rfl) (qdh k (k+1) c1 H)) h)
def qcxd:List (Nat×Run):=[(qdp,qnh),(qcmb,qyw)]
def qexd:Ctx:=ctx qbh qbg qcxd
def qrb:Run:=lim qexd qdlb
theorem ok_fcv:FnOk Tryz.prog OkT qdlb qrb:=qaq (l:=qcxd) qac tyTab_ok qad okT (.cons qllc (.cons ok_fcw .nil)) qdlb
def qbr (k m:Nat)(c1:Cell)(H:List Entry):Option Res:=(qyw [.one (c1),.one (.fn qdp [] [])] H).bind fun r2=>cond (qab qxsc r2.1) ((cI .i64 (qaa r2.1 0) 0).bind fun i3=>some ([.one (Cell.bool (decide (i3≥0)))],r2.2)) none
theorem qcp (k m:Nat)(c1:Cell)(H:List Entry):evC qexd qhqb (evF qexd (k+1)) m qhqb.code none (retK qexd qhqb) (enter qhqb [.one (c1),.one (.fn qdp [] [])] H)=qbr (k+1) m c1 H:=by
 kernel_rfl
theorem qcj {c1:Cell}{H:List Entry}{r:Res}(k:Nat)(h:qbr (k+1) (k+1) c1 H=some r):qrb [.one (c1),.one (.fn qdp [] [])] H=some r:=qas (k:=k+2) (Eq.trans (Eq.trans (by kernel_rfl) (qcp k (k+1) c1 H)) h)
def qbtd:List (Nat×Run):=[(qwx,qjw),(qje,qdb),(qve,qmb),(qdlb,qrb),(qdp,qnh)]
def qevd:Ctx:=ctx qbh qbg qbtd
def qul:Run:=lim qevd qgtb
theorem ok_fam:FnOk Tryz.prog OkT qgtb qul:=qaq (l:=qbtd) qac tyTab_ok qad okT (.cons qecd (.cons qiyb (.cons qbfd (.cons ok_fcv (.cons qllc .nil))))) qgtb
def fam (k m:Nat)(i1 i2:Int)(s3:ByteArray)(c4 c5:Cell):Option Res:=(lenC c4).bind fun n6=>cond ((n6:Int)==0) ((lenC c5).bind fun n7=>cond (i1==0) (cond ((n7:Int)==0) (cond (i2==0) (some ([.one (Cell.bool (s3.toList==(bs []).toList))],[])) (some ([.one (Cell.bool false)],[]))) (some ([.one (Cell.bool false)],[]))) (cond (i1==1) (cond ((n7:Int)==0) ((qak qdb [.one (Cell.int i2),.one (Cell.int 0),.one (Cell.int 1)] []).bind fun r8=>cond (qab qqg r8) ((cB (qaa r8 0) 0).bind fun b9=>cond b9 (some ([.one (Cell.bool (s3.toList==(bs []).toList))],[])) (some ([.one (Cell.bool false)],[]))) none) (some ([.one (Cell.bool false)],[]))) (cond (i1==2) (cond ((n7:Int)==0) ((qak qdb [.one (Cell.int i2),.one (Cell.int (-999999)),.one (Cell.int 999999)] []).bind fun r10=>cond (qab qqg r10) ((cB (qaa r10 0) 0).bind fun b11=>cond b11 (some ([.one (Cell.bool (s3.toList==(bs []).toList))],[])) (some ([.one (Cell.bool false)],[]))) none) (some ([.one (Cell.bool false)],[]))) (cond (i1==3) (cond ((n7:Int)==0) (cond (i2==0) ((qak qmb [.one (Cell.str s3)] []).bind fun r12=>cond (qab qkec r12) ((cB (qaa r12 0) 0).bind fun b13=>some ([.one (Cell.bool b13)],[])) none) (some ([.one (Cell.bool false)],[]))) (some ([.one (Cell.bool false)],[]))) (cond (i1==4) (cond (i2==0) (cond (s3.toList==(bs []).toList) ((lenC c5).bind fun n14=>some ([.one (Cell.bool ((n14:Int)==0))],[])) (some ([.one (Cell.bool false)],[]))) (some ([.one (Cell.bool false)],[]))) (cond (i1==5) (cond (i2==0) (cond (s3.toList==(bs []).toList) ((lenC c5).bind fun n15=>(lenC c4).bind fun n16=>cond ((n15:Int)==(n16:Int)) ((qak qjw [.one (c5)] []).bind fun r17=>cond (qab qbnc r17) ((cB (qaa r17 0) 0).bind fun b18=>cond b18 ((qrb [.one (c5),.one (.fn qdp [] [])] []).bind fun r19=>cond (qab qohc r19.1) ((cB (qaa r19.1 0) 0).bind fun b20=>some ([.one (Cell.bool (!b20))],r19.2)) none) (some ([.one (Cell.bool false)],[]))) none) (some ([.one (Cell.bool false)],[]))) (some ([.one (Cell.bool false)],[]))) (some ([.one (Cell.bool false)],[]))) (some ([.one (Cell.bool false)],[])))))))) (cond (i1==0) (some ([.one (Cell.bool false)],[])) (cond (i1==1) (some ([.one (Cell.bool false)],[])) (cond (i1==2) (some ([.one (Cell.bool false)],[])) (cond (i1==3) (some ([.one (Cell.bool false)],[])) (cond (i1==4) (cond (i2==0) (cond (s3.toList==(bs []).toList) ((lenC c5).bind fun n21=>some ([.one (Cell.bool ((n21:Int)==0))],[])) (some ([.one (Cell.bool false)],[]))) (some ([.one (Cell.bool false)],[]))) (cond (i1==5) (cond (i2==0) (cond (s3.toList==(bs []).toList) ((lenC c5).bind fun n22=>(lenC c4).bind fun n23=>cond ((n22:Int)==(n23:Int)) ((qak qjw [.one (c5)] []).bind fun r24=>cond (qab qbnc r24) ((cB (qaa r24 0) 0).bind fun b25=>cond b25 ((qrb [.one (c5),.one (.fn qdp [] [])] []).bind fun r26=>cond (qab qohc r26.1) ((cB (qaa r26.1 0) 0).bind fun b27=>some ([.one (Cell.bool (!b27))],r26.2)) none) (some ([.one (Cell.bool false)],[]))) none) (some ([.one (Cell.bool false)],[]))) (some ([.one (Cell.bool false)],[]))) (some ([.one (Cell.bool false)],[]))) (some ([.one (Cell.bool false)],[]))))))))
theorem qjwc (k m:Nat)(i1 i2:Int)(s3:ByteArray)(c4 c5:Cell):evC qevd qjeb (evF qevd (k+1)) m qjeb.code none (retK qevd qjeb) (enter qjeb [.agg [Cell.int i1,Cell.int i2,Cell.str s3,c4,c5]] [])=fam (k+1) m i1 i2 s3 c4 c5:=by
 kernel_rfl
theorem qmlb {i1 i2:Int}{s3:ByteArray}{c4 c5:Cell}{r:Res}(k:Nat)(h:fam (k+1) (k+1) i1 i2 s3 c4 c5=some r):qul [.agg [Cell.int i1,Cell.int i2,Cell.str s3,c4,c5]] []=some r:=qas (k:=k+2) (Eq.trans (Eq.trans (by kernel_rfl) (qjwc k (k+1) i1 i2 s3 c4 c5)) h)
def qync:List (Nat×Run):=[(qgtb,qul)]
def qjnb:Ctx:=ctx qbh qbg qync
def qgqb:Run:=lim qjnb qkb
theorem ok_fal:FnOk Tryz.prog OkT qkb qgqb:=qaq (l:=qync) qac tyTab_ok qad okT (.cons ok_fam .nil) qkb
def qzm (k m:Nat):Nat→Int→Int→Cell→Int→Int→Option Res | 0,_,_,_,_,_=>none | n+1,i10,i11,c12,i13,i14=>cond (decide (i14 < i13)) ((idxA 5 (c12) i14).bind fun c15=>(deref [] (c15)).bind fun p16=>(cI .i64 p16.1 p16.2).bind fun i17=>(cI .i64 p16.1 (p16.2+1)).bind fun i18=>(cS p16.1 ((p16.2+1)+1)).bind fun s19=>(cC p16.1 (((p16.2+1)+1)+1)).bind fun c20=>(cC p16.1 ((((p16.2+1)+1)+1)+1)).bind fun c21=>(qak (evF qjnb k qkb) [.agg [Cell.int i17,Cell.int i18,Cell.str s19,c20,c21],.one (Cell.int (IntKind.i64.wrap (i10+1)))] []).bind fun r22=>cond (qab qsrc r22) ((cI .i64 (qaa r22 0) 0).bind fun i23=>cond (decide ((IntKind.i64.wrap (i11+i23)) > 80)) (some ([.one (Cell.int 81)],[])) (qzm k m n i10 (IntKind.i64.wrap (i11+i23)) (c12) i13 (IntKind.i64.wrap (i14+1)))) none) (some ([.one (Cell.int i11)],[]))
def fal (k m:Nat)(i1 i2:Int)(s3:ByteArray)(c4 c5:Cell)(i6:Int):Option Res:=cond (decide (i6 > 6)) (some ([.one (Cell.int 81)],[])) ((qak qul [.agg [Cell.int i1,Cell.int i2,Cell.str s3,c4,c5]] []).bind fun r7=>cond (qab qwyc r7) ((cB (qaa r7 0) 0).bind fun b8=>cond (!b8) (some ([.one (Cell.int 81)],[])) ((lenC c4).bind fun n9=>qzm k m m i6 1 (c4) (n9:Int) 0)) none)
abbrev qhcc (k m:Nat):TB:=evC qjnb qnx (evF qjnb (k+1)) m (sub [1,1,1,0,1,2,3] qnx.code) none
abbrev qgpc (k m:Nat):TK:=qay 0 (seqK (evC qjnb qnx (evF qjnb (k+1)) m (sub [1,1,1,1] qnx.code) none) (retK qjnb qnx))
theorem qtrb (k m:Nat):∀ (n:Nat) (i10 i11:Int) (c12:Cell) (i13 i14:Int),qca (some [1,5,16,17,18]) (qhcc k m) (qgpc k m) n ⟨fT 32 0 [(1,.av (.one (Cell.int i10))),(5,.av (.one (Cell.int i11))),(16,.av (.one (c12))),(17,.av (.one (Cell.int i13))),(18,.av (.one (Cell.int i14)))],fX 32 0 [],[]⟩=qzm (k+1) m n i10 i11 c12 i13 i14:=by
 intro n
 induction n with
 | zero=>intros;rfl
 | succ n ih=>intros;simp only[qzm,← ih];kernel_rfl
theorem qoxc (k m:Nat)(i1 i2:Int)(s3:ByteArray)(c4 c5:Cell)(i6:Int):evC qjnb qnx (evF qjnb (k+1)) m qnx.code none (retK qjnb qnx) (enter qnx [.agg [Cell.int i1,Cell.int i2,Cell.str s3,c4,c5],.one (Cell.int i6)] [])=fal (k+1) m i1 i2 s3 c4 c5 i6:=by
 simp only[fal,← qtrb k m]
 kernel_rfl
theorem fal_eq (k:Nat)(i1 i2:Int)(s3:ByteArray)(c4 c5:Cell)(i6:Int):evF qjnb (k+2) qkb [.agg [Cell.int i1,Cell.int i2,Cell.str s3,c4,c5],.one (Cell.int i6)] []=fal (k+1) (k+1) i1 i2 s3 c4 c5 i6:=
 Eq.trans (by kernel_rfl) (qoxc k (k+1) i1 i2 s3 c4 c5 i6)
def qbwd:List (Nat×Run):=[(qkb,qgqb)]
def qffd:Ctx:=ctx qbh qbg qbwd
def qun:Run:=lim qffd qfeb
theorem ok_faj:FnOk Tryz.prog OkT qfeb qun:=qaq (l:=qbwd) qac tyTab_ok qad okT (.cons ok_fal .nil) qfeb
def faj (k m:Nat)(i1 i2:Int)(s3:ByteArray)(c4 c5:Cell):Option Res:=(qak qgqb [.agg [Cell.int i1,Cell.int i2,Cell.str s3,c4,c5],.one (Cell.int 1)] []).bind fun r6=>cond (qab qsrc r6) ((cI .i64 (qaa r6 0) 0).bind fun i7=>some ([.one (Cell.bool (decide (i7≤80)))],[])) none
theorem qndc (k m:Nat)(i1 i2:Int)(s3:ByteArray)(c4 c5:Cell):evC qffd qhyb (evF qffd (k+1)) m qhyb.code none (retK qffd qhyb) (enter qhyb [.agg [Cell.int i1,Cell.int i2,Cell.str s3,c4,c5]] [])=faj (k+1) m i1 i2 s3 c4 c5:=by
 kernel_rfl
theorem qohb {i1 i2:Int}{s3:ByteArray}{c4 c5:Cell}{r:Res}(k:Nat)(h:faj (k+1) (k+1) i1 i2 s3 c4 c5=some r):qun [.agg [Cell.int i1,Cell.int i2,Cell.str s3,c4,c5]] []=some r:=qas (k:=k+2) (Eq.trans (Eq.trans (by kernel_rfl) (qndc k (k+1) i1 i2 s3 c4 c5)) h)
def quvc:List (Nat×Run):=[(qro,qib)]
def qsqb:Ctx:=ctx qbh qbg quvc
def qup:Run:=lim qsqb qebb
theorem ok_fbf:FnOk Tryz.prog OkT qebb qup:=qaq (l:=quvc) qac tyTab_ok qad okT (.cons qpvc .nil) qebb
def qbrb (k m:Nat):Nat→Cell→Cell→Int→Int→Int→Int→ByteArray→Cell→Cell→List Entry→Option Res | 0,_,_,_,_,_,_,_,_,_,_=>none | n+1,c9,c10,i11,i12,i13,i14,s15,c16,c17,H18=>cond (decide (i12 < i11)) ((idxA 1 (c10) i12).bind fun c19=>(deref H18 (c19)).bind fun p20=>(cS p20.1 p20.2).bind fun s21=>(idxA 5 (c16) i12).bind fun c22=>(fldA c22 0).bind fun c23=>(deref H18 (c23)).bind fun p24=>(cI .i64 p24.1 p24.2).bind fun i25=>cond (i25 != 3) (some ([.one (.lst true 2 []),.one (Cell.bool false)],H18)) ((idxA 5 (c16) i12).bind fun c26=>(fldA c26 2).bind fun c27=>(deref H18 (c27)).bind fun p28=>(cS p28.1 p28.2).bind fun s29=>(app H18 2 32 (c9) [[Cell.str s21,Cell.str s29]]).bind fun p30=>qbrb k m n (p30.1) (c10) i11 (IntKind.i64.wrap (i12+1)) i13 i14 s15 (c16) (c17) p30.2)) (some ([.one (c9),.one (Cell.bool true)],H18))
def fbf (k m:Nat)(i1 i2:Int)(s3:ByteArray)(c4 c5:Cell):Option Res:=(qak qib [.agg [Cell.int i1,Cell.int i2,Cell.str s3,c4,c5]] []).bind fun r6=>cond (qab qwvb r6) ((cB (qaa r6 0) 0).bind fun b7=>cond (!b7) (some ([.one (.lst true 2 []),.one (Cell.bool false)],[])) ((lenC c5).bind fun n8=>qbrb k m m (.lst true 2 []) (c5) (n8:Int) 0 i1 i2 s3 (c4) (c5) [])) none
abbrev qlkc (k m:Nat):TB:=evC qsqb qly (evF qsqb (k+1)) m (sub [1,1,1,0,1,2,3] qly.code) none
abbrev qklc (k m:Nat):TK:=qay 0 (seqK (evC qsqb qly (evF qsqb (k+1)) m (sub [1,1,1,1] qly.code) none) (retK qsqb qly))
theorem qctc (k m:Nat):∀ (n:Nat) (c9 c10:Cell) (i11 i12 i13 i14:Int) (s15:ByteArray) (c16 c17:Cell) (H18:List Entry),qca (some [1,4,11,12,13]) (qlkc k m) (qklc k m) n ⟨fT 38 0 [(1,.loc 1 0),(4,.av (.one (c9))),(11,.av (.one (c10))),(12,.av (.one (Cell.int i11))),(13,.av (.one (Cell.int i12)))],fX 38 0 [(1,[Cell.int i13,Cell.int i14,Cell.str s15,c16,c17])],H18⟩=qbrb (k+1) m n c9 c10 i11 i12 i13 i14 s15 c16 c17 H18:=by
 intro n
 induction n with
 | zero=>intros;rfl
 | succ n ih=>intros;simp only[qbrb,← ih];kernel_rfl
theorem qqqc (k m:Nat)(i1 i2:Int)(s3:ByteArray)(c4 c5:Cell):evC qsqb qly (evF qsqb (k+1)) m qly.code none (retK qsqb qly) (enter qly [.agg [Cell.int i1,Cell.int i2,Cell.str s3,c4,c5]] [])=fbf (k+1) m i1 i2 s3 c4 c5:=by
 simp only[fbf,← qctc k m]
 kernel_rfl
theorem qyz {i1 i2:Int}{s3:ByteArray}{c4 c5:Cell}{r:Res}(k:Nat)(h:fbf (k+1) (k+1) i1 i2 s3 c4 c5=some r):qup [.agg [Cell.int i1,Cell.int i2,Cell.str s3,c4,c5]] []=some r:=qas (k:=k+2) (Eq.trans (Eq.trans (by kernel_rfl) (qqqc k (k+1) i1 i2 s3 c4 c5)) h)
def qxqc:List (Nat×Run):=[]
def qtub:Ctx:=ctx qbh qbg qxqc
def qmg:Run:=lim qtub qvl
theorem qxjc:FnOk Tryz.prog OkT qvl qmg:=qaq (l:=qxqc) qac tyTab_ok qad okT .nil qvl
def qaab (k m:Nat):Nat→Cell→Cell→Int→Int→Int→Int→ByteArray→Cell→Cell→List Entry→Option Res | 0,_,_,_,_,_,_,_,_,_,_=>none | n+1,c7,c8,i9,i10,i11,i12,s13,c14,c15,H16=>cond (decide (i10 < i9)) ((idxA 5 (c8) i10).bind fun c17=>(deref H16 (c17)).bind fun p18=>(cI .i64 p18.1 p18.2).bind fun i19=>(cI .i64 p18.1 (p18.2+1)).bind fun i20=>(cS p18.1 ((p18.2+1)+1)).bind fun s21=>(cC p18.1 (((p18.2+1)+1)+1)).bind fun c22=>(cC p18.1 ((((p18.2+1)+1)+1)+1)).bind fun c23=>cond (i19 != 3) (some ([.one (.lst true 1 []),.one (Cell.bool false)],H16)) ((app H16 1 16 (c7) [[Cell.str s21]]).bind fun p24=>qaab k m n (p24.1) (c8) i9 (IntKind.i64.wrap (i10+1)) i11 i12 s13 (c14) (c15) p24.2)) (some ([.one (c7),.one (Cell.bool (i11==4))],H16))
def fbk (k m:Nat)(i1 i2:Int)(s3:ByteArray)(c4 c5:Cell):Option Res:=(lenC c4).bind fun n6=>qaab k m m (.lst true 1 []) (c4) (n6:Int) 0 i1 i2 s3 (c4) (c5) []
abbrev qgrc (k m:Nat):TB:=evC qtub qod (evF qtub (k+1)) m (sub [1,1,0,1,2,3] qod.code) none
abbrev qolc (k m:Nat):TK:=qay 0 (seqK (evC qtub qod (evF qtub (k+1)) m (sub [1,1,1] qod.code) none) (retK qtub qod))
theorem qykb (k m:Nat):∀ (n:Nat) (c7 c8:Cell) (i9 i10 i11 i12:Int) (s13:ByteArray) (c14 c15:Cell) (H16:List Entry),qca (some [1,4,8,9,10]) (qgrc k m) (qolc k m) n ⟨fT 27 0 [(1,.loc 1 0),(4,.av (.one (c7))),(8,.av (.one (c8))),(9,.av (.one (Cell.int i9))),(10,.av (.one (Cell.int i10)))],fX 27 0 [(1,[Cell.int i11,Cell.int i12,Cell.str s13,c14,c15])],H16⟩=qaab (k+1) m n c7 c8 i9 i10 i11 i12 s13 c14 c15 H16:=by
 intro n
 induction n with
 | zero=>intros;rfl
 | succ n ih=>intros;simp only[qaab,← ih];kernel_rfl
theorem qilc (k m:Nat)(i1 i2:Int)(s3:ByteArray)(c4 c5:Cell):evC qtub qod (evF qtub (k+1)) m qod.code none (retK qtub qod) (enter qod [.agg [Cell.int i1,Cell.int i2,Cell.str s3,c4,c5]] [])=fbk (k+1) m i1 i2 s3 c4 c5:=by
 simp only[fbk,← qykb k m]
 kernel_rfl
theorem qobb {i1 i2:Int}{s3:ByteArray}{c4 c5:Cell}{r:Res}(k:Nat)(h:fbk (k+1) (k+1) i1 i2 s3 c4 c5=some r):qmg [.agg [Cell.int i1,Cell.int i2,Cell.str s3,c4,c5]] []=some r:=qas (k:=k+2) (Eq.trans (Eq.trans (by kernel_rfl) (qilc k (k+1) i1 i2 s3 c4 c5)) h)
def qvnc:List (Nat×Run):=[(qro,qib),(qvl,qmg)]
def qahc:Ctx:=ctx qbh qbg qvnc
def qxf:Run:=lim qahc qdub
theorem ok_fas:FnOk Tryz.prog OkT qdub qxf:=qaq (l:=qvnc) qac tyTab_ok qad okT (.cons qpvc (.cons qxjc .nil)) qdub
def qaob (k m:Nat):Nat→Cell→Cell→Int→Int→Int→Int→ByteArray→Cell→Cell→List Entry→Option Res | 0,_,_,_,_,_,_,_,_,_,_=>none | n+1,c9,c10,i11,i12,i13,i14,s15,c16,c17,H18=>cond (decide (i12 < i11)) ((idxA 1 (c10) i12).bind fun c19=>(deref H18 (c19)).bind fun p20=>(cS p20.1 p20.2).bind fun s21=>(idxA 5 (c16) i12).bind fun c22=>(deref H18 (c22)).bind fun p23=>(cI .i64 p23.1 p23.2).bind fun i24=>(cI .i64 p23.1 (p23.2+1)).bind fun i25=>(cS p23.1 ((p23.2+1)+1)).bind fun s26=>(cC p23.1 (((p23.2+1)+1)+1)).bind fun c27=>(cC p23.1 ((((p23.2+1)+1)+1)+1)).bind fun c28=>(qek qmg [.agg [Cell.int i24,Cell.int i25,Cell.str s26,c27,c28]] H18).bind fun r29=>cond (qab qlbc r29.1) ((cC (qaa r29.1 0) 0).bind fun c30=>(cB (qaa r29.1 1) 0).bind fun b31=>cond (!b31) (some ([.one (.lst true 2 []),.one (Cell.bool false)],r29.2)) ((qcy (r29.2++[Entry.mk 2 [[Cell.str s21,c30]] 0 false]) 2 (.vs r29.2.length 2 0 1 0)).bind fun r32=>(app (r29.2++[Entry.mk 2 [[Cell.str s21,c30]] 0 false]) 2 40 (c9) r32).bind fun p33=>qaob k m n (p33.1) (c10) i11 (IntKind.i64.wrap (i12+1)) i13 i14 s15 (c16) (c17) p33.2)) none) (some ([.one (c9),.one (Cell.bool true)],H18))
def fas (k m:Nat)(i1 i2:Int)(s3:ByteArray)(c4 c5:Cell):Option Res:=(qak qib [.agg [Cell.int i1,Cell.int i2,Cell.str s3,c4,c5]] []).bind fun r6=>cond (qab qwvb r6) ((cB (qaa r6 0) 0).bind fun b7=>cond (!b7) (some ([.one (.lst true 2 []),.one (Cell.bool false)],[])) ((lenC c5).bind fun n8=>qaob k m m (.lst true 2 []) (c5) (n8:Int) 0 i1 i2 s3 (c4) (c5) [])) none
abbrev qrec (k m:Nat):TB:=evC qahc qnt (evF qahc (k+1)) m (sub [1,1,1,0,1,2,3] qnt.code) none
abbrev qftc (k m:Nat):TK:=qay 0 (seqK (evC qahc qnt (evF qahc (k+1)) m (sub [1,1,1,1] qnt.code) none) (retK qahc qnt))
theorem qsnb (k m:Nat):∀ (n:Nat) (c9 c10:Cell) (i11 i12 i13 i14:Int) (s15:ByteArray) (c16 c17:Cell) (H18:List Entry),qca (some [1,4,13,14,15]) (qrec k m) (qftc k m) n ⟨fT 39 0 [(1,.loc 1 0),(4,.av (.one (c9))),(13,.av (.one (c10))),(14,.av (.one (Cell.int i11))),(15,.av (.one (Cell.int i12)))],fX 39 0 [(1,[Cell.int i13,Cell.int i14,Cell.str s15,c16,c17])],H18⟩=qaob (k+1) m n c9 c10 i11 i12 i13 i14 s15 c16 c17 H18:=by
 intro n
 induction n with
 | zero=>intros;rfl
 | succ n ih=>intros;simp only[qaob,← ih];kernel_rfl
theorem qqnc (k m:Nat)(i1 i2:Int)(s3:ByteArray)(c4 c5:Cell):evC qahc qnt (evF qahc (k+1)) m qnt.code none (retK qahc qnt) (enter qnt [.agg [Cell.int i1,Cell.int i2,Cell.str s3,c4,c5]] [])=fas (k+1) m i1 i2 s3 c4 c5:=by
 simp only[fas,← qsnb k m]
 kernel_rfl
theorem quc {i1 i2:Int}{s3:ByteArray}{c4 c5:Cell}{r:Res}(k:Nat)(h:fas (k+1) (k+1) i1 i2 s3 c4 c5=some r):qxf [.agg [Cell.int i1,Cell.int i2,Cell.str s3,c4,c5]] []=some r:=qas (k:=k+2) (Eq.trans (Eq.trans (by kernel_rfl) (qqnc k (k+1) i1 i2 s3 c4 c5)) h)
def qebd:List (Nat×Run):=[(qebb,qup),(qdub,qxf),(qvl,qmg)]
def qfid:Ctx:=ctx qbh qbg qebd
def qus:Run:=lim qfid qdjb
theorem ok_fae:FnOk Tryz.prog OkT qdjb qus:=qaq (l:=qebd) qac tyTab_ok qad okT (.cons ok_fbf (.cons ok_fas (.cons qxjc .nil))) qdjb
def fae (k m:Nat)(c1:Cell)(s2:ByteArray)(i3 i4:Int)(s5:ByteArray)(c6 c7:Cell)(H:List Entry):Option Res:=cond (s2.toList==(bs [110,97,109,101]).toList) ((ptrC c1).bind fun c8=>(fldA c8 0).bind fun c9=>(qbm H (c9) [Cell.str s5]).bind fun h10=>some ([.one (Cell.bool (i3==3))],h10)) (cond (s2.toList==(bs [110,101,101,100,115]).toList) ((qek qup [.agg [Cell.int i3,Cell.int i4,Cell.str s5,c6,c7]] H).bind fun r11=>cond (qab qdtd r11.1) ((cC (qaa r11.1 0) 0).bind fun c12=>(cB (qaa r11.1 1) 0).bind fun b13=>(ptrC c1).bind fun c14=>(fldA c14 2).bind fun c15=>(qbm r11.2 (c15) [c12]).bind fun h16=>some ([.one (Cell.bool b13)],h16)) none) (cond (s2.toList==(bs [116,97,115,107,115]).toList) ((qek qxf [.agg [Cell.int i3,Cell.int i4,Cell.str s5,c6,c7]] H).bind fun r17=>cond (qab qcrd r17.1) ((cC (qaa r17.1 0) 0).bind fun c18=>(cB (qaa r17.1 1) 0).bind fun b19=>(ptrC c1).bind fun c20=>(fldA c20 3).bind fun c21=>(qbm r17.2 (c21) [c18]).bind fun h22=>some ([.one (Cell.bool b19)],h22)) none) (cond (s2.toList==(bs [117,115,101,115]).toList) ((qek qmg [.agg [Cell.int i3,Cell.int i4,Cell.str s5,c6,c7]] H).bind fun r23=>cond (qab qlbc r23.1) ((cC (qaa r23.1 0) 0).bind fun c24=>(cB (qaa r23.1 1) 0).bind fun b25=>(ptrC c1).bind fun c26=>(fldA c26 1).bind fun c27=>(qbm r23.2 (c27) [c24]).bind fun h28=>some ([.one (Cell.bool b25)],h28)) none) (some ([.one (Cell.bool false)],H)))))
theorem qokc (k m:Nat)(c1:Cell)(s2:ByteArray)(i3 i4:Int)(s5:ByteArray)(c6 c7:Cell)(H:List Entry):evC qfid qkcb (evF qfid (k+1)) m qkcb.code none (retK qfid qkcb) (enter qkcb [.one (c1),.one (Cell.str s2),.agg [Cell.int i3,Cell.int i4,Cell.str s5,c6,c7]] H)=fae (k+1) m c1 s2 i3 i4 s5 c6 c7 H:=by
 kernel_rfl
theorem qgl {c1:Cell}{s2:ByteArray}{i3 i4:Int}{s5:ByteArray}{c6 c7:Cell}{H:List Entry}{r:Res}(k:Nat)(h:fae (k+1) (k+1) c1 s2 i3 i4 s5 c6 c7 H=some r):qus [.one (c1),.one (Cell.str s2),.agg [Cell.int i3,Cell.int i4,Cell.str s5,c6,c7]] H=some r:=qas (k:=k+2) (Eq.trans (Eq.trans (by kernel_rfl) (qokc k (k+1) c1 s2 i3 i4 s5 c6 c7 H)) h)
def qaad:List (Nat×Run):=[]
def qfsd:Ctx:=ctx qbh qbg qaad
def qpn:Run:=lim qfsd qxw
theorem qaed:FnOk Tryz.prog OkT qxw qpn:=qaq (l:=qaad) qac tyTab_ok qad okT .nil qxw
def fba (k m:Nat)(i1:Int):Option Res:=cond (decide (i1≥97)) (some ([.one (Cell.bool (decide (i1≤122)))],[])) (some ([.one (Cell.bool false)],[]))
theorem qqzc (k m:Nat)(i1:Int):evC qfsd qklb (evF qfsd (k+1)) m qklb.code none (retK qfsd qklb) (enter qklb [.one (.sc (.int .u8 i1))] [])=fba (k+1) m i1:=by
 kernel_rfl
theorem qmyb {i1:Int}{r:Res}(k:Nat)(h:fba (k+1) (k+1) i1=some r):qpn [.one (.sc (.int .u8 i1))] []=some r:=qas (k:=k+2) (Eq.trans (Eq.trans (by kernel_rfl) (qqzc k (k+1) i1)) h)
def qctd:List (Nat×Run):=[]
def qgcd:Ctx:=ctx qbh qbg qctd
def qfp:Run:=lim qgcd qnq
theorem qwxb:FnOk Tryz.prog OkT qnq qfp:=qaq (l:=qctd) qac tyTab_ok qad okT .nil qnq
def faw (k m:Nat)(i1:Int):Option Res:=cond (decide (i1≥48)) (some ([.one (Cell.bool (decide (i1≤57)))],[])) (some ([.one (Cell.bool false)],[]))
theorem qpnc (k m:Nat)(i1:Int):evC qgcd qivb (evF qgcd (k+1)) m qivb.code none (retK qgcd qivb) (enter qivb [.one (.sc (.int .u8 i1))] [])=faw (k+1) m i1:=by
 kernel_rfl
theorem qpab {i1:Int}{r:Res}(k:Nat)(h:faw (k+1) (k+1) i1=some r):qfp [.one (.sc (.int .u8 i1))] []=some r:=qas (k:=k+2) (Eq.trans (Eq.trans (by kernel_rfl) (qpnc k (k+1) i1)) h)
end
end Go.Ev
