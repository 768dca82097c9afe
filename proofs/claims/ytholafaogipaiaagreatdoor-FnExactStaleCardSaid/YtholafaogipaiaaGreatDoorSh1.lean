/- Conditions: none. -/
import Derived.Test.YtholafaogipaiaaGreatDoorSh0
import Derived.KernelRfl
namespace Go.Ev
open Go Go.Proofs
noncomputable section
set_option maxRecDepth 100000
set_option linter.unusedVariables false
set_option linter.unusedSimpArgs false
def pl_feq:List (Nat×Run):=[]
def G_feq:Ctx:=ctx qbd qbc pl_feq
def qxy:Run:=lim G_feq qerb
theorem ok_feq:FnOk Tryz.prog OkT qerb qxy:=qal (l:=pl_feq) qae tyTab_ok qad okT .nil qerb
def qjw (k m:Nat):Nat→ByteArray→Cell→Int→Int→List Entry→Option Res | 0,_,_,_,_,_=>none | n+1,s2,c3,i4,i5,H6=>cond (decide ((IntKind.i64.wrap (i5+1)) < (s2.size:Int))) ((bytS s2 i5).bind fun i7=>cond (i7==124) ((bytS s2 (IntKind.i64.wrap (i5+1))).bind fun i8=>cond (i8==124) ((subS s2 i4 i5).bind fun s9=>(app H6 1 16 (c3) [[Cell.str s9]]).bind fun p10=>qjw k m n s2 (p10.1) (IntKind.i64.wrap (i5+2)) (IntKind.i64.wrap ((IntKind.i64.wrap (i5+1))+1)) p10.2) (qjw k m n s2 (c3) i4 (IntKind.i64.wrap (i5+1)) H6)) (qjw k m n s2 (c3) i4 (IntKind.i64.wrap (i5+1)) H6)) ((subS s2 i4 (s2.size:Int)).bind fun s11=>(app H6 1 16 (c3) [[Cell.str s11]]).bind fun p12=>some ([.one (p12.1)],p12.2))
def feq (k m:Nat)(s1:ByteArray):Option Res:=qjw k m m s1 (.lst true 1 []) 0 0 []
abbrev feq_l0_B (k m:Nat):TB:=evC G_feq qlr (evF G_feq (k+1)) m (sub [1,1,1,0,1,2,3] qlr.code) none
abbrev feq_l0_K (k m:Nat):TK:=qaz 0 (seqK (evC G_feq qlr (evF G_feq (k+1)) m (sub [1,1,1,1] qlr.code) none) (retK G_feq qlr))
theorem feq_l0_eq (k m:Nat):∀ (n:Nat) (s2:ByteArray) (c3:Cell) (i4 i5:Int) (H6:List Entry),qby (some [0,3,4,5]) (feq_l0_B k m) (feq_l0_K k m) n ⟨fT 42 0 [(0,.av (.one (Cell.str s2))),(3,.av (.one (c3))),(4,.av (.one (Cell.int i4))),(5,.av (.one (Cell.int i5)))],fX 42 0 [],H6⟩=qjw (k+1) m n s2 c3 i4 i5 H6:=by
 intro n
 induction n with
 | zero=>intros;rfl
 | succ n ih=>intros;simp only[qjw,← ih];kernel_rfl
theorem feq_code (k m:Nat)(s1:ByteArray):evC G_feq qlr (evF G_feq (k+1)) m qlr.code none (retK G_feq qlr) (enter qlr [.one (Cell.str s1)] [])=feq (k+1) m s1:=by
 simp only[feq,← feq_l0_eq k m]
 kernel_rfl
theorem qrhb {s1:ByteArray}{r:Res}(k:Nat)(h:feq (k+1) (k+1) s1=some r):qxy [.one (Cell.str s1)] []=some r:=qap (k:=k+2) (Eq.trans (Eq.trans (by kernel_rfl) (feq_code k (k+1) s1)) h)
def pl_fdz:List (Nat×Run):=[]
def G_fdz:Ctx:=ctx qbd qbc pl_fdz
def qcj:Run:=lim G_fdz qhh
theorem qabb:FnOk Tryz.prog OkT qhh qcj:=qal (l:=pl_fdz) qae tyTab_ok qad okT .nil qhh
def fdz (k m:Nat)(i1 i2 i3:Int):Option Res:=cond (decide (i1≥i2)) (some ([.one (Cell.bool (decide (i1≤i3)))],[])) (some ([.one (Cell.bool false)],[]))
theorem fdz_code (k m:Nat)(i1 i2 i3:Int):evC G_fdz qleb (evF G_fdz (k+1)) m qleb.code none (retK G_fdz qleb) (enter qleb [.one (Cell.int i1),.one (Cell.int i2),.one (Cell.int i3)] [])=fdz (k+1) m i1 i2 i3:=by
 kernel_rfl
theorem qngb {i1 i2 i3:Int}{r:Res}(k:Nat)(h:fdz (k+1) (k+1) i1 i2 i3=some r):qcj [.one (Cell.int i1),.one (Cell.int i2),.one (Cell.int i3)] []=some r:=qap (k:=k+2) (Eq.trans (Eq.trans (by kernel_rfl) (fdz_code k (k+1) i1 i2 i3)) h)
def pl_fdy:List (Nat×Run):=[(qhh,qcj)]
def G_fdy:Ctx:=ctx qbd qbc pl_fdy
def qfo:Run:=lim G_fdy qmu
theorem ok_fdy:FnOk Tryz.prog OkT qmu qfo:=qal (l:=pl_fdy) qae tyTab_ok qad okT (.cons qabb .nil) qmu
def fdy (k m:Nat)(i1:Int):Option Res:=(qau qcj [.one (Cell.int (IntKind.i64.wrap i1)),.one (Cell.int 48),.one (Cell.int 57)] []).bind fun r2=>cond (qab qjp r2) ((cB (qaa r2 0) 0).bind fun b3=>some ([.one (Cell.bool b3)],[])) none
theorem fdy_code (k m:Nat)(i1:Int):evC G_fdy qkob (evF G_fdy (k+1)) m qkob.code none (retK G_fdy qkob) (enter qkob [.one (.sc (.int .u8 i1))] [])=fdy (k+1) m i1:=by
 kernel_rfl
theorem qoyb {i1:Int}{r:Res}(k:Nat)(h:fdy (k+1) (k+1) i1=some r):qfo [.one (.sc (.int .u8 i1))] []=some r:=qap (k:=k+2) (Eq.trans (Eq.trans (by kernel_rfl) (fdy_code k (k+1) i1)) h)
def pl_fdn:List (Nat×Run):=[(qmu,qfo),(qhh,qcj)]
def G_fdn:Ctx:=ctx qbd qbc pl_fdn
def qco:Run:=lim G_fdn qtn
theorem ok_fdn:FnOk Tryz.prog OkT qtn qco:=qal (l:=pl_fdn) qae tyTab_ok qad okT (.cons ok_fdy (.cons qabb .nil)) qtn
def qaub (k m:Nat):Nat→ByteArray→Int→Int→Int→Option Res | 0,_,_,_,_=>none | n+1,s3,i4,i5,i6=>cond (decide (i6 < (s3.size:Int))) (cond (decide (i6 < 8)) ((bytS s3 i6).bind fun i7=>(qau qfo [.one (.sc (.int .u8 i7))] []).bind fun r8=>cond (qab qnqb r8) ((cB (qaa r8 0) 0).bind fun b9=>cond (!b9) (some ([.one (Cell.int 0),.one (Cell.bool false)],[])) ((bytS s3 i6).bind fun i10=>qaub k m n s3 i4 (IntKind.i64.wrap ((IntKind.i64.wrap (i5*10))+(IntKind.i64.wrap (IntKind.u8.wrap (i10 - 48))))) (IntKind.i64.wrap (i6+1)))) none) ((qau qcj [.one (Cell.int (s3.size:Int)),.one (Cell.int 1),.one (Cell.int 7)] []).bind fun r11=>cond (qab qjp r11) ((cB (qaa r11 0) 0).bind fun b12=>cond (!b12) (some ([.one (Cell.int 0),.one (Cell.bool false)],[])) (cond (decide ((s3.size:Int) > 1)) ((bytS s3 0).bind fun i13=>cond (i13==48) (some ([.one (Cell.int 0),.one (Cell.bool false)],[])) (cond (decide (i5 > i4)) (some ([.one (Cell.int 0),.one (Cell.bool false)],[])) (some ([.one (Cell.int i5),.one (Cell.bool true)],[])))) (cond (decide (i5 > i4)) (some ([.one (Cell.int 0),.one (Cell.bool false)],[])) (some ([.one (Cell.int i5),.one (Cell.bool true)],[]))))) none)) ((qau qcj [.one (Cell.int (s3.size:Int)),.one (Cell.int 1),.one (Cell.int 7)] []).bind fun r14=>cond (qab qjp r14) ((cB (qaa r14 0) 0).bind fun b15=>cond (!b15) (some ([.one (Cell.int 0),.one (Cell.bool false)],[])) (cond (decide ((s3.size:Int) > 1)) ((bytS s3 0).bind fun i16=>cond (i16==48) (some ([.one (Cell.int 0),.one (Cell.bool false)],[])) (cond (decide (i5 > i4)) (some ([.one (Cell.int 0),.one (Cell.bool false)],[])) (some ([.one (Cell.int i5),.one (Cell.bool true)],[])))) (cond (decide (i5 > i4)) (some ([.one (Cell.int 0),.one (Cell.bool false)],[])) (some ([.one (Cell.int i5),.one (Cell.bool true)],[]))))) none)
def fdn (k m:Nat)(s1:ByteArray)(i2:Int):Option Res:=qaub k m m s1 i2 0 0
abbrev fdn_l0_B (k m:Nat):TB:=evC G_fdn qlc (evF G_fdn (k+1)) m (sub [1,1,0,1,2,3] qlc.code) none
abbrev fdn_l0_K (k m:Nat):TK:=qaz 0 (seqK (evC G_fdn qlc (evF G_fdn (k+1)) m (sub [1,1,1] qlc.code) none) (retK G_fdn qlc))
theorem fdn_l0_eq (k m:Nat):∀ (n:Nat) (s3:ByteArray) (i4 i5 i6:Int),qby (some [0,1,6,7]) (fdn_l0_B k m) (fdn_l0_K k m) n ⟨fT 51 0 [(0,.av (.one (Cell.str s3))),(1,.av (.one (Cell.int i4))),(6,.av (.one (Cell.int i5))),(7,.av (.one (Cell.int i6)))],fX 51 0 [],[]⟩=qaub (k+1) m n s3 i4 i5 i6:=by
 intro n
 induction n with
 | zero=>intros;rfl
 | succ n ih=>intros;simp only[qaub,← ih];kernel_rfl
theorem fdn_code (k m:Nat)(s1:ByteArray)(i2:Int):evC G_fdn qlc (evF G_fdn (k+1)) m qlc.code none (retK G_fdn qlc) (enter qlc [.one (Cell.str s1),.one (Cell.int i2)] [])=fdn (k+1) m s1 i2:=by
 simp only[fdn,← fdn_l0_eq k m]
 kernel_rfl
theorem qsbb {s1:ByteArray}{i2:Int}{r:Res}(k:Nat)(h:fdn (k+1) (k+1) s1 i2=some r):qco [.one (Cell.str s1),.one (Cell.int i2)] []=some r:=qap (k:=k+2) (Eq.trans (Eq.trans (by kernel_rfl) (fdn_code k (k+1) s1 i2)) h)
def pl_fea:List (Nat×Run):=[(qhh,qcj)]
def G_fea:Ctx:=ctx qbd qbc pl_fea
def qnf:Run:=lim G_fea qyl
theorem ok_fea:FnOk Tryz.prog OkT qyl qnf:=qal (l:=pl_fea) qae tyTab_ok qad okT (.cons qabb .nil) qyl
def fea (k m:Nat)(i1:Int):Option Res:=(qau qcj [.one (Cell.int (IntKind.i64.wrap i1)),.one (Cell.int 97),.one (Cell.int 122)] []).bind fun r2=>cond (qab qjp r2) ((cB (qaa r2 0) 0).bind fun b3=>some ([.one (Cell.bool b3)],[])) none
theorem fea_code (k m:Nat)(i1:Int):evC G_fea qjib (evF G_fea (k+1)) m qjib.code none (retK G_fea qjib) (enter qjib [.one (.sc (.int .u8 i1))] [])=fea (k+1) m i1:=by
 kernel_rfl
theorem qsyb {i1:Int}{r:Res}(k:Nat)(h:fea (k+1) (k+1) i1=some r):qnf [.one (.sc (.int .u8 i1))] []=some r:=qap (k:=k+2) (Eq.trans (Eq.trans (by kernel_rfl) (fea_code k (k+1) i1)) h)
def pl_fed:List (Nat×Run):=[(qmu,qfo)]
def G_fed:Ctx:=ctx qbd qbc pl_fed
def qkk:Run:=lim G_fed quf
theorem ok_fed:FnOk Tryz.prog OkT quf qkk:=qal (l:=pl_fed) qae tyTab_ok qad okT (.cons ok_fdy .nil) quf
def qzh (k m:Nat):Nat→ByteArray→Int→Option Res | 0,_,_=>none | n+1,s2,i3=>cond (decide (i3 < (s2.size:Int))) ((bytS s2 i3).bind fun i4=>(qau qfo [.one (.sc (.int .u8 i4))] []).bind fun r5=>cond (qab qnqb r5) ((cB (qaa r5 0) 0).bind fun b6=>cond (!b6) (some ([.one (Cell.bool false)],[])) (qzh k m n s2 (IntKind.i64.wrap (i3+1)))) none) (some ([.one (Cell.bool true)],[]))
def fed (k m:Nat)(s1:ByteArray):Option Res:=qzh k m m s1 0
abbrev fed_l0_B (k m:Nat):TB:=evC G_fed qmy (evF G_fed (k+1)) m (sub [1,0,1,2,3] qmy.code) none
abbrev fed_l0_K (k m:Nat):TK:=qaz 0 (seqK (evC G_fed qmy (evF G_fed (k+1)) m (sub [1,1] qmy.code) none) (retK G_fed qmy))
theorem fed_l0_eq (k m:Nat):∀ (n:Nat) (s2:ByteArray) (i3:Int),qby (some [0,3]) (fed_l0_B k m) (fed_l0_K k m) n ⟨fT 15 0 [(0,.av (.one (Cell.str s2))),(3,.av (.one (Cell.int i3)))],fX 15 0 [],[]⟩=qzh (k+1) m n s2 i3:=by
 intro n
 induction n with
 | zero=>intros;rfl
 | succ n ih=>intros;simp only[qzh,← ih];kernel_rfl
theorem fed_code (k m:Nat)(s1:ByteArray):evC G_fed qmy (evF G_fed (k+1)) m qmy.code none (retK G_fed qmy) (enter qmy [.one (Cell.str s1)] [])=fed (k+1) m s1:=by
 simp only[fed,← fed_l0_eq k m]
 kernel_rfl
theorem qpqb {s1:ByteArray}{r:Res}(k:Nat)(h:fed (k+1) (k+1) s1=some r):qkk [.one (Cell.str s1)] []=some r:=qap (k:=k+2) (Eq.trans (Eq.trans (by kernel_rfl) (fed_code k (k+1) s1)) h)
def pl_feg:List (Nat×Run):=[(qyl,qnf),(qmu,qfo),(qhh,qcj),(quf,qkk)]
def G_feg:Ctx:=ctx qbd qbc pl_feg
def qtg:Run:=lim G_feg qcib
theorem ok_feg:FnOk Tryz.prog OkT qcib qtg:=qal (l:=pl_feg) qae tyTab_ok qad okT (.cons ok_fea (.cons ok_fdy (.cons qabb (.cons ok_fed .nil)))) qcib
def qqb (k m:Nat):Nat→ByteArray→Int→Option Res | 0,_,_=>none | n+1,s2,i3=>cond (decide (i3 < (s2.size:Int))) ((bytS s2 i3).bind fun i4=>(qau qfo [.one (.sc (.int .u8 i4))] []).bind fun r5=>cond (qab qnqb r5) ((cB (qaa r5 0) 0).bind fun b6=>cond (!b6) ((bytS s2 i3).bind fun i7=>(qau qnf [.one (.sc (.int .u8 i7))] []).bind fun r8=>cond (qab rk_fea r8) ((cB (qaa r8 0) 0).bind fun b9=>cond (!b9) ((bytS s2 i3).bind fun i10=>(qau qcj [.one (Cell.int (IntKind.i64.wrap i10)),.one (Cell.int 65),.one (Cell.int 90)] []).bind fun r11=>cond (qab qjp r11) ((cB (qaa r11 0) 0).bind fun b12=>cond (!b12) ((bytS s2 i3).bind fun i13=>cond (i13 != 45) (some ([.one (Cell.bool false)],[])) (qqb k m n s2 (IntKind.i64.wrap (i3+1)))) (qqb k m n s2 (IntKind.i64.wrap (i3+1)))) none) (qqb k m n s2 (IntKind.i64.wrap (i3+1)))) none) (qqb k m n s2 (IntKind.i64.wrap (i3+1)))) none) ((qau qcj [.one (Cell.int (s2.size:Int)),.one (Cell.int 1),.one (Cell.int 8)] []).bind fun r14=>cond (qab qjp r14) ((cB (qaa r14 0) 0).bind fun b15=>cond b15 ((qau qkk [.one (Cell.str s2)] []).bind fun r16=>cond (qab rk_fed r16) ((cB (qaa r16 0) 0).bind fun b17=>cond (!b17) (some ([.one (Cell.bool true)],[])) (cond ((s2.size:Int)==1) (some ([.one (Cell.bool true)],[])) ((bytS s2 0).bind fun i18=>some ([.one (Cell.bool (i18 != 48))],[])))) none) (some ([.one (Cell.bool false)],[]))) none)
def feg (k m:Nat)(s1:ByteArray):Option Res:=qqb k m m s1 0
abbrev feg_l0_B (k m:Nat):TB:=evC G_feg qmv (evF G_feg (k+1)) m (sub [1,0,1,2,3] qmv.code) none
abbrev feg_l0_K (k m:Nat):TK:=qaz 0 (seqK (evC G_feg qmv (evF G_feg (k+1)) m (sub [1,1] qmv.code) none) (retK G_feg qmv))
theorem feg_l0_eq (k m:Nat):∀ (n:Nat) (s2:ByteArray) (i3:Int),qby (some [0,3]) (feg_l0_B k m) (feg_l0_K k m) n ⟨fT 54 0 [(0,.av (.one (Cell.str s2))),(3,.av (.one (Cell.int i3)))],fX 54 0 [],[]⟩=qqb (k+1) m n s2 i3:=by
 intro n
 induction n with
 | zero=>intros;rfl
 | succ n ih=>intros;simp only[qqb,← ih];kernel_rfl
theorem feg_code (k m:Nat)(s1:ByteArray):evC G_feg qmv (evF G_feg (k+1)) m qmv.code none (retK G_feg qmv) (enter qmv [.one (Cell.str s1)] [])=feg (k+1) m s1:=by
 simp only[feg,← feg_l0_eq k m]
 kernel_rfl
theorem qrnb {s1:ByteArray}{r:Res}(k:Nat)(h:feg (k+1) (k+1) s1=some r):qtg [.one (Cell.str s1)] []=some r:=qap (k:=k+2) (Eq.trans (Eq.trans (by kernel_rfl) (feg_code k (k+1) s1)) h)
def pl_fdv:List (Nat×Run):=[(qhh,qcj),(qcib,qtg)]
def G_fdv:Ctx:=ctx qbd qbc pl_fdv
def qdx:Run:=lim G_fdv qph
theorem ok_fdv:FnOk Tryz.prog OkT qph qdx:=qal (l:=pl_fdv) qae tyTab_ok qad okT (.cons qabb (.cons ok_feg .nil)) qph
def qbeb (k m:Nat):Nat→Int→Int→Int→Int→Cell→Option Res | 0,_,_,_,_,_=>none | n+1,i5,i6,i7,i8,c9=>(lenC c9).bind fun n10=>cond (decide (i5 < (n10:Int))) ((idxA 1 (c9) i5).bind fun c11=>(deref [] (c11)).bind fun p12=>(cS p12.1 p12.2).bind fun s13=>(qau qtg [.one (Cell.str s13)] []).bind fun r14=>cond (qab rk_feg r14) ((cB (qaa r14 0) 0).bind fun b15=>cond (!b15) (some ([.one (Cell.bool false)],[])) (qbeb k m n (IntKind.i64.wrap (i5+1)) i6 i7 i8 (c9))) none) ((qau qcj [.one (Cell.int i6),.one (Cell.int 0),.one (Cell.int 9999)] []).bind fun r16=>cond (qab qjp r16) ((cB (qaa r16 0) 0).bind fun b17=>cond b17 ((qau qcj [.one (Cell.int i7),.one (Cell.int 0),.one (Cell.int 9999)] []).bind fun r18=>cond (qab qjp r18) ((cB (qaa r18 0) 0).bind fun b19=>cond b19 ((qau qcj [.one (Cell.int i8),.one (Cell.int 0),.one (Cell.int 9999)] []).bind fun r20=>cond (qab qjp r20) ((cB (qaa r20 0) 0).bind fun b21=>cond b21 ((lenC c9).bind fun n22=>some ([.one (Cell.bool (decide ((n22:Int)≤3)))],[])) (some ([.one (Cell.bool false)],[]))) none) (some ([.one (Cell.bool false)],[]))) none) (some ([.one (Cell.bool false)],[]))) none)
def fdv (k m:Nat)(i1 i2 i3:Int)(c4:Cell):Option Res:=qbeb k m m 0 i1 i2 i3 (c4)
abbrev fdv_l0_B (k m:Nat):TB:=evC G_fdv qny (evF G_fdv (k+1)) m (sub [1,0,1,2,3] qny.code) none
abbrev fdv_l0_K (k m:Nat):TK:=qaz 0 (seqK (evC G_fdv qny (evF G_fdv (k+1)) m (sub [1,1] qny.code) none) (retK G_fdv qny))
theorem fdv_l0_eq (k m:Nat):∀ (n:Nat) (i5 i6 i7 i8:Int) (c9:Cell),qby (some [1,3]) (fdv_l0_B k m) (fdv_l0_K k m) n ⟨fT 37 0 [(1,.loc 1 0),(3,.av (.one (Cell.int i5)))],fX 37 0 [(1,[Cell.int i6,Cell.int i7,Cell.int i8,c9])],[]⟩=qbeb (k+1) m n i5 i6 i7 i8 c9:=by
 intro n
 induction n with
 | zero=>intros;rfl
 | succ n ih=>intros;simp only[qbeb,← ih];kernel_rfl
theorem fdv_code (k m:Nat)(i1 i2 i3:Int)(c4:Cell):evC G_fdv qny (evF G_fdv (k+1)) m qny.code none (retK G_fdv qny) (enter qny [.agg [Cell.int i1,Cell.int i2,Cell.int i3,c4]] [])=fdv (k+1) m i1 i2 i3 c4:=by
 simp only[fdv,← fdv_l0_eq k m]
 kernel_rfl
theorem qmob {i1 i2 i3:Int}{c4:Cell}{r:Res}(k:Nat)(h:fdv (k+1) (k+1) i1 i2 i3 c4=some r):qdx [.agg [Cell.int i1,Cell.int i2,Cell.int i3,c4]] []=some r:=qap (k:=k+2) (Eq.trans (Eq.trans (by kernel_rfl) (fdv_code k (k+1) i1 i2 i3 c4)) h)
def pl_fdp:List (Nat×Run):=[(qls,qci),(qtn,qco),(qph,qdx)]
def G_fdp:Ctx:=ctx qbd qbc pl_fdp
def qhg:Run:=lim G_fdp qqv
theorem ok_fdp:FnOk Tryz.prog OkT qqv qhg:=qal (l:=pl_fdp) qae tyTab_ok qad okT (.cons ok_fdt (.cons ok_fdn (.cons ok_fdv .nil))) qqv
def qkp (k m:Nat):Nat→ByteArray→Int→Option Res | 0,_,_=>none | n+1,s2,i3=>cond (decide (i3 < (s2.size:Int))) ((bytS s2 i3).bind fun i4=>cond (i4 != 45) (qkp k m n s2 (IntKind.i64.wrap (i3+1))) (cond (decide (i3 < (s2.size:Int))) ((subS s2 (IntKind.i64.wrap (i3+1)) (s2.size:Int)).bind fun s5=>(callL qci [.one (Cell.str s5),.one (.sc (.int .u8 46))] []).bind fun r6=>cond (qab qlp r6.1) ((cC (qaa r6.1 0) 0).bind fun c7=>(subS s2 0 i3).bind fun s8=>(callL qci [.one (Cell.str s8),.one (.sc (.int .u8 46))] r6.2).bind fun r9=>cond (qab qlp r9.1) ((cC (qaa r9.1 0) 0).bind fun c10=>(lenC c10).bind fun n11=>cond ((n11:Int) != 3) (some ([.agg [Cell.int 0,Cell.int 0,Cell.int 0,.lst true 1 []],.one (Cell.bool false)],r9.2)) ((idxA 1 (c10) 0).bind fun c12=>(deref r9.2 (c12)).bind fun p13=>(cS p13.1 p13.2).bind fun s14=>(qau qco [.one (Cell.str s14),.one (Cell.int 9999)] r9.2).bind fun r15=>cond (qab qiw r15) ((cI .i64 (qaa r15 0) 0).bind fun i16=>(cB (qaa r15 1) 0).bind fun b17=>(idxA 1 (c10) 1).bind fun c18=>(deref r9.2 (c18)).bind fun p19=>(cS p19.1 p19.2).bind fun s20=>(qau qco [.one (Cell.str s20),.one (Cell.int 9999)] r9.2).bind fun r21=>cond (qab qiw r21) ((cI .i64 (qaa r21 0) 0).bind fun i22=>(cB (qaa r21 1) 0).bind fun b23=>(idxA 1 (c10) 2).bind fun c24=>(deref r9.2 (c24)).bind fun p25=>(cS p25.1 p25.2).bind fun s26=>(qau qco [.one (Cell.str s26),.one (Cell.int 9999)] r9.2).bind fun r27=>cond (qab qiw r27) ((cI .i64 (qaa r27 0) 0).bind fun i28=>(cB (qaa r27 1) 0).bind fun b29=>cond (!b17) (some ([.agg [Cell.int 0,Cell.int 0,Cell.int 0,.lst true 1 []],.one (Cell.bool false)],r9.2)) (cond (!b23) (some ([.agg [Cell.int 0,Cell.int 0,Cell.int 0,.lst true 1 []],.one (Cell.bool false)],r9.2)) (cond (!b29) (some ([.agg [Cell.int 0,Cell.int 0,Cell.int 0,.lst true 1 []],.one (Cell.bool false)],r9.2)) ((qau qdx [.agg [Cell.int i16,Cell.int i22,Cell.int i28,c7]] r9.2).bind fun r30=>cond (qab qwk r30) ((cB (qaa r30 0) 0).bind fun b31=>cond (!b31) (some ([.agg [Cell.int 0,Cell.int 0,Cell.int 0,.lst true 1 []],.one (Cell.bool false)],r9.2)) (some ([.agg [Cell.int i16,Cell.int i22,Cell.int i28,c7],.one (Cell.bool true)],r9.2))) none)))) none) none) none)) none) none) ((subS s2 0 i3).bind fun s32=>(callL qci [.one (Cell.str s32),.one (.sc (.int .u8 46))] []).bind fun r33=>cond (qab qlp r33.1) ((cC (qaa r33.1 0) 0).bind fun c34=>(lenC c34).bind fun n35=>cond ((n35:Int) != 3) (some ([.agg [Cell.int 0,Cell.int 0,Cell.int 0,.lst true 1 []],.one (Cell.bool false)],r33.2)) ((idxA 1 (c34) 0).bind fun c36=>(deref r33.2 (c36)).bind fun p37=>(cS p37.1 p37.2).bind fun s38=>(qau qco [.one (Cell.str s38),.one (Cell.int 9999)] r33.2).bind fun r39=>cond (qab qiw r39) ((cI .i64 (qaa r39 0) 0).bind fun i40=>(cB (qaa r39 1) 0).bind fun b41=>(idxA 1 (c34) 1).bind fun c42=>(deref r33.2 (c42)).bind fun p43=>(cS p43.1 p43.2).bind fun s44=>(qau qco [.one (Cell.str s44),.one (Cell.int 9999)] r33.2).bind fun r45=>cond (qab qiw r45) ((cI .i64 (qaa r45 0) 0).bind fun i46=>(cB (qaa r45 1) 0).bind fun b47=>(idxA 1 (c34) 2).bind fun c48=>(deref r33.2 (c48)).bind fun p49=>(cS p49.1 p49.2).bind fun s50=>(qau qco [.one (Cell.str s50),.one (Cell.int 9999)] r33.2).bind fun r51=>cond (qab qiw r51) ((cI .i64 (qaa r51 0) 0).bind fun i52=>(cB (qaa r51 1) 0).bind fun b53=>cond (!b41) (some ([.agg [Cell.int 0,Cell.int 0,Cell.int 0,.lst true 1 []],.one (Cell.bool false)],r33.2)) (cond (!b47) (some ([.agg [Cell.int 0,Cell.int 0,Cell.int 0,.lst true 1 []],.one (Cell.bool false)],r33.2)) (cond (!b53) (some ([.agg [Cell.int 0,Cell.int 0,Cell.int 0,.lst true 1 []],.one (Cell.bool false)],r33.2)) ((qau qdx [.agg [Cell.int i40,Cell.int i46,Cell.int i52,.lst true 1 []]] r33.2).bind fun r54=>cond (qab qwk r54) ((cB (qaa r54 0) 0).bind fun b55=>cond (!b55) (some ([.agg [Cell.int 0,Cell.int 0,Cell.int 0,.lst true 1 []],.one (Cell.bool false)],r33.2)) (some ([.agg [Cell.int i40,Cell.int i46,Cell.int i52,.lst true 1 []],.one (Cell.bool true)],r33.2))) none)))) none) none) none)) none))) (cond (decide (i3 < (s2.size:Int))) ((subS s2 (IntKind.i64.wrap (i3+1)) (s2.size:Int)).bind fun s56=>(callL qci [.one (Cell.str s56),.one (.sc (.int .u8 46))] []).bind fun r57=>cond (qab qlp r57.1) ((cC (qaa r57.1 0) 0).bind fun c58=>(subS s2 0 i3).bind fun s59=>(callL qci [.one (Cell.str s59),.one (.sc (.int .u8 46))] r57.2).bind fun r60=>cond (qab qlp r60.1) ((cC (qaa r60.1 0) 0).bind fun c61=>(lenC c61).bind fun n62=>cond ((n62:Int) != 3) (some ([.agg [Cell.int 0,Cell.int 0,Cell.int 0,.lst true 1 []],.one (Cell.bool false)],r60.2)) ((idxA 1 (c61) 0).bind fun c63=>(deref r60.2 (c63)).bind fun p64=>(cS p64.1 p64.2).bind fun s65=>(qau qco [.one (Cell.str s65),.one (Cell.int 9999)] r60.2).bind fun r66=>cond (qab qiw r66) ((cI .i64 (qaa r66 0) 0).bind fun i67=>(cB (qaa r66 1) 0).bind fun b68=>(idxA 1 (c61) 1).bind fun c69=>(deref r60.2 (c69)).bind fun p70=>(cS p70.1 p70.2).bind fun s71=>(qau qco [.one (Cell.str s71),.one (Cell.int 9999)] r60.2).bind fun r72=>cond (qab qiw r72) ((cI .i64 (qaa r72 0) 0).bind fun i73=>(cB (qaa r72 1) 0).bind fun b74=>(idxA 1 (c61) 2).bind fun c75=>(deref r60.2 (c75)).bind fun p76=>(cS p76.1 p76.2).bind fun s77=>(qau qco [.one (Cell.str s77),.one (Cell.int 9999)] r60.2).bind fun r78=>cond (qab qiw r78) ((cI .i64 (qaa r78 0) 0).bind fun i79=>(cB (qaa r78 1) 0).bind fun b80=>cond (!b68) (some ([.agg [Cell.int 0,Cell.int 0,Cell.int 0,.lst true 1 []],.one (Cell.bool false)],r60.2)) (cond (!b74) (some ([.agg [Cell.int 0,Cell.int 0,Cell.int 0,.lst true 1 []],.one (Cell.bool false)],r60.2)) (cond (!b80) (some ([.agg [Cell.int 0,Cell.int 0,Cell.int 0,.lst true 1 []],.one (Cell.bool false)],r60.2)) ((qau qdx [.agg [Cell.int i67,Cell.int i73,Cell.int i79,c58]] r60.2).bind fun r81=>cond (qab qwk r81) ((cB (qaa r81 0) 0).bind fun b82=>cond (!b82) (some ([.agg [Cell.int 0,Cell.int 0,Cell.int 0,.lst true 1 []],.one (Cell.bool false)],r60.2)) (some ([.agg [Cell.int i67,Cell.int i73,Cell.int i79,c58],.one (Cell.bool true)],r60.2))) none)))) none) none) none)) none) none) ((subS s2 0 i3).bind fun s83=>(callL qci [.one (Cell.str s83),.one (.sc (.int .u8 46))] []).bind fun r84=>cond (qab qlp r84.1) ((cC (qaa r84.1 0) 0).bind fun c85=>(lenC c85).bind fun n86=>cond ((n86:Int) != 3) (some ([.agg [Cell.int 0,Cell.int 0,Cell.int 0,.lst true 1 []],.one (Cell.bool false)],r84.2)) ((idxA 1 (c85) 0).bind fun c87=>(deref r84.2 (c87)).bind fun p88=>(cS p88.1 p88.2).bind fun s89=>(qau qco [.one (Cell.str s89),.one (Cell.int 9999)] r84.2).bind fun r90=>cond (qab qiw r90) ((cI .i64 (qaa r90 0) 0).bind fun i91=>(cB (qaa r90 1) 0).bind fun b92=>(idxA 1 (c85) 1).bind fun c93=>(deref r84.2 (c93)).bind fun p94=>(cS p94.1 p94.2).bind fun s95=>(qau qco [.one (Cell.str s95),.one (Cell.int 9999)] r84.2).bind fun r96=>cond (qab qiw r96) ((cI .i64 (qaa r96 0) 0).bind fun i97=>(cB (qaa r96 1) 0).bind fun b98=>(idxA 1 (c85) 2).bind fun c99=>(deref r84.2 (c99)).bind fun p100=>(cS p100.1 p100.2).bind fun s101=>(qau qco [.one (Cell.str s101),.one (Cell.int 9999)] r84.2).bind fun r102=>cond (qab qiw r102) ((cI .i64 (qaa r102 0) 0).bind fun i103=>(cB (qaa r102 1) 0).bind fun b104=>cond (!b92) (some ([.agg [Cell.int 0,Cell.int 0,Cell.int 0,.lst true 1 []],.one (Cell.bool false)],r84.2)) (cond (!b98) (some ([.agg [Cell.int 0,Cell.int 0,Cell.int 0,.lst true 1 []],.one (Cell.bool false)],r84.2)) (cond (!b104) (some ([.agg [Cell.int 0,Cell.int 0,Cell.int 0,.lst true 1 []],.one (Cell.bool false)],r84.2)) ((qau qdx [.agg [Cell.int i91,Cell.int i97,Cell.int i103,.lst true 1 []]] r84.2).bind fun r105=>cond (qab qwk r105) ((cB (qaa r105 0) 0).bind fun b106=>cond (!b106) (some ([.agg [Cell.int 0,Cell.int 0,Cell.int 0,.lst true 1 []],.one (Cell.bool false)],r84.2)) (some ([.agg [Cell.int i91,Cell.int i97,Cell.int i103,.lst true 1 []],.one (Cell.bool true)],r84.2))) none)))) none) none) none)) none))
def fdp (k m:Nat)(s1:ByteArray):Option Res:=qkp k m m s1 0
abbrev fdp_l0_B (k m:Nat):TB:=evC G_fdp qnh (evF G_fdp (k+1)) m (sub [1,1,1,0,2,3] qnh.code) none
abbrev fdp_l0_K (k m:Nat):TK:=qaz 0 (seqK (evC G_fdp qnh (evF G_fdp (k+1)) m (sub [1,1,1,1] qnh.code) none) (retK G_fdp qnh))
theorem fdp_l0_eq (k m:Nat):∀ (n:Nat) (s2:ByteArray) (i3:Int),qby (some [0,2,4,5]) (fdp_l0_B k m) (fdp_l0_K k m) n ⟨fT 88 0 [(0,.av (.one (Cell.str s2))),(2,.loc 2 0),(4,.loc 4 0),(5,.av (.one (Cell.int i3)))],fX 88 0 [(2,[Cell.int 0,Cell.int 0,Cell.int 0,.lst true 1 []]),(4,[Cell.int 0,Cell.int 0,Cell.int 0,.lst true 1 []])],[]⟩=qkp (k+1) m n s2 i3:=by
 intro n
 induction n with
 | zero=>intros;rfl
 | succ n ih=>intros;simp only[qkp,← ih];kernel_rfl
theorem fdp_code (k m:Nat)(s1:ByteArray):evC G_fdp qnh (evF G_fdp (k+1)) m qnh.code none (retK G_fdp qnh) (enter qnh [.one (Cell.str s1)] [])=fdp (k+1) m s1:=by
 simp only[fdp,← fdp_l0_eq k m]
 kernel_rfl
theorem qtm {s1:ByteArray}{r:Res}(k:Nat)(h:fdp (k+1) (k+1) s1=some r):qhg [.one (Cell.str s1)] []=some r:=qap (k:=k+2) (Eq.trans (Eq.trans (by kernel_rfl) (fdp_code k (k+1) s1)) h)
def pl_fep:List (Nat×Run):=[(qls,qci),(qqv,qhg),(qhh,qcj),(qtn,qco)]
def qfdb:Ctx:=ctx qbd qbc pl_fep
def qwd:Run:=lim qfdb qhtb
theorem ok_fep:FnOk Tryz.prog OkT qhtb qwd:=qal (l:=pl_fep) qae tyTab_ok qad okT (.cons ok_fdt (.cons ok_fdp (.cons qabb (.cons ok_fdn .nil)))) qhtb
def qwv (k m:Nat):Nat→Cell→Cell→Int→Int→List Entry→Option Res | 0,_,_,_,_,_=>none | n+1,c27,c28,i29,i30,H31=>(lenC c27).bind fun n32=>cond (decide (i29 < (n32:Int))) ((idxA 1 (c27) i29).bind fun c33=>(deref H31 (c33)).bind fun p34=>(cS p34.1 p34.2).bind fun s35=>cond (!(s35.toList==(bs [120]).toList)) (some ([.agg [Cell.int 0,Cell.int 0,Cell.int 0,.lst true 1 [],Cell.int 0,Cell.bool false]],H31)) (qwv k m n (c27) (c28) (IntKind.i64.wrap (i29+1)) i30 H31)) ((idxA 1 (c28) 0).bind fun c36=>(deref H31 (c36)).bind fun p37=>(cI .i64 p37.1 p37.2).bind fun i38=>(idxA 1 (c28) 1).bind fun c39=>(deref H31 (c39)).bind fun p40=>(cI .i64 p40.1 p40.2).bind fun i41=>(idxA 1 (c28) 2).bind fun c42=>(deref H31 (c42)).bind fun p43=>(cI .i64 p43.1 p43.2).bind fun i44=>(qau qcj [.one (Cell.int i30),.one (Cell.int 1),.one (Cell.int 2)] H31).bind fun r45=>cond (qab qjp r45) ((cB (qaa r45 0) 0).bind fun b46=>some ([.agg [Cell.int i38,Cell.int i41,Cell.int i44,.lst true 1 [],Cell.int i30,Cell.bool b46]],H31)) none)
def qajb (k m:Nat):Nat→Cell→Cell→Int→List Entry→Option Res | 0,_,_,_,_=>none | n+1,c11,c12,i13,H14=>(lenC c11).bind fun n15=>cond (decide (i13 < (n15:Int))) ((idxA 1 (c11) i13).bind fun c16=>(deref H14 (c16)).bind fun p17=>(cS p17.1 p17.2).bind fun s18=>cond (!(s18.toList==(bs [120]).toList)) ((idxA 1 (c11) i13).bind fun c19=>(deref H14 (c19)).bind fun p20=>(cS p20.1 p20.2).bind fun s21=>(qau qco [.one (Cell.str s21),.one (Cell.int 9999)] H14).bind fun r22=>cond (qab qiw r22) ((cI .i64 (qaa r22 0) 0).bind fun i23=>(cB (qaa r22 1) 0).bind fun b24=>cond (!b24) (some ([.agg [Cell.int 0,Cell.int 0,Cell.int 0,.lst true 1 [],Cell.int 0,Cell.bool false]],H14)) ((idxA 1 (c12) i13).bind fun c25=>(qce H14 (c25) [Cell.int i23]).bind fun h26=>qajb k m n (c11) (c12) (IntKind.i64.wrap (i13+1)) h26)) none) (qwv k m m (c11) (c12) i13 i13 H14)) (qwv k m m (c11) (c12) i13 i13 H14)
def fep (k m:Nat)(s1:ByteArray):Option Res:=(callL qhg [.one (Cell.str s1)] []).bind fun r2=>cond (qab qltb r2.1) ((cI .i64 (qaa r2.1 0) 0).bind fun i3=>(cI .i64 (qaa r2.1 0) 1).bind fun i4=>(cI .i64 (qaa r2.1 0) 2).bind fun i5=>(cC (qaa r2.1 0) 3).bind fun c6=>(cB (qaa r2.1 1) 0).bind fun b7=>cond b7 (some ([.agg [Cell.int i3,Cell.int i4,Cell.int i5,c6,Cell.int 3,Cell.bool true]],r2.2)) ((callL qci [.one (Cell.str s1),.one (.sc (.int .u8 46))] r2.2).bind fun r8=>cond (qab qlp r8.1) ((cC (qaa r8.1 0) 0).bind fun c9=>(lenC c9).bind fun n10=>cond (decide ((n10:Int) > 3)) (some ([.agg [Cell.int 0,Cell.int 0,Cell.int 0,.lst true 1 [],Cell.int 0,Cell.bool false]],(r8.2++[Entry.mk 1 [[Cell.int 0],[Cell.int 0],[Cell.int 0]] 0 false]))) (qajb k m m (c9) ((.vs r8.2.length 1 0 3 0)) 0 (r8.2++[Entry.mk 1 [[Cell.int 0],[Cell.int 0],[Cell.int 0]] 0 false]))) none)) none
abbrev fep_l0_B (k m:Nat):TB:=evC qfdb qhb (evF qfdb (k+1)) m (sub [1,1,1,1,1,1,1,0,2,3] qhb.code) none
abbrev fep_l0_K (k m:Nat):TK:=qaz 0 (seqK (evC qfdb qhb (evF qfdb (k+1)) m (sub [1,1,1,1,1,1,1,1] qhb.code) none) (retK qfdb qhb))
abbrev fep_l1_B (k m:Nat):TB:=evC qfdb qhb (evF qfdb (k+1)) m (sub [1,1,1,1,1,1,1,1,0,1,2,3] qhb.code) none
abbrev fep_l1_K (k m:Nat):TK:=qaz 2 (seqK (evC qfdb qhb (evF qfdb (k+1)) m (sub [1,1,1,1,1,1,1,1,1] qhb.code) none) (retK qfdb qhb))
theorem fep_l1_eq (k m:Nat):∀ (n:Nat) (c27 c28:Cell) (i29 i30:Int) (H31:List Entry),qby (some [2,5,6,7,10]) (fep_l1_B k m) (fep_l1_K k m) n ⟨fT 91 0 [(2,.loc 2 0),(5,.av (.one (c27))),(6,.loc 6 0),(7,.av (.one (c28))),(10,.av (.one (Cell.int i29)))],fX 91 0 [(2,[Cell.int 0,Cell.int 0,Cell.int 0,.lst true 1 [],Cell.int 0,Cell.bool false]),(6,[Cell.int 0,Cell.int 0,Cell.int 0,.lst true 1 [],Cell.int i30,Cell.bool false])],H31⟩=qwv (k+1) m n c27 c28 i29 i30 H31:=by
 intro n
 induction n with
 | zero=>intros;rfl
 | succ n ih=>intros;simp only[qwv,← ih];kernel_rfl
theorem fep_l0_eq (k m:Nat):∀ (n:Nat) (c11 c12:Cell) (i13:Int) (H14:List Entry),qby (some [2,5,6,7]) (fep_l0_B k m) (fep_l0_K k m) n ⟨fT 91 0 [(2,.loc 2 0),(5,.av (.one (c11))),(6,.loc 6 0),(7,.av (.one (c12)))],fX 91 0 [(2,[Cell.int 0,Cell.int 0,Cell.int 0,.lst true 1 [],Cell.int 0,Cell.bool false]),(6,[Cell.int 0,Cell.int 0,Cell.int 0,.lst true 1 [],Cell.int i13,Cell.bool false])],H14⟩=qajb (k+1) m n c11 c12 i13 H14:=by
 intro n
 induction n with
 | zero=>intros;rfl
 | succ n ih=>intros;simp only[qajb,← fep_l1_eq k m,← ih];kernel_rfl
theorem fep_code (k m:Nat)(s1:ByteArray):evC qfdb qhb (evF qfdb (k+1)) m qhb.code none (retK qfdb qhb) (enter qhb [.one (Cell.str s1)] [])=fep (k+1) m s1:=by
 simp only[fep,← fep_l0_eq k m]
 kernel_rfl
theorem qns {s1:ByteArray}{r:Res}(k:Nat)(h:fep (k+1) (k+1) s1=some r):qwd [.one (Cell.str s1)] []=some r:=qap (k:=k+2) (Eq.trans (Eq.trans (by kernel_rfl) (fep_code k (k+1) s1)) h)
def pl_fek:List (Nat×Run):=[]
def G_fek:Ctx:=ctx qbd qbc pl_fek
def qfq:Run:=lim G_fek qevb
theorem ok_fek:FnOk Tryz.prog OkT qevb qfq:=qal (l:=pl_fek) qae tyTab_ok qad okT .nil qevb
def fek (k m:Nat)(i1 i2 i3:Int)(c4:Cell)(i5:Int)(b6:Bool):Option Res:=some ([.agg [Cell.int 4,Cell.int i1,Cell.int i2,Cell.int i3,c4]],[])
theorem fek_code (k m:Nat)(i1 i2 i3:Int)(c4:Cell)(i5:Int)(b6:Bool):evC G_fek qirb (evF G_fek (k+1)) m qirb.code none (retK G_fek qirb) (enter qirb [.agg [Cell.int i1,Cell.int i2,Cell.int i3,c4,Cell.int i5,Cell.bool b6]] [])=fek (k+1) m i1 i2 i3 c4 i5 b6:=by
 kernel_rfl
theorem qsab {i1 i2 i3:Int}{c4:Cell}{i5:Int}{b6:Bool}{r:Res}(k:Nat)(h:fek (k+1) (k+1) i1 i2 i3 c4 i5 b6=some r):qfq [.agg [Cell.int i1,Cell.int i2,Cell.int i3,c4,Cell.int i5,Cell.bool b6]] []=some r:=qap (k:=k+2) (Eq.trans (Eq.trans (by kernel_rfl) (fek_code k (k+1) i1 i2 i3 c4 i5 b6)) h)
def pl_fei:List (Nat×Run):=[]
def G_fei:Ctx:=ctx qbd qbc pl_fei
def qed:Run:=lim G_fei qdib
theorem ok_fei:FnOk Tryz.prog OkT qdib qed:=qal (l:=pl_fei) qae tyTab_ok qad okT .nil qdib
def fei (k m:Nat)(i1 i2 i3:Int)(c4:Cell):Option Res:=some ([.agg [Cell.int 1,Cell.int i1,Cell.int i2,Cell.int i3,.lst true 1 [[Cell.str (bs [48])]]]],[])
theorem fei_code (k m:Nat)(i1 i2 i3:Int)(c4:Cell):evC G_fei qktb (evF G_fei (k+1)) m qktb.code none (retK G_fei qktb) (enter qktb [.agg [Cell.int i1,Cell.int i2,Cell.int i3,c4]] [])=fei (k+1) m i1 i2 i3 c4:=by
 kernel_rfl
theorem qnxb {i1 i2 i3:Int}{c4:Cell}{r:Res}(k:Nat)(h:fei (k+1) (k+1) i1 i2 i3 c4=some r):qed [.agg [Cell.int i1,Cell.int i2,Cell.int i3,c4]] []=some r:=qap (k:=k+2) (Eq.trans (Eq.trans (by kernel_rfl) (fei_code k (k+1) i1 i2 i3 c4)) h)
def pl_fej:List (Nat×Run):=[]
def G_fej:Ctx:=ctx qbd qbc pl_fej
def qtc:Run:=lim G_fej qfcb
theorem ok_fej:FnOk Tryz.prog OkT qfcb qtc:=qal (l:=pl_fej) qae tyTab_ok qad okT .nil qfcb
def fej (k m:Nat)(i1 i2 i3:Int)(c4:Cell)(i5:Int)(b6:Bool):Option Res:=cond (i1 != 0) (some ([.agg [Cell.int (IntKind.i64.wrap (i1+1)),Cell.int 0,Cell.int 0,.lst true 1 []]],[])) (cond (i5==1) (some ([.agg [Cell.int (IntKind.i64.wrap (i1+1)),Cell.int 0,Cell.int 0,.lst true 1 []]],[])) (cond (i2 != 0) (some ([.agg [Cell.int 0,Cell.int (IntKind.i64.wrap (i2+1)),Cell.int 0,.lst true 1 []]],[])) (cond (i5==2) (some ([.agg [Cell.int 0,Cell.int (IntKind.i64.wrap (i2+1)),Cell.int 0,.lst true 1 []]],[])) (some ([.agg [Cell.int 0,Cell.int 0,Cell.int (IntKind.i64.wrap (i3+1)),.lst true 1 []]],[])))))
theorem fej_code (k m:Nat)(i1 i2 i3:Int)(c4:Cell)(i5:Int)(b6:Bool):evC G_fej qjrb (evF G_fej (k+1)) m qjrb.code none (retK G_fej qjrb) (enter qjrb [.agg [Cell.int i1,Cell.int i2,Cell.int i3,c4,Cell.int i5,Cell.bool b6]] [])=fej (k+1) m i1 i2 i3 c4 i5 b6:=by
 kernel_rfl
theorem qsrb {i1 i2 i3:Int}{c4:Cell}{i5:Int}{b6:Bool}{r:Res}(k:Nat)(h:fej (k+1) (k+1) i1 i2 i3 c4 i5 b6=some r):qtc [.agg [Cell.int i1,Cell.int i2,Cell.int i3,c4,Cell.int i5,Cell.bool b6]] []=some r:=qap (k:=k+2) (Eq.trans (Eq.trans (by kernel_rfl) (fej_code k (k+1) i1 i2 i3 c4 i5 b6)) h)
def pl_fer:List (Nat×Run):=[]
def G_fer:Ctx:=ctx qbd qbc pl_fer
def qto:Run:=lim G_fer qgvb
theorem ok_fer:FnOk Tryz.prog OkT qgvb qto:=qal (l:=pl_fer) qae tyTab_ok qad okT .nil qgvb
def fer (k m:Nat)(i1 i2 i3:Int)(c4:Cell)(i5:Int)(b6:Bool):Option Res:=cond (i5==1) (some ([.agg [Cell.int (IntKind.i64.wrap (i1+1)),Cell.int 0,Cell.int 0,.lst true 1 []]],[])) (some ([.agg [Cell.int i1,Cell.int (IntKind.i64.wrap (i2+1)),Cell.int 0,.lst true 1 []]],[]))
theorem fer_code (k m:Nat)(i1 i2 i3:Int)(c4:Cell)(i5:Int)(b6:Bool):evC G_fer qkzb (evF G_fer (k+1)) m qkzb.code none (retK G_fer qkzb) (enter qkzb [.agg [Cell.int i1,Cell.int i2,Cell.int i3,c4,Cell.int i5,Cell.bool b6]] [])=fer (k+1) m i1 i2 i3 c4 i5 b6:=by
 kernel_rfl
theorem qogb {i1 i2 i3:Int}{c4:Cell}{i5:Int}{b6:Bool}{r:Res}(k:Nat)(h:fer (k+1) (k+1) i1 i2 i3 c4 i5 b6=some r):qto [.agg [Cell.int i1,Cell.int i2,Cell.int i3,c4,Cell.int i5,Cell.bool b6]] []=some r:=qap (k:=k+2) (Eq.trans (Eq.trans (by kernel_rfl) (fer_code k (k+1) i1 i2 i3 c4 i5 b6)) h)
def pl_feo:List (Nat×Run):=[]
def G_feo:Ctx:=ctx qbd qbc pl_feo
def qee:Run:=lim G_feo qdtb
theorem ok_feo:FnOk Tryz.prog OkT qdtb qee:=qal (l:=pl_feo) qae tyTab_ok qad okT .nil qdtb
def feo (k m:Nat)(i1 i2 i3:Int)(c4:Cell)(i5:Int)(b6:Bool):Option Res:=cond (i5==1) (some ([.agg [Cell.int (IntKind.i64.wrap (i1+1)),Cell.int 0,Cell.int 0,.lst true 1 []]],[])) (some ([.agg [Cell.int i1,Cell.int (IntKind.i64.wrap (i2+1)),Cell.int 0,.lst true 1 []]],[]))
theorem feo_code (k m:Nat)(i1 i2 i3:Int)(c4:Cell)(i5:Int)(b6:Bool):evC G_feo qkjb (evF G_feo (k+1)) m qkjb.code none (retK G_feo qkjb) (enter qkjb [.agg [Cell.int i1,Cell.int i2,Cell.int i3,c4,Cell.int i5,Cell.bool b6]] [])=feo (k+1) m i1 i2 i3 c4 i5 b6:=by
 kernel_rfl
theorem qrpb {i1 i2 i3:Int}{c4:Cell}{i5:Int}{b6:Bool}{r:Res}(k:Nat)(h:feo (k+1) (k+1) i1 i2 i3 c4 i5 b6=some r):qee [.agg [Cell.int i1,Cell.int i2,Cell.int i3,c4,Cell.int i5,Cell.bool b6]] []=some r:=qap (k:=k+2) (Eq.trans (Eq.trans (by kernel_rfl) (feo_code k (k+1) i1 i2 i3 c4 i5 b6)) h)
end
end Go.Ev
