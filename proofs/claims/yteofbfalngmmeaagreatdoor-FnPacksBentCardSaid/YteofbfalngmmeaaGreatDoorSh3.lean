/- What the evaluator says of the functions, each as a Lean function over cells. Printed by a program of this claim. Conditions: none. -/
import Derived.Test.YteofbfalngmmeaaGreatDoorSh2
import Derived.KernelRfl
namespace Go.Ev
open Go Go.Proofs
noncomputable section
set_option maxRecDepth 100000
set_option linter.unusedVariables false
set_option linter.unusedSimpArgs false
def qnrc:List (Nat×Run):=[(qcpb,qid),(qyq,qis),(qzu,qtq)]
def qwec:Ctx:=ctx qbg qbh qnrc
def qsk:Run:=lim qwec qzl
theorem ok_fbe:FnOk Tryz.prog OkT qzl qsk:=qan (l:=qnrc) qad tyTab_ok qae okT (.cons ok_fbb (.cons ok_fan (.cons ok_fao .nil))) qzl
def fbe (k m:Nat)(s1:ByteArray)(i2 i3 i4:Int)(c5:Cell)(i6:Int):Option Res:=(callL qid [.agg [Cell.int i2,Cell.int i3,Cell.int i4,c5],.one (Cell.int i6)] []).bind fun r7=>cond (qab qigc r7.1) ((cI .i64 (qaa r7.1 0) 0).bind fun i8=>(cI .i64 (qaa r7.1 0) 1).bind fun i9=>(cI .i64 (qaa r7.1 0) 2).bind fun i10=>(cC (qaa r7.1 0) 3).bind fun c11=>cond (s1.toList==(bs [62,61]).toList) (restK [Cell.int 4,Cell.int i2,Cell.int i3,Cell.int i4,c5] fun d12=>some ([.one ((.lst true 5 (chunks 5 1 d12)))],r7.2)) (cond (s1.toList==(bs [60]).toList) (restK [Cell.int 1,Cell.int i2,Cell.int i3,Cell.int i4,c5] fun d13=>some ([.one ((.lst true 5 (chunks 5 1 d13)))],r7.2)) (cond (s1.toList==(bs [62]).toList) (cond (decide (i6 < 3)) (restK [Cell.int 4,Cell.int i8,Cell.int i9,Cell.int i10,c11] fun d14=>some ([.one ((.lst true 5 (chunks 5 1 d14)))],r7.2)) (restK [Cell.int 3,Cell.int i2,Cell.int i3,Cell.int i4,c5] fun d15=>some ([.one ((.lst true 5 (chunks 5 1 d15)))],r7.2))) (cond (s1.toList==(bs [60,61]).toList) (cond (decide (i6 < 3)) ((callL qis [.agg [Cell.int i8,Cell.int i9,Cell.int i10,c11]] r7.2).bind fun r16=>cond (qab qlqb r16.1) ((cI .i64 (qaa r16.1 0) 0).bind fun i17=>(cI .i64 (qaa r16.1 0) 1).bind fun i18=>(cI .i64 (qaa r16.1 0) 2).bind fun i19=>(cI .i64 (qaa r16.1 0) 3).bind fun i20=>(cC (qaa r16.1 0) 4).bind fun c21=>restK [Cell.int i17,Cell.int i18,Cell.int i19,Cell.int i20,c21] fun d22=>some ([.one ((.lst true 5 (chunks 5 1 d22)))],r16.2)) none) (restK [Cell.int 2,Cell.int i2,Cell.int i3,Cell.int i4,c5] fun d23=>some ([.one ((.lst true 5 (chunks 5 1 d23)))],r7.2))) (cond (s1.toList==(bs [126]).toList) ((callL qid [.agg [Cell.int i2,Cell.int i3,Cell.int 0,.lst true 1 []],.one (Cell.int (if 2 < i6 then 2 else i6))] []).bind fun r24=>cond (qab qigc r24.1) ((cI .i64 (qaa r24.1 0) 0).bind fun i25=>(cI .i64 (qaa r24.1 0) 1).bind fun i26=>(cI .i64 (qaa r24.1 0) 2).bind fun i27=>(cC (qaa r24.1 0) 3).bind fun c28=>qjj r24.2 ((callL qis [.agg [Cell.int i25,Cell.int i26,Cell.int i27,c28]] []).bind fun r29=>cond (qab qlqb r29.1) ((cI .i64 (qaa r29.1 0) 0).bind fun i30=>(cI .i64 (qaa r29.1 0) 1).bind fun i31=>(cI .i64 (qaa r29.1 0) 2).bind fun i32=>(cI .i64 (qaa r29.1 0) 3).bind fun i33=>(cC (qaa r29.1 0) 4).bind fun c34=>qjj r29.2 (restK [Cell.int 4,Cell.int i2,Cell.int i3,Cell.int i4,c5,Cell.int i30,Cell.int i31,Cell.int i32,Cell.int i33,c34] fun d35=>some ([.one ((.lst true 5 (chunks 5 2 d35)))],r7.2))) none)) none) (cond (s1.toList==(bs [94]).toList) ((callL qtq [.agg [Cell.int i2,Cell.int i3,Cell.int i4,c5],.one (Cell.int i6)] []).bind fun r36=>cond (qab qpdc r36.1) ((cI .i64 (qaa r36.1 0) 0).bind fun i37=>(cI .i64 (qaa r36.1 0) 1).bind fun i38=>(cI .i64 (qaa r36.1 0) 2).bind fun i39=>(cC (qaa r36.1 0) 3).bind fun c40=>qjj r36.2 ((callL qis [.agg [Cell.int i37,Cell.int i38,Cell.int i39,c40]] []).bind fun r41=>cond (qab qlqb r41.1) ((cI .i64 (qaa r41.1 0) 0).bind fun i42=>(cI .i64 (qaa r41.1 0) 1).bind fun i43=>(cI .i64 (qaa r41.1 0) 2).bind fun i44=>(cI .i64 (qaa r41.1 0) 3).bind fun i45=>(cC (qaa r41.1 0) 4).bind fun c46=>qjj r41.2 (restK [Cell.int 4,Cell.int i2,Cell.int i3,Cell.int i4,c5,Cell.int i42,Cell.int i43,Cell.int i44,Cell.int i45,c46] fun d47=>some ([.one ((.lst true 5 (chunks 5 2 d47)))],r7.2))) none)) none) (cond (decide (i6 < 3)) ((callL qis [.agg [Cell.int i8,Cell.int i9,Cell.int i10,c11]] []).bind fun r48=>cond (qab qlqb r48.1) ((cI .i64 (qaa r48.1 0) 0).bind fun i49=>(cI .i64 (qaa r48.1 0) 1).bind fun i50=>(cI .i64 (qaa r48.1 0) 2).bind fun i51=>(cI .i64 (qaa r48.1 0) 3).bind fun i52=>(cC (qaa r48.1 0) 4).bind fun c53=>qjj r48.2 (restK [Cell.int 4,Cell.int i2,Cell.int i3,Cell.int i4,c5,Cell.int i49,Cell.int i50,Cell.int i51,Cell.int i52,c53] fun d54=>some ([.one ((.lst true 5 (chunks 5 2 d54)))],r7.2))) none) (restK [Cell.int 0,Cell.int i2,Cell.int i3,Cell.int i4,c5] fun d55=>some ([.one ((.lst true 5 (chunks 5 1 d55)))],r7.2))))))))) none
theorem qkbc (k m:Nat)(s1:ByteArray)(i2 i3 i4:Int)(c5:Cell)(i6:Int):evC qwec qgdb (evF qwec (k+1)) m qgdb.code none (retK qwec qgdb) (enter qgdb [.one (Cell.str s1),.agg [Cell.int i2,Cell.int i3,Cell.int i4,c5],.one (Cell.int i6)] [])=fbe (k+1) m s1 i2 i3 i4 c5 i6:=by
 kernel_rfl
theorem qkhb {s1:ByteArray}{i2 i3 i4:Int}{c5:Cell}{i6:Int}{r:Res}(k:Nat)(h:fbe (k+1) (k+1) s1 i2 i3 i4 c5 i6=some r):qsk [.one (Cell.str s1),.agg [Cell.int i2,Cell.int i3,Cell.int i4,c5],.one (Cell.int i6)] []=some r:=qap (k:=k+2) (Eq.trans (Eq.trans (by kernel_rfl) (qkbc k (k+1) s1 i2 i3 i4 c5 i6)) h)
def qpec:List (Nat×Run):=[(qyt,qsv),(qzz,qsr),(qzl,qsk)]
def qswb:Ctx:=ctx qbg qbh qpec
def qsa:Run:=lim qswb qzb
theorem ok_faq:FnOk Tryz.prog OkT qzb qsa:=qan (l:=qpec) qad tyTab_ok qae okT (.cons ok_fdw (.cons ok_fbc (.cons ok_fbe .nil))) qzb
def qve (k m:Nat):Nat→ByteArray→Int→Option Res | 0,_,_=>none | n+1,s2,i3=>cond (decide (i3 < 8)) (if 0≤i3∧i3 < 8 then ((cS [Cell.str (bs [94]),Cell.str (bs [126]),Cell.str (bs [62,61]),Cell.str (bs [62]),Cell.str (bs [60,61]),Cell.str (bs [60]),Cell.str (bs [61]),Cell.str (bs [])] (i3.toNat*1)).bind fun s4=>(qaw qsv [.one (Cell.str s2),.one (Cell.str s4)] []).bind fun r5=>cond (qab qojc r5) ((cS (qaa r5 0) 0).bind fun s6=>(cB (qaa r5 1) 0).bind fun b7=>cond (!b7) (qve k m n s2 (IntKind.i64.wrap (i3+1))) ((callL qsr [.one (Cell.str s6)] []).bind fun r8=>cond (qab quic r8.1) ((cI .i64 (qaa r8.1 0) 0).bind fun i9=>(cI .i64 (qaa r8.1 0) 1).bind fun i10=>(cI .i64 (qaa r8.1 0) 2).bind fun i11=>(cC (qaa r8.1 0) 3).bind fun c12=>(cI .i64 (qaa r8.1 1) 0).bind fun i13=>(cB (qaa r8.1 2) 0).bind fun b14=>cond (!b14) (some ([.one (.lst true 5 []),.one (Cell.bool false)],r8.2)) ((callL qsk [.one (Cell.str s4),.agg [Cell.int i9,Cell.int i10,Cell.int i11,c12],.one (Cell.int i13)] r8.2).bind fun r15=>cond (qab qnkc r15.1) ((cC (qaa r15.1 0) 0).bind fun c16=>some ([.one (c16),.one (Cell.bool true)],r15.2)) none)) none)) none) else none) (some ([.one (.lst true 5 []),.one (Cell.bool false)],[]))
def faq (k m:Nat)(s1:ByteArray):Option Res:=cond (s1.toList==(bs [42]).toList) (some ([.one (.lst true 5 [[Cell.int 4,Cell.int 0,Cell.int 0,Cell.int 0,.lst true 1 []]]),.one (Cell.bool true)],[])) (qve k m m s1 0)
abbrev qelc (k m:Nat):TB:=evC qswb qms (evF qswb (k+1)) m (sub [1,1,0,1,2,3] qms.code) none
abbrev qfvc (k m:Nat):TK:=qav 0 (seqK (evC qswb qms (evF qswb (k+1)) m (sub [1,1,1] qms.code) none) (retK qswb qms))
theorem qoub (k m:Nat):∀ (n:Nat) (s2:ByteArray) (i3:Int),qbo (some [0,15,16]) (qelc k m) (qfvc k m) n ⟨fT 40 0 [(0,.av (.one (Cell.str s2))),(15,.av (.agg [Cell.str (bs [94]),Cell.str (bs [126]),Cell.str (bs [62,61]),Cell.str (bs [62]),Cell.str (bs [60,61]),Cell.str (bs [60]),Cell.str (bs [61]),Cell.str (bs [])])),(16,.av (.one (Cell.int i3)))],fX 40 0 [],[]⟩=qve (k+1) m n s2 i3:=by
 intro n
 induction n with
 | zero=>intros;rfl
 | succ n ih=>intros;simp only[qve,← ih];kernel_rfl
theorem qdoc (k m:Nat)(s1:ByteArray):evC qswb qms (evF qswb (k+1)) m qms.code none (retK qswb qms) (enter qms [.one (Cell.str s1)] [])=faq (k+1) m s1:=by
 simp only[faq,← qoub k m]
 kernel_rfl
theorem qua {s1:ByteArray}{r:Res}(k:Nat)(h:faq (k+1) (k+1) s1=some r):qsa [.one (Cell.str s1)] []=some r:=qap (k:=k+2) (Eq.trans (Eq.trans (by kernel_rfl) (qdoc k (k+1) s1)) h)
def qpoc:List (Nat×Run):=[(qmv,qed),(qytb,qzx),(qqy,qgm),(qzb,qsa),(qtz,qlo)]
def qzn:Ctx:=ctx qbg qbh qpoc
def qsy:Run:=lim qzn qzc
theorem ok_fax:FnOk Tryz.prog OkT qzc qsy:=qan (l:=qpoc) qad tyTab_ok qae okT (.cons qxgb (.cons ok_fea (.cons qmlc (.cons ok_faq (.cons qmsc .nil))))) qzc
def qxd (k m:Nat):Nat→Cell→Cell→Int→Int→List Entry→Option Res | 0,_,_,_,_,_=>none | n+1,c43,c44,i45,i46,H47=>cond (decide (i46 < i45)) ((idxA 5 (c44) i46).bind fun c48=>(deref H47 (c48)).bind fun p49=>(cI .i64 p49.1 p49.2).bind fun i50=>(cI .i64 p49.1 (p49.2+1)).bind fun i51=>(cI .i64 p49.1 ((p49.2+1)+1)).bind fun i52=>(cI .i64 p49.1 (((p49.2+1)+1)+1)).bind fun i53=>(cC p49.1 ((((p49.2+1)+1)+1)+1)).bind fun c54=>(qaw qlo [.agg [Cell.int i51,Cell.int i52,Cell.int i53,c54]] H47).bind fun r55=>cond (qab qgvc r55) ((cB (qaa r55 0) 0).bind fun b56=>cond (!b56) (some ([.one (.lst true 5 []),.one (Cell.bool false)],H47)) (qxd k m n (c43) (c44) i45 (IntKind.i64.wrap (i46+1)) H47)) none) ((lenC c43).bind fun n57=>some ([.one (c43),.one (Cell.bool (decide ((n57:Int)≤4)))],H47))
def qqo (k m:Nat):Nat→Cell→Cell→Int→Int→List Entry→Option Res | 0,_,_,_,_,_=>none | n+1,c29,c30,i31,i32,H33=>cond (decide (i32 < i31)) ((idxA 1 (c30) i32).bind fun c34=>(deref H33 (c34)).bind fun p35=>(cS p35.1 p35.2).bind fun s36=>(callL qsa [.one (Cell.str s36)] H33).bind fun r37=>cond (qab qonc r37.1) ((cC (qaa r37.1 0) 0).bind fun c38=>(cB (qaa r37.1 1) 0).bind fun b39=>cond (!b39) (some ([.one (.lst true 5 []),.one (Cell.bool false)],r37.2)) ((qal r37.2 5 c38).bind fun r40=>(app r37.2 5 56 (c29) r40).bind fun p41=>qqo k m n (p41.1) (c30) i31 (IntKind.i64.wrap (i32+1)) p41.2)) none) ((lenC c29).bind fun n42=>qxd k m m (c29) (c29) (n42:Int) 0 H33)
def fax (k m:Nat)(s1:ByteArray):Option Res:=(qaw qzx [.one (Cell.str s1),.one (Cell.str (bs [32]))] []).bind fun r2=>cond (qab qtuc r2) ((cS (qaa r2 0) 0).bind fun s3=>(qgu qed [.one (Cell.str s3),.one (Cell.str (bs [32]))] []).bind fun r4=>cond (qab qdcb r4.1) ((cC (qaa r4.1 0) 0).bind fun c5=>(lenC c5).bind fun n6=>cond ((n6:Int)==3) ((idxA 1 (c5) 1).bind fun c7=>(deref r4.2 (c7)).bind fun p8=>(cS p8.1 p8.2).bind fun s9=>cond (s9.toList==(bs [45]).toList) ((idxA 1 (c5) 0).bind fun c10=>(deref r4.2 (c10)).bind fun p11=>(cS p11.1 p11.2).bind fun s12=>(qgu qgm [.one (Cell.str s12)] r4.2).bind fun r13=>cond (qab qwhb r13.1) ((cI .i64 (qaa r13.1 0) 0).bind fun i14=>(cI .i64 (qaa r13.1 0) 1).bind fun i15=>(cI .i64 (qaa r13.1 0) 2).bind fun i16=>(cC (qaa r13.1 0) 3).bind fun c17=>(cB (qaa r13.1 1) 0).bind fun b18=>(idxA 1 (c5) 2).bind fun c19=>(deref r13.2 (c19)).bind fun p20=>(cS p20.1 p20.2).bind fun s21=>(qgu qgm [.one (Cell.str s21)] r13.2).bind fun r22=>cond (qab qwhb r22.1) ((cI .i64 (qaa r22.1 0) 0).bind fun i23=>(cI .i64 (qaa r22.1 0) 1).bind fun i24=>(cI .i64 (qaa r22.1 0) 2).bind fun i25=>(cC (qaa r22.1 0) 3).bind fun c26=>(cB (qaa r22.1 1) 0).bind fun b27=>cond b18 (some ([.one ((.vs r22.2.length 5 0 2 0)),.one (Cell.bool b27)],(r22.2++[Entry.mk 5 [[Cell.int 4,Cell.int i14,Cell.int i15,Cell.int i16,c17],[Cell.int 2,Cell.int i23,Cell.int i24,Cell.int i25,c26]] 0 false]))) (some ([.one ((.vs r22.2.length 5 0 2 0)),.one (Cell.bool false)],(r22.2++[Entry.mk 5 [[Cell.int 4,Cell.int i14,Cell.int i15,Cell.int i16,c17],[Cell.int 2,Cell.int i23,Cell.int i24,Cell.int i25,c26]] 0 false])))) none) none) ((lenC c5).bind fun n28=>qqo k m m (.lst true 5 []) (c5) (n28:Int) 0 r4.2)) ((lenC c5).bind fun n58=>qqo k m m (.lst true 5 []) (c5) (n58:Int) 0 r4.2)) none) none
abbrev qzeb (k m:Nat):TB:=evC qzn qgf (evF qzn (k+1)) m (sub [1,1,1,1,0,1,2,3] qgf.code) none
abbrev qjgc (k m:Nat):TK:=qav 0 (seqK (evC qzn qgf (evF qzn (k+1)) m (sub [1,1,1,1,1] qgf.code) none) (retK qzn qgf))
abbrev qeuc (k m:Nat):TB:=evC qzn qgf (evF qzn (k+1)) m (sub [1,1,1,1,1,0,1,2,3] qgf.code) none
abbrev qbcc (k m:Nat):TK:=qav 2 (seqK (evC qzn qgf (evF qzn (k+1)) m (sub [1,1,1,1,1,1] qgf.code) none) (retK qzn qgf))
theorem qpub (k m:Nat):∀ (n:Nat) (c43 c44:Cell) (i45 i46:Int) (H47:List Entry),qbo (some [9,68,69,70]) (qeuc k m) (qbcc k m) n ⟨fT 83 0 [(9,.av (.one (c43))),(68,.av (.one (c44))),(69,.av (.one (Cell.int i45))),(70,.av (.one (Cell.int i46)))],fX 83 0 [],H47⟩=qxd (k+1) m n c43 c44 i45 i46 H47:=by
 intro n
 induction n with
 | zero=>intros;rfl
 | succ n ih=>intros;simp only[qxd,← ih];kernel_rfl
theorem qvwb (k m:Nat):∀ (n:Nat) (c29 c30:Cell) (i31 i32:Int) (H33:List Entry),qbo (some [9,51,52,53]) (qzeb k m) (qjgc k m) n ⟨fT 83 0 [(9,.av (.one (c29))),(51,.av (.one (c30))),(52,.av (.one (Cell.int i31))),(53,.av (.one (Cell.int i32)))],fX 83 0 [],H33⟩=qqo (k+1) m n c29 c30 i31 i32 H33:=by
 intro n
 induction n with
 | zero=>intros;rfl
 | succ n ih=>intros;simp only[qqo,← qpub k m,← ih];kernel_rfl
theorem qaoc (k m:Nat)(s1:ByteArray):evC qzn qgf (evF qzn (k+1)) m qgf.code none (retK qzn qgf) (enter qgf [.one (Cell.str s1)] [])=fax (k+1) m s1:=by
 simp only[fax,← qvwb k m]
 kernel_rfl
theorem quc {s1:ByteArray}{r:Res}(k:Nat)(h:fax (k+1) (k+1) s1=some r):qsy [.one (Cell.str s1)] []=some r:=qap (k:=k+2) (Eq.trans (Eq.trans (by kernel_rfl) (qaoc k (k+1) s1)) h)
def qnxc:List (Nat×Run):=[(qmv,qed),(qzc,qsy)]
def qqmb:Ctx:=ctx qbg qbh qnxc
def qto:Run:=lim qqmb qbhb
theorem ok_fah:FnOk Tryz.prog OkT qbhb qto:=qan (l:=qnxc) qad tyTab_ok qae okT (.cons qxgb (.cons ok_fax .nil)) qbhb
def qwo (k m:Nat):Nat→Cell→Cell→Int→Int→List Entry→Option Res | 0,_,_,_,_,_=>none | n+1,c6,c7,i8,i9,H10=>cond (decide (i9 < i8)) ((idxA 1 (c7) i9).bind fun c11=>(deref H10 (c11)).bind fun p12=>(cS p12.1 p12.2).bind fun s13=>(callL qsy [.one (Cell.str s13)] H10).bind fun r14=>cond (qab qnac r14.1) ((cC (qaa r14.1 0) 0).bind fun c15=>(cB (qaa r14.1 1) 0).bind fun b16=>cond (!b16) (some ([.one (.lst true 1 []),.one (Cell.bool false)],r14.2)) (restK [c15] fun d17=>(qal r14.2 1 (.lst true 1 (chunks 1 1 d17))).bind fun r18=>(app r14.2 1 24 (c6) r18).bind fun p19=>qwo k m n (p19.1) (c7) i8 (IntKind.i64.wrap (i9+1)) p19.2)) none) (some ([.one (c6),.one (Cell.bool true)],H10))
def fah (k m:Nat)(s1:ByteArray):Option Res:=(qgu qed [.one (Cell.str s1),.one (Cell.str (bs [124,124]))] []).bind fun r2=>cond (qab qdcb r2.1) ((cC (qaa r2.1 0) 0).bind fun c3=>(lenC c3).bind fun n4=>cond (decide ((n4:Int) > 4)) (some ([.one (.lst true 1 []),.one (Cell.bool false)],r2.2)) ((lenC c3).bind fun n5=>qwo k m m (.lst true 1 []) (c3) (n5:Int) 0 r2.2)) none
abbrev qcrc (k m:Nat):TB:=evC qqmb qmf (evF qqmb (k+1)) m (sub [1,1,1,1,0,1,2,3] qmf.code) none
abbrev qcjc (k m:Nat):TK:=qav 0 (seqK (evC qqmb qmf (evF qqmb (k+1)) m (sub [1,1,1,1,1] qmf.code) none) (retK qqmb qmf))
theorem qnnb (k m:Nat):∀ (n:Nat) (c6 c7:Cell) (i8 i9:Int) (H10:List Entry),qbo (some [5,15,16,17]) (qcrc k m) (qcjc k m) n ⟨fT 34 0 [(5,.av (.one (c6))),(15,.av (.one (c7))),(16,.av (.one (Cell.int i8))),(17,.av (.one (Cell.int i9)))],fX 34 0 [],H10⟩=qwo (k+1) m n c6 c7 i8 i9 H10:=by
 intro n
 induction n with
 | zero=>intros;rfl
 | succ n ih=>intros;simp only[qwo,← ih];kernel_rfl
theorem qauc (k m:Nat)(s1:ByteArray):evC qqmb qmf (evF qqmb (k+1)) m qmf.code none (retK qqmb qmf) (enter qmf [.one (Cell.str s1)] [])=fah (k+1) m s1:=by
 simp only[fah,← qnnb k m]
 kernel_rfl
theorem qrk {s1:ByteArray}{r:Res}(k:Nat)(h:fah (k+1) (k+1) s1=some r):qto [.one (Cell.str s1)] []=some r:=qap (k:=k+2) (Eq.trans (Eq.trans (by kernel_rfl) (qauc k (k+1) s1)) h)
def qmpc:List (Nat×Run):=[(qmc,qfc),(qbhb,qto)]
def qwkc:Ctx:=ctx qbg qbh qmpc
def qry:Run:=lim qwkc qyu
theorem ok_faz:FnOk Tryz.prog OkT qyu qry:=qan (l:=qmpc) qad tyTab_ok qae okT (.cons qwmb (.cons ok_fah .nil)) qyu
def faz (k m:Nat)(s1 s2:ByteArray):Option Res:=(callL qto [.one (Cell.str s2)] []).bind fun r3=>cond (qab qrvc r3.1) ((cC (qaa r3.1 0) 0).bind fun c4=>(cB (qaa r3.1 1) 0).bind fun b5=>cond b5 ((qaw qfc [.one (Cell.str s1)] r3.2).bind fun r6=>cond (qab qkmb r6) ((cB (qaa r6 0) 0).bind fun b7=>cond b7 (some ([.one (Cell.bool (decide ((s2.size:Int)≤20)))],r3.2)) (some ([.one (Cell.bool false)],r3.2))) none) (some ([.one (Cell.bool false)],r3.2))) none
theorem qexc (k m:Nat)(s1 s2:ByteArray):evC qwkc qfmb (evF qwkc (k+1)) m qfmb.code none (retK qwkc qfmb) (enter qfmb [.agg [Cell.str s1,Cell.str s2]] [])=faz (k+1) m s1 s2:=by
 kernel_rfl
theorem qmbb {s1 s2:ByteArray}{r:Res}(k:Nat)(h:faz (k+1) (k+1) s1 s2=some r):qry [.agg [Cell.str s1,Cell.str s2]] []=some r:=qap (k:=k+2) (Eq.trans (Eq.trans (by kernel_rfl) (qexc k (k+1) s1 s2)) h)
def qowc:List (Nat×Run):=[(qyu,qry)]
def qrhb:Ctx:=ctx qbg qbh qowc
def qrq:Run:=lim qrhb qblb
theorem ok_fba:FnOk Tryz.prog OkT qblb qrq:=qan (l:=qowc) qad tyTab_ok qae okT (.cons ok_faz .nil) qblb
def qqt (k m:Nat):Nat→Cell→Cell→Int→Int→Option Res | 0,_,_,_,_=>none | n+1,c3,c4,i5,i6=>cond (decide (i6 < i5)) ((idxA 2 (c4) i6).bind fun c7=>(deref [] (c7)).bind fun p8=>(cS p8.1 p8.2).bind fun s9=>(cS p8.1 (p8.2+1)).bind fun s10=>(qaw qry [.agg [Cell.str s9,Cell.str s10]] []).bind fun r11=>cond (qab qnmc r11) ((cB (qaa r11 0) 0).bind fun b12=>cond (!b12) (some ([.one (Cell.bool false)],[])) (cond (decide (i6 > 0)) ((idxA 2 (c3) (IntKind.i64.wrap (i6 - 1))).bind fun c13=>(fldA c13 0).bind fun c14=>(deref [] (c14)).bind fun p15=>(cS p15.1 p15.2).bind fun s16=>cond (Op.bytesLess s9.toList s16.toList||s9.toList==s16.toList) (some ([.one (Cell.bool false)],[])) (qqt k m n (c3) (c4) i5 (IntKind.i64.wrap (i6+1)))) (qqt k m n (c3) (c4) i5 (IntKind.i64.wrap (i6+1))))) none) ((lenC c3).bind fun n17=>some ([.one (Cell.bool (decide ((n17:Int)≤4)))],[]))
def fba (k m:Nat)(c1:Cell):Option Res:=(lenC c1).bind fun n2=>qqt k m m (c1) (c1) (n2:Int) 0
abbrev qesc (k m:Nat):TB:=evC qrhb qkx (evF qrhb (k+1)) m (sub [1,0,1,2,3] qkx.code) none
abbrev qzqb (k m:Nat):TK:=qav 0 (seqK (evC qrhb qkx (evF qrhb (k+1)) m (sub [1,1] qkx.code) none) (retK qrhb qkx))
theorem qqfb (k m:Nat):∀ (n:Nat) (c3 c4:Cell) (i5 i6:Int),qbo (some [0,5,6,7]) (qesc k m) (qzqb k m) n ⟨fT 34 0 [(0,.av (.one (c3))),(5,.av (.one (c4))),(6,.av (.one (Cell.int i5))),(7,.av (.one (Cell.int i6)))],fX 34 0 [],[]⟩=qqt (k+1) m n c3 c4 i5 i6:=by
 intro n
 induction n with
 | zero=>intros;rfl
 | succ n ih=>intros;simp only[qqt,← ih];kernel_rfl
theorem qklc (k m:Nat)(c1:Cell):evC qrhb qkx (evF qrhb (k+1)) m qkx.code none (retK qrhb qkx) (enter qkx [.one (c1)] [])=fba (k+1) m c1:=by
 simp only[fba,← qqfb k m]
 kernel_rfl
theorem qgtb {c1:Cell}{r:Res}(k:Nat)(h:fba (k+1) (k+1) c1=some r):qrq [.one (c1)] []=some r:=qap (k:=k+2) (Eq.trans (Eq.trans (by kernel_rfl) (qklc k (k+1) c1)) h)
def qtkc:List (Nat×Run):=[(qatb,qvi),(qmc,qfc),(qbdb,qof),(qaub,qsx),(qblb,qrq)]
def quob:Ctx:=ctx qbg qbh qtkc
def qkr:Run:=lim quob qrc
theorem qryc:FnOk Tryz.prog OkT qrc qkr:=qan (l:=qtkc) qad tyTab_ok qae okT (.cons ok_fap (.cons qwmb (.cons ok_fay (.cons ok_fas (.cons ok_fba .nil))))) qrc
def qvm (k m:Nat):Nat→Cell→Int→Int→ByteArray→Cell→Cell→Cell→Option Res | 0,_,_,_,_,_,_,_=>none | n+1,c6,i7,i8,s9,c10,c11,c12=>cond (decide (i8 < i7)) ((idxA 2 (c6) i8).bind fun c13=>(deref [] (c13)).bind fun p14=>(cS p14.1 p14.2).bind fun s15=>(cC p14.1 (p14.2+1)).bind fun c16=>(qaw qvi [.agg [Cell.str s15,c16]] []).bind fun r17=>cond (qab qqlc r17) ((cB (qaa r17 0) 0).bind fun b18=>cond (!b18) (some ([.one (Cell.bool false)],[])) (cond (decide (i8 > 0)) ((idxA 2 (c12) (IntKind.i64.wrap (i8 - 1))).bind fun c19=>(fldA c19 0).bind fun c20=>(deref [] (c20)).bind fun p21=>(cS p21.1 p21.2).bind fun s22=>cond (Op.bytesLess s15.toList s22.toList||s15.toList==s22.toList) (some ([.one (Cell.bool false)],[])) (qvm k m n (c6) i7 (IntKind.i64.wrap (i8+1)) s9 (c10) (c11) (c12))) (qvm k m n (c6) i7 (IntKind.i64.wrap (i8+1)) s9 (c10) (c11) (c12)))) none) ((qaw qfc [.one (Cell.str s9)] []).bind fun r23=>cond (qab qkmb r23) ((cB (qaa r23 0) 0).bind fun b24=>cond b24 ((qaw qof [.one (c10),.one (Cell.int 4)] []).bind fun r25=>cond (qab qnnc r25) ((cB (qaa r25 0) 0).bind fun b26=>cond b26 ((qaw qsx [.one (c10)] []).bind fun r27=>cond (qab qmoc r27) ((cB (qaa r27 0) 0).bind fun b28=>cond b28 ((qaw qrq [.one (c11)] []).bind fun r29=>cond (qab qomc r29) ((cB (qaa r29 0) 0).bind fun b30=>cond b30 ((lenC c12).bind fun n31=>some ([.one (Cell.bool (decide ((n31:Int)≤4)))],[])) (some ([.one (Cell.bool false)],[]))) none) (some ([.one (Cell.bool false)],[]))) none) (some ([.one (Cell.bool false)],[]))) none) (some ([.one (Cell.bool false)],[]))) none)
def fae (k m:Nat)(s1:ByteArray)(c2 c3 c4:Cell):Option Res:=(lenC c4).bind fun n5=>qvm k m m (c4) (n5:Int) 0 s1 (c2) (c3) (c4)
abbrev qixc (k m:Nat):TB:=evC quob qky (evF quob (k+1)) m (sub [1,0,1,2,3] qky.code) none
abbrev qawc (k m:Nat):TK:=qav 0 (seqK (evC quob qky (evF quob (k+1)) m (sub [1,1] qky.code) none) (retK quob qky))
theorem qrtb (k m:Nat):∀ (n:Nat) (c6:Cell) (i7 i8:Int) (s9:ByteArray) (c10 c11 c12:Cell),qbo (some [1,6,7,8]) (qixc k m) (qawc k m) n ⟨fT 57 0 [(1,.loc 1 0),(6,.av (.one (c6))),(7,.av (.one (Cell.int i7))),(8,.av (.one (Cell.int i8)))],fX 57 0 [(1,[Cell.str s9,c10,c11,c12])],[]⟩=qvm (k+1) m n c6 i7 i8 s9 c10 c11 c12:=by
 intro n
 induction n with
 | zero=>intros;rfl
 | succ n ih=>intros;simp only[qvm,← ih];kernel_rfl
theorem qgpc (k m:Nat)(s1:ByteArray)(c2 c3 c4:Cell):evC quob qky (evF quob (k+1)) m qky.code none (retK quob qky) (enter qky [.agg [Cell.str s1,c2,c3,c4]] [])=fae (k+1) m s1 c2 c3 c4:=by
 simp only[fae,← qrtb k m]
 kernel_rfl
theorem qmgb {s1:ByteArray}{c2 c3 c4:Cell}{r:Res}(k:Nat)(h:fae (k+1) (k+1) s1 c2 c3 c4=some r):qkr [.agg [Cell.str s1,c2,c3,c4]] []=some r:=qap (k:=k+2) (Eq.trans (Eq.trans (by kernel_rfl) (qgpc k (k+1) s1 c2 c3 c4)) h)
def qscc:List (Nat×Run):=[(qvv,qjx),(qrc,qkr)]
def qelb:Ctx:=ctx qbg qbh qscc
def qvk:Run:=lim qelb qyw
theorem ok_faf:FnOk Tryz.prog OkT qyw qvk:=qan (l:=qscc) qad tyTab_ok qae okT (.cons qmyc (.cons qryc .nil)) qyw
def qpt (k m:Nat)(b_l0:Cell→Cell→Int→Int→Option Res):Nat→Cell→Cell→Int→Int→Cell→Int→Int→ByteArray→Cell→Cell→Cell→Option Res | 0,_,_,_,_,_,_,_,_,_,_,_=>none | n+1,c20,c21,i22,i23,c24,i25,i26,s27,c28,c29,c30=>cond (decide (i26 < i25)) ((idxA 1 (c24) i26).bind fun c31=>(deref [] (c31)).bind fun p32=>(cS p32.1 p32.2).bind fun s33=>cond (s33.toList==s27.toList) (some ([.one (Cell.bool false)],[])) ((qaw qjx [.one (c20),.one (Cell.str s33)] []).bind fun r34=>cond (qab qhsc r34) ((cI .i64 (qaa r34 0) 0).bind fun i35=>cond (decide (i35 < 0)) (some ([.one (Cell.bool false)],[])) (qpt k m b_l0 n (c20) (c21) i22 i23 (c24) i25 (IntKind.i64.wrap (i26+1)) s27 (c28) (c29) (c30))) none)) (b_l0 (c20) (c21) i22 (IntKind.i64.wrap (i23+1)))
def qvp (k m:Nat):Nat→Cell→Cell→Int→Int→Option Res | 0,_,_,_,_=>none | n+1,c3,c4,i5,i6=>cond (decide (i6 < i5)) ((idxA 4 (c4) i6).bind fun c7=>(deref [] (c7)).bind fun p8=>(cS p8.1 p8.2).bind fun s9=>(cC p8.1 (p8.2+1)).bind fun c10=>(cC p8.1 ((p8.2+1)+1)).bind fun c11=>(cC p8.1 (((p8.2+1)+1)+1)).bind fun c12=>(qaw qkr [.agg [Cell.str s9,c10,c11,c12]] []).bind fun r13=>cond (qab qiic r13) ((cB (qaa r13 0) 0).bind fun b14=>cond (!b14) (some ([.one (Cell.bool false)],[])) (cond (decide (i6 > 0)) ((idxA 4 (c3) (IntKind.i64.wrap (i6 - 1))).bind fun c15=>(fldA c15 0).bind fun c16=>(deref [] (c16)).bind fun p17=>(cS p17.1 p17.2).bind fun s18=>cond (Op.bytesLess s9.toList s18.toList||s9.toList==s18.toList) (some ([.one (Cell.bool false)],[])) ((lenC c10).bind fun n19=>qpt k m (qvp k m n) m (c3) (c4) i5 i6 (c10) (n19:Int) 0 s9 (c10) (c11) (c12))) ((lenC c10).bind fun n36=>qpt k m (qvp k m n) m (c3) (c4) i5 i6 (c10) (n36:Int) 0 s9 (c10) (c11) (c12)))) none) ((lenC c3).bind fun n37=>some ([.one (Cell.bool (decide ((n37:Int)≤6)))],[]))
def faf (k m:Nat)(c1:Cell):Option Res:=(lenC c1).bind fun n2=>qvp k m m (c1) (c1) (n2:Int) 0
abbrev qwh (k m:Nat):TB:=evC qelb qhf (evF qelb (k+1)) m (sub [1,0,1,2,3] qhf.code) none
abbrev qpr (k m:Nat):TK:=qav 0 (seqK (evC qelb qhf (evF qelb (k+1)) m (sub [1,1] qhf.code) none) (retK qelb qhf))
abbrev qipc (k m:Nat):TB:=evC qelb qhf (evF qelb (k+1)) m (sub [1,0,1,2,3,1,1,0,2,1,1,1,2,3] qhf.code) none
abbrev qduc (k m:Nat)(n_l0:Nat):TK:=qav 2 (qav 1 (seqK (evC qelb qhf (evF qelb (k+1)) m (sub [1,0,1,2,3,1,1,1] qhf.code) none) (qktc (fun s=>qbo (some [0,7,8,9]) (qwh k m) (qpr k m) n_l0 (qvy (some [0,7,8,9]) s)) (qpr k m))))
theorem qrqb (k m:Nat)(b_l0:Cell→Cell→Int→Int→Option Res)(n_l0:Nat)(h_l0:∀ (c3 c4:Cell) (i5 i6:Int),qbo (some [0,7,8,9]) (qwh k m) (qpr k m) n_l0 ⟨fT 54 0 [(0,.av (.one (c3))),(7,.av (.one (c4))),(8,.av (.one (Cell.int i5))),(9,.av (.one (Cell.int i6)))],fX 54 0 [],[]⟩=b_l0 c3 c4 i5 i6):∀ (n:Nat) (c20 c21:Cell) (i22 i23:Int) (c24:Cell) (i25 i26:Int) (s27:ByteArray) (c28 c29 c30:Cell),qbo (some [0,4,7,8,9,33,34,35]) (qipc k m) (qduc k m n_l0) n ⟨fT 54 0 [(0,.av (.one (c20))),(4,.loc 4 0),(7,.av (.one (c21))),(8,.av (.one (Cell.int i22))),(9,.av (.one (Cell.int i23))),(33,.av (.one (c24))),(34,.av (.one (Cell.int i25))),(35,.av (.one (Cell.int i26)))],fX 54 0 [(4,[Cell.str s27,c28,c29,c30])],[]⟩=qpt (k+1) m b_l0 n c20 c21 i22 i23 c24 i25 i26 s27 c28 c29 c30:=by
 intro n
 induction n with
 | zero=>intros;rfl
 | succ n ih=>intros;simp only[qpt,← h_l0,← ih];kernel_rfl
theorem qobb (k m:Nat):∀ (n:Nat) (c3 c4:Cell) (i5 i6:Int),qbo (some [0,7,8,9]) (qwh k m) (qpr k m) n ⟨fT 54 0 [(0,.av (.one (c3))),(7,.av (.one (c4))),(8,.av (.one (Cell.int i5))),(9,.av (.one (Cell.int i6)))],fX 54 0 [],[]⟩=qvp (k+1) m n c3 c4 i5 i6:=by
 intro n
 induction n with
 | zero=>intros;rfl
 | succ n ih=>intros;simp only[qvp,← qrqb k m _ _ (ih)];kernel_rfl
theorem qhxc (k m:Nat)(c1:Cell):evC qelb qhf (evF qelb (k+1)) m qhf.code none (retK qelb qhf) (enter qhf [.one (c1)] [])=faf (k+1) m c1:=by
 simp only[faf,← qobb k m]
 kernel_rfl
theorem qhob {c1:Cell}{r:Res}(k:Nat)(h:faf (k+1) (k+1) c1=some r):qvk [.one (c1)] []=some r:=qap (k:=k+2) (Eq.trans (Eq.trans (by kernel_rfl) (qhxc k (k+1) c1)) h)
def qtwc:List (Nat×Run):=[]
def qorb:Ctx:=ctx qbg qbh qtwc
def qki:Run:=lim qorb qqv
theorem qmjc:FnOk Tryz.prog OkT qqv qki:=qan (l:=qtwc) qad tyTab_ok qae okT .nil qqv
def qxj (k m:Nat):Nat→Cell→ByteArray→Int→Option Res | 0,_,_,_=>none | n+1,c3,s4,i5=>(lenC c3).bind fun n6=>cond (decide (i5 < (n6:Int))) ((idxA 4 (c3) i5).bind fun c7=>(fldA c7 0).bind fun c8=>(deref [] (c8)).bind fun p9=>(cS p9.1 p9.2).bind fun s10=>cond (s10.toList==s4.toList) (some ([.one (Cell.int i5)],[])) (qxj k m n (c3) s4 (IntKind.i64.wrap (i5+1)))) (some ([.one (Cell.int (-1))],[]))
def fbv (k m:Nat)(c1:Cell)(s2:ByteArray):Option Res:=qxj k m m (c1) s2 0
abbrev qgic (k m:Nat):TB:=evC qorb qln (evF qorb (k+1)) m (sub [1,0,1,2,3] qln.code) none
abbrev qkhc (k m:Nat):TK:=qav 0 (seqK (evC qorb qln (evF qorb (k+1)) m (sub [1,1] qln.code) none) (retK qorb qln))
theorem queb (k m:Nat):∀ (n:Nat) (c3:Cell) (s4:ByteArray) (i5:Int),qbo (some [0,1,5]) (qgic k m) (qkhc k m) n ⟨fT 20 0 [(0,.av (.one (c3))),(1,.av (.one (Cell.str s4))),(5,.av (.one (Cell.int i5)))],fX 20 0 [],[]⟩=qxj (k+1) m n c3 s4 i5:=by
 intro n
 induction n with
 | zero=>intros;rfl
 | succ n ih=>intros;simp only[qxj,← ih];kernel_rfl
theorem qgjc (k m:Nat)(c1:Cell)(s2:ByteArray):evC qorb qln (evF qorb (k+1)) m qln.code none (retK qorb qln) (enter qln [.one (c1),.one (Cell.str s2)] [])=fbv (k+1) m c1 s2:=by
 simp only[fbv,← queb k m]
 kernel_rfl
theorem qgsb {c1:Cell}{s2:ByteArray}{r:Res}(k:Nat)(h:fbv (k+1) (k+1) c1 s2=some r):qki [.one (c1),.one (Cell.str s2)] []=some r:=qap (k:=k+2) (Eq.trans (Eq.trans (by kernel_rfl) (qgjc k (k+1) c1 s2)) h)
def qugc:List (Nat×Run):=[]
def qvac:Ctx:=ctx qbg qbh qugc
def qbp:Run:=lim qvac qeq
theorem qpv:FnOk Tryz.prog OkT qeq qbp:=qan (l:=qugc) qad tyTab_ok qae okT .nil qeq
def fck (k m:Nat)(i1 i2 i3:Int):Option Res:=cond (decide (i1≥i2)) (some ([.one (Cell.bool (decide (i1≤i3)))],[])) (some ([.one (Cell.bool false)],[]))
theorem qzrb (k m:Nat)(i1 i2 i3:Int):evC qvac qdab (evF qvac (k+1)) m qdab.code none (retK qvac qdab) (enter qdab [.one (Cell.int i1),.one (Cell.int i2),.one (Cell.int i3)] [])=fck (k+1) m i1 i2 i3:=by
 kernel_rfl
theorem qjhb {i1 i2 i3:Int}{r:Res}(k:Nat)(h:fck (k+1) (k+1) i1 i2 i3=some r):qbp [.one (Cell.int i1),.one (Cell.int i2),.one (Cell.int i3)] []=some r:=qap (k:=k+2) (Eq.trans (Eq.trans (by kernel_rfl) (qzrb k (k+1) i1 i2 i3)) h)
def qsmc:List (Nat×Run):=[(qeq,qbp)]
def qwzc:Ctx:=ctx qbg qbh qsmc
def qme:Run:=lim qwzc qtu
theorem qqvc:FnOk Tryz.prog OkT qtu qme:=qan (l:=qsmc) qad tyTab_ok qae okT (.cons qpv .nil) qtu
def fco (k m:Nat)(i1:Int):Option Res:=(qaw qbp [.one (Cell.int (IntKind.i64.wrap i1)),.one (Cell.int 97),.one (Cell.int 122)] []).bind fun r2=>cond (qab qgq r2) ((cB (qaa r2 0) 0).bind fun b3=>some ([.one (Cell.bool b3)],[])) none
theorem qgzc (k m:Nat)(i1:Int):evC qwzc qdpb (evF qwzc (k+1)) m qdpb.code none (retK qwzc qdpb) (enter qdpb [.one (.sc (.int .u8 i1))] [])=fco (k+1) m i1:=by
 kernel_rfl
theorem qmzb {i1:Int}{r:Res}(k:Nat)(h:fco (k+1) (k+1) i1=some r):qme [.one (.sc (.int .u8 i1))] []=some r:=qap (k:=k+2) (Eq.trans (Eq.trans (by kernel_rfl) (qgzc k (k+1) i1)) h)
def qqec:List (Nat×Run):=[(qeq,qbp)]
def qwic:Ctx:=ctx qbg qbh qqec
def qfa:Run:=lim qwic qlt
theorem quyb:FnOk Tryz.prog OkT qlt qfa:=qan (l:=qqec) qad tyTab_ok qae okT (.cons qpv .nil) qlt
def fcj (k m:Nat)(i1:Int):Option Res:=(qaw qbp [.one (Cell.int (IntKind.i64.wrap i1)),.one (Cell.int 48),.one (Cell.int 57)] []).bind fun r2=>cond (qab qgq r2) ((cB (qaa r2 0) 0).bind fun b3=>some ([.one (Cell.bool b3)],[])) none
theorem qzcb (k m:Nat)(i1:Int):evC qwic qezb (evF qwic (k+1)) m qezb.code none (retK qwic qezb) (enter qezb [.one (.sc (.int .u8 i1))] [])=fcj (k+1) m i1:=by
 kernel_rfl
theorem qiwb {i1:Int}{r:Res}(k:Nat)(h:fcj (k+1) (k+1) i1=some r):qfa [.one (.sc (.int .u8 i1))] []=some r:=qap (k:=k+2) (Eq.trans (Eq.trans (by kernel_rfl) (qzcb k (k+1) i1)) h)
def qqxc:List (Nat×Run):=[(qtu,qme),(qlt,qfa),(qeq,qbp)]
def qspb:Ctx:=ctx qbg qbh qqxc
def qeu:Run:=lim qspb qkp
theorem qnfb:FnOk Tryz.prog OkT qkp qeu:=qan (l:=qqxc) qad tyTab_ok qae okT (.cons qqvc (.cons quyb (.cons qpv .nil))) qkp
def qpk (k m:Nat):Nat→ByteArray→Int→Option Res | 0,_,_=>none | n+1,s2,i3=>cond (decide (i3 < (s2.size:Int))) ((bytS s2 i3).bind fun i4=>(qaw qme [.one (.sc (.int .u8 i4))] []).bind fun r5=>cond (qab qhtc r5) ((cB (qaa r5 0) 0).bind fun b6=>cond (!b6) (cond (i3==0) (some ([.one (Cell.bool false)],[])) ((bytS s2 i3).bind fun i7=>(qaw qfa [.one (.sc (.int .u8 i7))] []).bind fun r8=>cond (qab qkqb r8) ((cB (qaa r8 0) 0).bind fun b9=>cond (!b9) ((bytS s2 i3).bind fun i10=>cond (i10 != 45) (some ([.one (Cell.bool false)],[])) (qpk k m n s2 (IntKind.i64.wrap (i3+1)))) (qpk k m n s2 (IntKind.i64.wrap (i3+1)))) none)) (qpk k m n s2 (IntKind.i64.wrap (i3+1)))) none) ((qaw qbp [.one (Cell.int (s2.size:Int)),.one (Cell.int 1),.one (Cell.int 10)] []).bind fun r11=>cond (qab qgq r11) ((cB (qaa r11 0) 0).bind fun b12=>some ([.one (Cell.bool b12)],[])) none)
def fbw (k m:Nat)(s1:ByteArray):Option Res:=qpk k m m s1 0
abbrev qhqc (k m:Nat):TB:=evC qspb qmu (evF qspb (k+1)) m (sub [1,0,1,2,3] qmu.code) none
abbrev qatc (k m:Nat):TK:=qav 0 (seqK (evC qspb qmu (evF qspb (k+1)) m (sub [1,1] qmu.code) none) (retK qspb qmu))
theorem qszb (k m:Nat):∀ (n:Nat) (s2:ByteArray) (i3:Int),qbo (some [0,3]) (qhqc k m) (qatc k m) n ⟨fT 35 0 [(0,.av (.one (Cell.str s2))),(3,.av (.one (Cell.int i3)))],fX 35 0 [],[]⟩=qpk (k+1) m n s2 i3:=by
 intro n
 induction n with
 | zero=>intros;rfl
 | succ n ih=>intros;simp only[qpk,← ih];kernel_rfl
theorem qfrc (k m:Nat)(s1:ByteArray):evC qspb qmu (evF qspb (k+1)) m qmu.code none (retK qspb qmu) (enter qmu [.one (Cell.str s1)] [])=fbw (k+1) m s1:=by
 simp only[fbw,← qszb k m]
 kernel_rfl
theorem qhub {s1:ByteArray}{r:Res}(k:Nat)(h:fbw (k+1) (k+1) s1=some r):qeu [.one (Cell.str s1)] []=some r:=qap (k:=k+2) (Eq.trans (Eq.trans (by kernel_rfl) (qfrc k (k+1) s1)) h)
def qndc:List (Nat×Run):=[(qkp,qeu)]
def qovb:Ctx:=ctx qbg qbh qndc
def quu:Run:=lim qovb qcub
theorem ok_fdm:FnOk Tryz.prog OkT qcub quu:=qan (l:=qndc) qad tyTab_ok qae okT (.cons qnfb .nil) qcub
def qxr (k m:Nat):Nat→Cell→Int→Option Res | 0,_,_=>none | n+1,c2,i3=>(lenC c2).bind fun n4=>cond (decide (i3 < (n4:Int))) ((idxA 1 (c2) i3).bind fun c5=>(deref [] (c5)).bind fun p6=>(cS p6.1 p6.2).bind fun s7=>(qaw qeu [.one (Cell.str s7)] []).bind fun r8=>cond (qab qhyb r8) ((cB (qaa r8 0) 0).bind fun b9=>cond (!b9) (some ([.one (Cell.bool false)],[])) (qxr k m n (c2) (IntKind.i64.wrap (i3+1)))) none) (some ([.one (Cell.bool true)],[]))
def fdm (k m:Nat)(c1:Cell):Option Res:=qxr k m m (c1) 0
abbrev qcfc (k m:Nat):TB:=evC qovb qkw (evF qovb (k+1)) m (sub [1,0,1,2,3] qkw.code) none
abbrev qafc (k m:Nat):TK:=qav 0 (seqK (evC qovb qkw (evF qovb (k+1)) m (sub [1,1] qkw.code) none) (retK qovb qkw))
theorem qqkb (k m:Nat):∀ (n:Nat) (c2:Cell) (i3:Int),qbo (some [0,3]) (qcfc k m) (qafc k m) n ⟨fT 16 0 [(0,.av (.one (c2))),(3,.av (.one (Cell.int i3)))],fX 16 0 [],[]⟩=qxr (k+1) m n c2 i3:=by
 intro n
 induction n with
 | zero=>intros;rfl
 | succ n ih=>intros;simp only[qxr,← ih];kernel_rfl
theorem qbyc (k m:Nat)(c1:Cell):evC qovb qkw (evF qovb (k+1)) m qkw.code none (retK qovb qkw) (enter qkw [.one (c1)] [])=fdm (k+1) m c1:=by
 simp only[fdm,← qqkb k m]
 kernel_rfl
theorem qmlb {c1:Cell}{r:Res}(k:Nat)(h:fdm (k+1) (k+1) c1=some r):quu [.one (c1)] []=some r:=qap (k:=k+2) (Eq.trans (Eq.trans (by kernel_rfl) (qbyc k (k+1) c1)) h)
def qrbc:List (Nat×Run):=[]
def qwub:Ctx:=ctx qbg qbh qrbc
def qsq:Run:=lim qwub qadb
theorem ok_fdh:FnOk Tryz.prog OkT qadb qsq:=qan (l:=qrbc) qad tyTab_ok qae okT .nil qadb
def qsd (k m:Nat):Nat→Cell→Int→Option Res | 0,_,_=>none | n+1,c2,i3=>(lenC c2).bind fun n4=>cond (decide (i3 < (n4:Int))) ((idxA 1 (c2) (IntKind.i64.wrap (i3 - 1))).bind fun c5=>(deref [] (c5)).bind fun p6=>(cS p6.1 p6.2).bind fun s7=>(idxA 1 (c2) i3).bind fun c8=>(deref [] (c8)).bind fun p9=>(cS p9.1 p9.2).bind fun s10=>cond (!Op.bytesLess s7.toList s10.toList) (some ([.one (Cell.bool false)],[])) (qsd k m n (c2) (IntKind.i64.wrap (i3+1)))) (some ([.one (Cell.bool true)],[]))
def fdh (k m:Nat)(c1:Cell):Option Res:=qsd k m m (c1) 1
abbrev qedc (k m:Nat):TB:=evC qwub qlf (evF qwub (k+1)) m (sub [1,0,1,2,3] qlf.code) none
abbrev qeec (k m:Nat):TK:=qav 0 (seqK (evC qwub qlf (evF qwub (k+1)) m (sub [1,1] qlf.code) none) (retK qwub qlf))
theorem qrlb (k m:Nat):∀ (n:Nat) (c2:Cell) (i3:Int),qbo (some [0,3]) (qedc k m) (qeec k m) n ⟨fT 20 0 [(0,.av (.one (c2))),(3,.av (.one (Cell.int i3)))],fX 20 0 [],[]⟩=qsd (k+1) m n c2 i3:=by
 intro n
 induction n with
 | zero=>intros;rfl
 | succ n ih=>intros;simp only[qsd,← ih];kernel_rfl
theorem qkkc (k m:Nat)(c1:Cell):evC qwub qlf (evF qwub (k+1)) m qlf.code none (retK qwub qlf) (enter qlf [.one (c1)] [])=fdh (k+1) m c1:=by
 simp only[fdh,← qrlb k m]
 kernel_rfl
theorem qinb {c1:Cell}{r:Res}(k:Nat)(h:fdh (k+1) (k+1) c1=some r):qsq [.one (c1)] []=some r:=qap (k:=k+2) (Eq.trans (Eq.trans (by kernel_rfl) (qkkc k (k+1) c1)) h)
def qrsc:List (Nat×Run):=[]
def qoib:Ctx:=ctx qbg qbh qrsc
def qrl:Run:=lim qoib qyy
theorem ok_fdb:FnOk Tryz.prog OkT qyy qrl:=qan (l:=qrsc) qad tyTab_ok qae okT .nil qyy
def qio (k m:Nat):Nat→ByteArray→Cell→Int→Int→List Entry→Option Res | 0,_,_,_,_,_=>none | n+1,s2,c3,i4,i5,H6=>cond (decide ((IntKind.i64.wrap (i5+1)) < (s2.size:Int))) ((bytS s2 i5).bind fun i7=>cond (i7==124) ((bytS s2 (IntKind.i64.wrap (i5+1))).bind fun i8=>cond (i8==124) ((subS s2 i4 i5).bind fun s9=>(app H6 1 16 (c3) [[Cell.str s9]]).bind fun p10=>qio k m n s2 (p10.1) (IntKind.i64.wrap (i5+2)) (IntKind.i64.wrap ((IntKind.i64.wrap (i5+1))+1)) p10.2) (qio k m n s2 (c3) i4 (IntKind.i64.wrap (i5+1)) H6)) (qio k m n s2 (c3) i4 (IntKind.i64.wrap (i5+1)) H6)) ((subS s2 i4 (s2.size:Int)).bind fun s11=>(app H6 1 16 (c3) [[Cell.str s11]]).bind fun p12=>some ([.one (p12.1)],p12.2))
def fdb (k m:Nat)(s1:ByteArray):Option Res:=qio k m m s1 (.lst true 1 []) 0 0 []
abbrev qfhc (k m:Nat):TB:=evC qoib qmj (evF qoib (k+1)) m (sub [1,1,1,0,1,2,3] qmj.code) none
abbrev qfnc (k m:Nat):TK:=qav 0 (seqK (evC qoib qmj (evF qoib (k+1)) m (sub [1,1,1,1] qmj.code) none) (retK qoib qmj))
theorem qqjb (k m:Nat):∀ (n:Nat) (s2:ByteArray) (c3:Cell) (i4 i5:Int) (H6:List Entry),qbo (some [0,3,4,5]) (qfhc k m) (qfnc k m) n ⟨fT 42 0 [(0,.av (.one (Cell.str s2))),(3,.av (.one (c3))),(4,.av (.one (Cell.int i4))),(5,.av (.one (Cell.int i5)))],fX 42 0 [],H6⟩=qio (k+1) m n s2 c3 i4 i5 H6:=by
 intro n
 induction n with
 | zero=>intros;rfl
 | succ n ih=>intros;simp only[qio,← ih];kernel_rfl
theorem qjac (k m:Nat)(s1:ByteArray):evC qoib qmj (evF qoib (k+1)) m qmj.code none (retK qoib qmj) (enter qmj [.one (Cell.str s1)] [])=fdb (k+1) m s1:=by
 simp only[fdb,← qqjb k m]
 kernel_rfl
theorem qkwb {s1:ByteArray}{r:Res}(k:Nat)(h:fdb (k+1) (k+1) s1=some r):qrl [.one (Cell.str s1)] []=some r:=qap (k:=k+2) (Eq.trans (Eq.trans (by kernel_rfl) (qjac k (k+1) s1)) h)
def qllc:List (Nat×Run):=[]
def qpkb:Ctx:=ctx qbg qbh qllc
def qda:Run:=lim qpkb qoa
theorem qaec:FnOk Tryz.prog OkT qoa qda:=qan (l:=qllc) qad tyTab_ok qae okT .nil qoa
def qpe (k m:Nat):Nat→ByteArray→Int→Cell→Int→Int→List Entry→Option Res | 0,_,_,_,_,_,_=>none | n+1,s3,i4,c5,i6,i7,H8=>cond (decide (i7≤(s3.size:Int))) (cond (i7==(s3.size:Int)) ((subS s3 i6 i7).bind fun s9=>(app H8 1 16 (c5) [[Cell.str s9]]).bind fun p10=>qpe k m n s3 i4 (p10.1) (IntKind.i64.wrap (i7+1)) (IntKind.i64.wrap (i7+1)) p10.2) ((bytS s3 i7).bind fun i11=>cond (i11==i4) ((subS s3 i6 i7).bind fun s12=>(app H8 1 16 (c5) [[Cell.str s12]]).bind fun p13=>qpe k m n s3 i4 (p13.1) (IntKind.i64.wrap (i7+1)) (IntKind.i64.wrap (i7+1)) p13.2) (qpe k m n s3 i4 (c5) i6 (IntKind.i64.wrap (i7+1)) H8))) (some ([.one (c5)],H8))
def fce (k m:Nat)(s1:ByteArray)(i2:Int):Option Res:=qpe k m m s1 i2 (.lst true 1 []) 0 0 []
abbrev qegc (k m:Nat):TB:=evC qpkb qkt (evF qpkb (k+1)) m (sub [1,1,1,0,1,2,3] qkt.code) none
abbrev qbgc (k m:Nat):TK:=qav 0 (seqK (evC qpkb qkt (evF qpkb (k+1)) m (sub [1,1,1,1] qkt.code) none) (retK qpkb qkt))
theorem qusb (k m:Nat):∀ (n:Nat) (s3:ByteArray) (i4:Int) (c5:Cell) (i6 i7:Int) (H8:List Entry),qbo (some [0,1,5,6,7]) (qegc k m) (qbgc k m) n ⟨fT 36 0 [(0,.av (.one (Cell.str s3))),(1,.av (.one (.sc (.int .u8 i4)))),(5,.av (.one (c5))),(6,.av (.one (Cell.int i6))),(7,.av (.one (Cell.int i7)))],fX 36 0 [],H8⟩=qpe (k+1) m n s3 i4 c5 i6 i7 H8:=by
 intro n
 induction n with
 | zero=>intros;rfl
 | succ n ih=>intros;simp only[qpe,← ih];kernel_rfl
theorem qcxc (k m:Nat)(s1:ByteArray)(i2:Int):evC qpkb qkt (evF qpkb (k+1)) m qkt.code none (retK qpkb qkt) (enter qkt [.one (Cell.str s1),.one (.sc (.int .u8 i2))] [])=fce (k+1) m s1 i2:=by
 simp only[fce,← qusb k m]
 kernel_rfl
theorem qmib {s1:ByteArray}{i2:Int}{r:Res}(k:Nat)(h:fce (k+1) (k+1) s1 i2=some r):qda [.one (Cell.str s1),.one (.sc (.int .u8 i2))] []=some r:=qap (k:=k+2) (Eq.trans (Eq.trans (by kernel_rfl) (qcxc k (k+1) s1 i2)) h)
def quoc:List (Nat×Run):=[(qlt,qfa)]
def qreb:Ctx:=ctx qbg qbh quoc
def qrd:Run:=lim qreb qzq
theorem ok_fcr:FnOk Tryz.prog OkT qzq qrd:=qan (l:=quoc) qad tyTab_ok qae okT (.cons quyb .nil) qzq
def qwv (k m:Nat):Nat→ByteArray→Int→Option Res | 0,_,_=>none | n+1,s2,i3=>cond (decide (i3 < (s2.size:Int))) ((bytS s2 i3).bind fun i4=>(qaw qfa [.one (.sc (.int .u8 i4))] []).bind fun r5=>cond (qab qkqb r5) ((cB (qaa r5 0) 0).bind fun b6=>cond (!b6) (some ([.one (Cell.bool false)],[])) (qwv k m n s2 (IntKind.i64.wrap (i3+1)))) none) (some ([.one (Cell.bool true)],[]))
def fcr (k m:Nat)(s1:ByteArray):Option Res:=qwv k m m s1 0
abbrev qdzc (k m:Nat):TB:=evC qreb qnc (evF qreb (k+1)) m (sub [1,0,1,2,3] qnc.code) none
abbrev qacc (k m:Nat):TK:=qav 0 (seqK (evC qreb qnc (evF qreb (k+1)) m (sub [1,1] qnc.code) none) (retK qreb qnc))
theorem qrxb (k m:Nat):∀ (n:Nat) (s2:ByteArray) (i3:Int),qbo (some [0,3]) (qdzc k m) (qacc k m) n ⟨fT 15 0 [(0,.av (.one (Cell.str s2))),(3,.av (.one (Cell.int i3)))],fX 15 0 [],[]⟩=qwv (k+1) m n s2 i3:=by
 intro n
 induction n with
 | zero=>intros;rfl
 | succ n ih=>intros;simp only[qwv,← ih];kernel_rfl
theorem qkac (k m:Nat)(s1:ByteArray):evC qreb qnc (evF qreb (k+1)) m qnc.code none (retK qreb qnc) (enter qnc [.one (Cell.str s1)] [])=fcr (k+1) m s1:=by
 simp only[fcr,← qrxb k m]
 kernel_rfl
theorem qjmb {s1:ByteArray}{r:Res}(k:Nat)(h:fcr (k+1) (k+1) s1=some r):qrd [.one (Cell.str s1)] []=some r:=qap (k:=k+2) (Eq.trans (Eq.trans (by kernel_rfl) (qkac k (k+1) s1)) h)
end
end Go.Ev
