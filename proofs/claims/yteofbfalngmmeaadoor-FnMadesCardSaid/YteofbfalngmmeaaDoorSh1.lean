/- What the evaluator says of the functions, each as a Lean function over cells. Printed by a program of this claim. Conditions: none. -/
import Derived.Test.YteofbfalngmmeaaDoorSh0
import Derived.KernelRfl
namespace Go.Ev
open Go Go.Proofs
noncomputable section
set_option maxRecDepth 100000
set_option linter.unusedVariables false
set_option linter.unusedSimpArgs false
def qxyb:List (Nat×Run):=[]
def qdvc:Ctx:=ctx qbe qbd qxyb
def qdl:Run:=lim qdvc qli
theorem qsmb:FnOk Tryd.prog OkT qli qdl:=qam (l:=qxyb) qac tyTab_ok qad okT .nil qli
def fbx (k m:Nat)(c1:Cell)(s2:ByteArray):Option Res:=(qbw [] 1 c1).bind fun r3=>(app [] 1 1 (.lst true 1 []) r3).bind fun p4=>cond (decide ((s2.size:Int) > 60000)) (some ([.one (p4.1)],p4.2)) ((app p4.2 1 1 (p4.1) [[.sc (.int .u8 (IntKind.u8.wrap (shrI .i64 (s2.size:Int) 8)))],[.sc (.int .u8 (IntKind.u8.wrap (s2.size:Int)))]]).bind fun p5=>(app p5.2 1 1 (p5.1) (qcg s2)).bind fun p6=>some ([.one (p6.1)],p6.2))
theorem qnub (k m:Nat)(c1:Cell)(s2:ByteArray):evC qdvc qxx (evF qdvc (k+1)) m qxx.code none (retK qdvc qxx) (enter qxx [.one (c1),.one (Cell.str s2)] [])=fbx (k+1) m c1 s2:=by
 kernel_rfl
theorem qqi {c1:Cell}{s2:ByteArray}{r:Res}(k:Nat)(h:fbx (k+1) (k+1) c1 s2=some r):qdl [.one (c1),.one (Cell.str s2)] []=some r:=qan (k:=k+2) (Eq.trans (Eq.trans (by kernel_rfl) (qnub k (k+1) c1 s2)) h)
def qagc:List (Nat×Run):=[(qor,qiw),(qli,qdl)]
def qdzc:Ctx:=ctx qbe qbd qagc
def qpn:Run:=lim qdzc qve
theorem ok_fcb:FnOk Tryd.prog OkT qve qpn:=qam (l:=qagc) qac tyTab_ok qad okT (.cons qxeb (.cons qsmb .nil)) qve
def fcb (k m:Nat)(c1:Cell)(i2:Int):Option Res:=(qba qiw [.one (Cell.int i2)] []).bind fun r3=>cond (qab qsvb r3) ((cS (qaa r3 0) 0).bind fun s4=>(qcr qdl [.one (c1),.one (Cell.str s4)] []).bind fun r5=>cond (qab qxd r5.1) ((cC (qaa r5.1 0) 0).bind fun c6=>some ([.one (c6)],r5.2)) none) none
theorem qogb (k m:Nat)(c1:Cell)(i2:Int):evC qdzc qwt (evF qdzc (k+1)) m qwt.code none (retK qdzc qwt) (enter qwt [.one (c1),.one (Cell.int i2)] [])=fcb (k+1) m c1 i2:=by
 kernel_rfl
theorem qbkb {c1:Cell}{i2:Int}{r:Res}(k:Nat)(h:fcb (k+1) (k+1) c1 i2=some r):qpn [.one (c1),.one (Cell.int i2)] []=some r:=qan (k:=k+2) (Eq.trans (Eq.trans (by kernel_rfl) (qogb k (k+1) c1 i2)) h)
def qzlb:List (Nat×Run):=[(qli,qdl),(qve,qpn)]
def qjgb:Ctx:=ctx qbe qbd qzlb
def qlz:Run:=lim qjgb qty
theorem ok_fcc:FnOk Tryd.prog OkT qty qlz:=qam (l:=qzlb) qac tyTab_ok qad okT (.cons qsmb (.cons ok_fcb .nil)) qty
def qrg (k m:Nat):Nat→Cell→Cell→Int→List Entry→Option Res | 0,_,_,_,_=>none | n+1,c6,c7,i8,H9=>(lenC c7).bind fun n10=>cond (decide (i8 < (n10:Int))) ((idxA 2 (c7) i8).bind fun c11=>(fldA c11 0).bind fun c12=>(deref H9 (c12)).bind fun p13=>(cS p13.1 p13.2).bind fun s14=>(qcr qdl [.one (c6),.one (Cell.str s14)] H9).bind fun r15=>cond (qab qxd r15.1) ((cC (qaa r15.1 0) 0).bind fun c16=>(idxA 2 (c7) i8).bind fun c17=>(fldA c17 1).bind fun c18=>(deref [] (c18)).bind fun p19=>(cS p19.1 p19.2).bind fun s20=>(qcr qdl [.one (c16),.one (Cell.str s20)] r15.2).bind fun r21=>cond (qab qxd r21.1) ((cC (qaa r21.1 0) 0).bind fun c22=>qrg k m n (c22) (c7) (IntKind.i64.wrap (i8+1)) r21.2) none) none) (some ([.one (c6)],H9))
def fcc (k m:Nat)(c1 c2:Cell):Option Res:=(lenC c2).bind fun n3=>(qcr qpn [.one (c1),.one (Cell.int (n3:Int))] []).bind fun r4=>cond (qab qakc r4.1) ((cC (qaa r4.1 0) 0).bind fun c5=>qrg k m m (c5) (c2) 0 r4.2) none
abbrev qscb (k m:Nat):TB:=evC qjgb qia (evF qjgb (k+1)) m (sub [1,1,0,1,2,3] qia.code) none
abbrev qskb (k m:Nat):TK:=qbu 0 (seqK (evC qjgb qia (evF qjgb (k+1)) m (sub [1,1,1] qia.code) none) (retK qjgb qia))
theorem qgkb (k m:Nat):∀ (n:Nat) (c6 c7:Cell) (i8:Int) (H9:List Entry),qdp (some [0,1,5]) (qscb k m) (qskb k m) n ⟨fT 30 0 [(0,.av (.one (c6))),(1,.av (.one (c7))),(5,.av (.one (Cell.int i8)))],fX 30 0 [],H9⟩=qrg (k+1) m n c6 c7 i8 H9:=by
 intro n
 induction n with
 | zero=>intros;rfl
 | succ n ih=>intros;simp only[qrg,← ih];kernel_rfl
theorem qqmb (k m:Nat)(c1 c2:Cell):evC qjgb qia (evF qjgb (k+1)) m qia.code none (retK qjgb qia) (enter qia [.one (c1),.one (c2)] [])=fcc (k+1) m c1 c2:=by
 simp only[fcc,← qgkb k m]
 kernel_rfl
theorem qakb {c1 c2:Cell}{r:Res}(k:Nat)(h:fcc (k+1) (k+1) c1 c2=some r):qlz [.one (c1),.one (c2)] []=some r:=qan (k:=k+2) (Eq.trans (Eq.trans (by kernel_rfl) (qqmb k (k+1) c1 c2)) h)
def qcec:List (Nat×Run):=[(qln,qdx),(qty,qlz),(qli,qdl)]
def qcmc:Ctx:=ctx qbe qbd qcec
def qlr:Run:=lim qcmc qtj
theorem ok_fbw:FnOk Tryd.prog OkT qtj qlr:=qam (l:=qcec) qac tyTab_ok qad okT (.cons qtib (.cons ok_fcc (.cons qsmb .nil))) qtj
def fbw (k m:Nat)(s1:ByteArray)(c2:Cell)(s3:ByteArray):Option Res:=(qcr qdl [.one (.lst true 1 []),.one (Cell.str s1)] []).bind fun r4=>cond (qab qxd r4.1) ((cC (qaa r4.1 0) 0).bind fun c5=>(qcr qdl [.one (c5),.one (Cell.str s3)] r4.2).bind fun r6=>cond (qab qxd r6.1) ((cC (qaa r6.1 0) 0).bind fun c7=>(qcr qlz [.one (c7),.one (c2)] r6.2).bind fun r8=>cond (qab qzjb r8.1) ((cC (qaa r8.1 0) 0).bind fun c9=>(qba qdx [.one (c9)] r8.2).bind fun r10=>cond (qab qikb r10) ((cI .i64 (qaa r10 0) 0).bind fun i11=>(app r8.2 1 1 (c9) [[.sc (.int .u8 (IntKind.u8.wrap (shrI .i64 i11 8)))],[.sc (.int .u8 (IntKind.u8.wrap i11))]]).bind fun p12=>some ([.one (p12.1)],p12.2)) none) none) none) none
theorem qrwb (k m:Nat)(s1:ByteArray)(c2:Cell)(s3:ByteArray):evC qcmc qyi (evF qcmc (k+1)) m qyi.code none (retK qcmc qyi) (enter qyi [.agg [Cell.str s1,c2,Cell.str s3]] [])=fbw (k+1) m s1 c2 s3:=by
 kernel_rfl
theorem qcjb {s1:ByteArray}{c2:Cell}{s3:ByteArray}{r:Res}(k:Nat)(h:fbw (k+1) (k+1) s1 c2 s3=some r):qlr [.agg [Cell.str s1,c2,Cell.str s3]] []=some r:=qan (k:=k+2) (Eq.trans (Eq.trans (by kernel_rfl) (qrwb k (k+1) s1 c2 s3)) h)
def qbic:List (Nat×Run):=[(qfn,qbo)]
def qdrc:Ctx:=ctx qbe qbd qbic
def qop:Run:=lim qdrc qsq
theorem ok_fck:FnOk Tryd.prog OkT qsq qop:=qam (l:=qbic) qac tyTab_ok qad okT (.cons qwp .nil) qsq
def fck (k m:Nat)(c1 c2:Cell)(H:List Entry):Option Res:=(lenC c2).bind fun n3=>(qbo [.one (c1),.one (Cell.int (n3:Int))] H).bind fun r4=>cond (qab qhe r4.1) ((cI .i64 (qaa r4.1 0) 0).bind fun i5=>(idxA 1 (c2) i5).bind fun c6=>(deref r4.2 (c6)).bind fun p7=>(cI .i64 p7.1 p7.2).bind fun i8=>some ([.one (Cell.int i8)],r4.2)) none
theorem qujb (k m:Nat)(c1 c2:Cell)(H:List Entry):evC qdrc qww (evF qdrc (k+1)) m qww.code none (retK qdrc qww) (enter qww [.one (c1),.one (c2)] H)=fck (k+1) m c1 c2 H:=by
 kernel_rfl
theorem qefb {c1 c2:Cell}{H:List Entry}{r:Res}(k:Nat)(h:fck (k+1) (k+1) c1 c2 H=some r):qop [.one (c1),.one (c2)] H=some r:=qan (k:=k+2) (Eq.trans (Eq.trans (by kernel_rfl) (qujb k (k+1) c1 c2 H)) h)
def qbsc:List (Nat×Run):=[(qjl,qdz),(qju,qdo),(qtj,qlr),(qfn,qbo),(qsq,qop),(qln,qdx)]
def qcrc:Ctx:=ctx qbe qbd qbsc
def qob:Run:=lim qcrc qtz
theorem ok_fbi:FnOk Tryd.prog OkT qtz qob:=qam (l:=qbsc) qac tyTab_ok qad okT (.cons qkhb (.cons qipb (.cons ok_fbw (.cons qwp (.cons ok_fck (.cons qtib .nil)))))) qtz
def fbi (k m:Nat)(c1:Cell):Option Res:=(qdz [.one (c1)] []).bind fun r2=>cond (qab qcnb r2.1) ((cC (qaa r2.1 0) 0).bind fun c3=>(qdo [.one (c3)] r2.2).bind fun r4=>cond (qab qwy r4.1) ((cS (qaa r4.1 0) 0).bind fun s5=>(cC (qaa r4.1 0) 1).bind fun c6=>(cS (qaa r4.1 0) 2).bind fun s7=>(qcr qlr [.agg [Cell.str s5,c6,Cell.str s7]] r4.2).bind fun r8=>cond (qab qytb r8.1) ((cC (qaa r8.1 0) 0).bind fun c9=>(qbo [.one (c3),.one (Cell.int 5)] r8.2).bind fun r10=>cond (qab qhe r10.1) ((cI .i64 (qaa r10.1 0) 0).bind fun i11=>cond (i11==0) ((lenC c9).bind fun n12=>(qbo [.one (c3),.one (Cell.int (n12:Int))] r10.2).bind fun r13=>cond (qab qhe r13.1) ((cI .i64 (qaa r13.1 0) 0).bind fun i14=>(idxA 1 (c9) i14).bind fun c15=>(deref r13.2 (c15)).bind fun p16=>(cI .u8 p16.1 p16.2).bind fun i17=>(qbo [.one (c3),.one (Cell.int 255)] r13.2).bind fun r18=>cond (qab qhe r18.1) ((cI .i64 (qaa r18.1 0) 0).bind fun i19=>(idxA 1 (c9) i14).bind fun c20=>(qby r18.2 (c20) [.sc (.int .u8 (xorI .u8 i17 (IntKind.u8.wrap (IntKind.i64.wrap (1+i19)))))]).bind fun h21=>(deref r18.2 (c15)).bind fun p22=>(cI .u8 p22.1 p22.2).bind fun i23=>cond (eqC (.sc (.int .u8 i17)) (.sc (.int .u8 i23))) (some ([.one (c9)],h21)) (none)) none) none) (cond (i11==1) ((lenC c9).bind fun n24=>(qbo [.one (c3),.one (Cell.int (n24:Int))] r10.2).bind fun r25=>cond (qab qhe r25.1) ((cI .i64 (qaa r25.1 0) 0).bind fun i26=>(slcC 1 (c9) 0 (some i26) none).bind fun c27=>some ([.one (c27)],r25.2)) none) (cond (i11==2) ((lenC c9).bind fun n28=>(slcC 1 (c9) 0 (some (IntKind.i64.wrap ((n28:Int) - 2))) none).bind fun c29=>(lenC c29).bind fun n30=>(qbo [.one (c3),.one (Cell.int (n30:Int))] r10.2).bind fun r31=>cond (qab qhe r31.1) ((cI .i64 (qaa r31.1 0) 0).bind fun i32=>(qop [.one (c3),.one (.lst true 1 [[Cell.int 0],[Cell.int 1],[Cell.int 48],[Cell.int 255]])] r31.2).bind fun r33=>cond (qab qzxb r33.1) ((cI .i64 (qaa r33.1 0) 0).bind fun i34=>(idxA 1 (c29) i32).bind fun c35=>(qby r33.2 (c35) [.sc (.int .u8 (IntKind.u8.wrap i34))]).bind fun h36=>(qba qdx [.one (c29)] h36).bind fun r37=>cond (qab qikb r37) ((cI .i64 (qaa r37 0) 0).bind fun i38=>(qbw h36 1 c29).bind fun r39=>(app h36 1 1 (.lst true 1 []) r39).bind fun p40=>(app p40.2 1 1 (p40.1) [[.sc (.int .u8 (IntKind.u8.wrap (shrI .i64 i38 8)))],[.sc (.int .u8 (IntKind.u8.wrap i38))]]).bind fun p41=>some ([.one (p41.1)],p41.2)) none) none) none) (some ([.one (c9)],r10.2))))) none) none) none) none
theorem qocb (k m:Nat)(c1:Cell):evC qcrc qyu (evF qcrc (k+1)) m qyu.code none (retK qcrc qyu) (enter qyu [.one (c1)] [])=fbi (k+1) m c1:=by
 kernel_rfl
theorem qfz {c1:Cell}{r:Res}(k:Nat)(h:fbi (k+1) (k+1) c1=some r):qob [.one (c1)] []=some r:=qan (k:=k+2) (Eq.trans (Eq.trans (by kernel_rfl) (qocb k (k+1) c1)) h)
def qaac:List (Nat×Run):=[]
def qdqc:Ctx:=ctx qbe qbd qaac
def qno:Run:=lim qdqc qth
theorem ok_fad:FnOk Tryd.prog OkT qth qno:=qam (l:=qaac) qac tyTab_ok qad okT .nil qth
def fad (k m:Nat)(c1:Cell)(i2:Int):Option Res:=cond (decide (i2 < 0)) (some ([.one (Cell.str (bs [])),.one (Cell.int 0),.one (Cell.bool false)],[])) ((lenC c1).bind fun n3=>cond (decide (i2 > (IntKind.i64.wrap ((n3:Int) - 2)))) (some ([.one (Cell.str (bs [])),.one (Cell.int 0),.one (Cell.bool false)],[])) ((idxA 1 (c1) i2).bind fun c4=>(deref [] (c4)).bind fun p5=>(cI .u8 p5.1 p5.2).bind fun i6=>(idxA 1 (c1) (IntKind.i64.wrap (i2+1))).bind fun c7=>(deref [] (c7)).bind fun p8=>(cI .u8 p8.1 p8.2).bind fun i9=>cond (decide ((orI .i64 (shlI .i64 (IntKind.i64.wrap i6) 8) (IntKind.i64.wrap i9)) > 60000)) (some ([.one (Cell.str (bs [])),.one (Cell.int 0),.one (Cell.bool false)],[])) ((lenC c1).bind fun n10=>cond (decide ((orI .i64 (shlI .i64 (IntKind.i64.wrap i6) 8) (IntKind.i64.wrap i9)) > (IntKind.i64.wrap ((n10:Int) - (IntKind.i64.wrap (i2+2)))))) (some ([.one (Cell.str (bs [])),.one (Cell.int 0),.one (Cell.bool false)],[])) ((slcC 1 (c1) (IntKind.i64.wrap (i2+2)) (some (IntKind.i64.wrap ((IntKind.i64.wrap (i2+2))+(orI .i64 (shlI .i64 (IntKind.i64.wrap i6) 8) (IntKind.i64.wrap i9))))) none).bind fun c11=>(bytesOf [] (c11)).bind fun s12=>some ([.one (Cell.str s12),.one (Cell.int (IntKind.i64.wrap ((IntKind.i64.wrap (i2+2))+(orI .i64 (shlI .i64 (IntKind.i64.wrap i6) 8) (IntKind.i64.wrap i9))))),.one (Cell.bool true)],[])))))
theorem qrpb (k m:Nat)(c1:Cell)(i2:Int):evC qdqc qwu (evF qdqc (k+1)) m qwu.code none (retK qdqc qwu) (enter qwu [.one (c1),.one (Cell.int i2)] [])=fad (k+1) m c1 i2:=by
 kernel_rfl
theorem qcub {c1:Cell}{i2:Int}{r:Res}(k:Nat)(h:fad (k+1) (k+1) c1 i2=some r):qno [.one (c1),.one (Cell.int i2)] []=some r:=qan (k:=k+2) (Eq.trans (Eq.trans (by kernel_rfl) (qrpb k (k+1) c1 i2)) h)
def qzcb:List (Nat×Run):=[(qth,qno)]
def qclc:Ctx:=ctx qbe qbd qzcb
def qew:Run:=lim qclc que
theorem ok_fav:FnOk Tryd.prog OkT que qew:=qam (l:=qzcb) qac tyTab_ok qad okT (.cons ok_fad .nil) que
def fav (k m:Nat)(c1:Cell)(H:List Entry):Option Res:=(ptrC c1).bind fun c2=>(fldA c2 0).bind fun c3=>(deref H (c3)).bind fun p4=>(cC p4.1 p4.2).bind fun c5=>(ptrC c1).bind fun c6=>(fldA c6 1).bind fun c7=>(deref H (c7)).bind fun p8=>(cI .i64 p8.1 p8.2).bind fun i9=>(qba qno [.one (c5),.one (Cell.int i9)] H).bind fun r10=>cond (qab qvkb r10) ((cS (qaa r10 0) 0).bind fun s11=>(cI .i64 (qaa r10 1) 0).bind fun i12=>(cB (qaa r10 2) 0).bind fun b13=>(ptrC c1).bind fun c14=>(fldA c14 2).bind fun c15=>(deref H (c15)).bind fun p16=>(cB p16.1 p16.2).bind fun b17=>cond b17 ((ptrC c1).bind fun c18=>(fldA c18 2).bind fun c19=>(qby H (c19) [Cell.bool true]).bind fun h20=>some ([.one (Cell.str (bs []))],h20)) (cond (!b13) ((ptrC c1).bind fun c21=>(fldA c21 2).bind fun c22=>(qby H (c22) [Cell.bool true]).bind fun h23=>some ([.one (Cell.str (bs []))],h23)) ((ptrC c1).bind fun c24=>(fldA c24 1).bind fun c25=>(qby H (c25) [Cell.int i12]).bind fun h26=>some ([.one (Cell.str s11)],h26)))) none
theorem qseb (k m:Nat)(c1:Cell)(H:List Entry):evC qclc qxt (evF qclc (k+1)) m qxt.code none (retK qclc qxt) (enter qxt [.one (c1)] H)=fav (k+1) m c1 H:=by
 kernel_rfl
theorem qdab {c1:Cell}{H:List Entry}{r:Res}(k:Nat)(h:fav (k+1) (k+1) c1 H=some r):qew [.one (c1)] H=some r:=qan (k:=k+2) (Eq.trans (Eq.trans (by kernel_rfl) (qseb k (k+1) c1 H)) h)
def qbbc:List (Nat×Run):=[]
def qdfc:Ctx:=ctx qbe qbd qbbc
def qga:Run:=lim qdfc qlk
theorem qomb:FnOk Tryd.prog OkT qlk qga:=qam (l:=qbbc) qac tyTab_ok qad okT .nil qlk
def fan (k m:Nat)(i1 i2 i3:Int):Option Res:=cond (decide (i1≥i2)) (some ([.one (Cell.bool (decide (i1≤i3)))],[])) (some ([.one (Cell.bool false)],[]))
theorem qqqb (k m:Nat)(i1 i2 i3:Int):evC qdfc qyb (evF qdfc (k+1)) m qyb.code none (retK qdfc qyb) (enter qyb [.one (Cell.int i1),.one (Cell.int i2),.one (Cell.int i3)] [])=fan (k+1) m i1 i2 i3:=by
 kernel_rfl
theorem qapb {i1 i2 i3:Int}{r:Res}(k:Nat)(h:fan (k+1) (k+1) i1 i2 i3=some r):qga [.one (Cell.int i1),.one (Cell.int i2),.one (Cell.int i3)] []=some r:=qan (k:=k+2) (Eq.trans (Eq.trans (by kernel_rfl) (qqqb k (k+1) i1 i2 i3)) h)
def qavc:List (Nat×Run):=[]
def qcvc:Ctx:=ctx qbe qbd qavc
def qfw:Run:=lim qcvc qly
theorem qsnb:FnOk Tryd.prog OkT qly qfw:=qam (l:=qavc) qac tyTab_ok qad okT .nil qly
def fao (k m:Nat)(i1:Int):Option Res:=cond (decide (i1≥48)) (some ([.one (Cell.bool (decide (i1≤57)))],[])) (some ([.one (Cell.bool false)],[]))
theorem qryb (k m:Nat)(i1:Int):evC qcvc qwq (evF qcvc (k+1)) m qwq.code none (retK qcvc qwq) (enter qwq [.one (.sc (.int .u8 i1))] [])=fao (k+1) m i1:=by
 kernel_rfl
theorem qdib {i1:Int}{r:Res}(k:Nat)(h:fao (k+1) (k+1) i1=some r):qfw [.one (.sc (.int .u8 i1))] []=some r:=qan (k:=k+2) (Eq.trans (Eq.trans (by kernel_rfl) (qryb k (k+1) i1)) h)
def qvdb:List (Nat×Run):=[(qpy,qjp),(qlk,qga),(qly,qfw)]
def qfhb:Ctx:=ctx qbe qbd qvdb
def qlp:Run:=lim qfhb qut
theorem ok_fah:FnOk Tryd.prog OkT qut qlp:=qam (l:=qvdb) qac tyTab_ok qad okT (.cons qbuc (.cons qomb (.cons qsnb .nil))) qut
def qrx (k m:Nat):Nat→ByteArray→Int→Int→Int→Option Res | 0,_,_,_,_=>none | n+1,s5,i6,i7,i8=>cond (decide (i8 < (s5.size:Int))) ((bytS s5 i8).bind fun i9=>(qba qfw [.one (.sc (.int .u8 i9))] []).bind fun r10=>cond (qab qjwb r10) ((cB (qaa r10 0) 0).bind fun b11=>cond (!b11) (some ([.one (Cell.int 0),.one (Cell.bool false)],[])) ((bytS s5 i8).bind fun i12=>qrx k m n s5 i6 (IntKind.i64.wrap ((IntKind.i64.wrap (i7*10))+(IntKind.i64.wrap (IntKind.u8.wrap (i12 - 48))))) (IntKind.i64.wrap (i8+1)))) none) ((qba qjp [.one (Cell.int i7)] []).bind fun r13=>cond (qab qtrb r13) ((cS (qaa r13 0) 0).bind fun s14=>cond (!(s14.toList==s5.toList)) (some ([.one (Cell.int 0),.one (Cell.bool false)],[])) (cond (decide (i7 > i6)) (some ([.one (Cell.int 0),.one (Cell.bool false)],[])) (some ([.one (Cell.int i7),.one (Cell.bool true)],[])))) none)
def fah (k m:Nat)(s1:ByteArray)(i2:Int):Option Res:=(qba qga [.one (Cell.int (s1.size:Int)),.one (Cell.int 1),.one (Cell.int 7)] []).bind fun r3=>cond (qab qihb r3) ((cB (qaa r3 0) 0).bind fun b4=>cond (!b4) (some ([.one (Cell.int 0),.one (Cell.bool false)],[])) (qrx k m m s1 i2 0 0)) none
abbrev qnhb (k m:Nat):TB:=evC qfhb qjh (evF qfhb (k+1)) m (sub [1,1,1,0,1,2,3] qjh.code) none
abbrev qswb (k m:Nat):TK:=qbu 0 (seqK (evC qfhb qjh (evF qfhb (k+1)) m (sub [1,1,1,1] qjh.code) none) (retK qfhb qjh))
theorem qhyb (k m:Nat):∀ (n:Nat) (s5:ByteArray) (i6 i7 i8:Int),qdp (some [0,1,6,7]) (qnhb k m) (qswb k m) n ⟨fT 41 0 [(0,.av (.one (Cell.str s5))),(1,.av (.one (Cell.int i6))),(6,.av (.one (Cell.int i7))),(7,.av (.one (Cell.int i8)))],fX 41 0 [],[]⟩=qrx (k+1) m n s5 i6 i7 i8:=by
 intro n
 induction n with
 | zero=>intros;rfl
 | succ n ih=>intros;simp only[qrx,← ih];kernel_rfl
theorem qqcb (k m:Nat)(s1:ByteArray)(i2:Int):evC qfhb qjh (evF qfhb (k+1)) m qjh.code none (retK qfhb qjh) (enter qjh [.one (Cell.str s1),.one (Cell.int i2)] [])=fah (k+1) m s1 i2:=by
 simp only[fah,← qhyb k m]
 kernel_rfl
theorem qpu {s1:ByteArray}{i2:Int}{r:Res}(k:Nat)(h:fah (k+1) (k+1) s1 i2=some r):qlp [.one (Cell.str s1),.one (Cell.int i2)] []=some r:=qan (k:=k+2) (Eq.trans (Eq.trans (by kernel_rfl) (qqcb k (k+1) s1 i2)) h)
def qzob:List (Nat×Run):=[]
def qcwc:Ctx:=ctx qbe qbd qzob
def qkz:Run:=lim qcwc qsk
theorem ok_faa:FnOk Tryd.prog OkT qsk qkz:=qam (l:=qzob) qac tyTab_ok qad okT .nil qsk
def faa (k m:Nat)(c1 c2:Cell):Option Res:=(bytesOf [] (c1)).bind fun s3=>(bytesOf [] (c2)).bind fun s4=>some ([.one (Cell.bool (s3.toList==s4.toList))],[])
theorem qslb (k m:Nat)(c1 c2:Cell):evC qcwc qwc (evF qcwc (k+1)) m qwc.code none (retK qcwc qwc) (enter qwc [.one (c1),.one (c2)] [])=faa (k+1) m c1 c2:=by
 kernel_rfl
theorem qdwb {c1 c2:Cell}{r:Res}(k:Nat)(h:faa (k+1) (k+1) c1 c2=some r):qkz [.one (c1),.one (c2)] []=some r:=qan (k:=k+2) (Eq.trans (Eq.trans (by kernel_rfl) (qslb k (k+1) c1 c2)) h)
def qzeb:List (Nat×Run):=[(qpi,qfs),(que,qew),(qut,qlp),(qsk,qkz)]
def qgab:Ctx:=ctx qbe qbd qzeb
def qcp:Run:=lim qgab qun
theorem ok_fac:FnOk Tryd.prog OkT qun qcp:=qam (l:=qzeb) qac tyTab_ok qad okT (.cons qyjb (.cons ok_fav (.cons ok_fah (.cons ok_faa .nil)))) qun
def qks (k m:Nat):Nat→Cell→Bool→Int→Int→ByteArray→Cell→ByteArray→List Entry→Option Res | 0,_,_,_,_,_,_,_,_=>none | n+1,c11,b12,i13,i14,s15,c16,s17,H18=>cond (decide (i14 < i13)) ((qew [.one (.ptr 0 3 0 0 0)] H18).bind fun r19=>cond (qab qwo r19.1) ((cS (qaa r19.1 0) 0).bind fun s20=>(qew [.one (.ptr 0 3 0 0 0)] r19.2).bind fun r21=>cond (qab qwo r21.1) ((cS (qaa r21.1 0) 0).bind fun s22=>(app r21.2 2 32 (c16) [[Cell.str s20,Cell.str s22]]).bind fun p23=>qks k m n (c11) b12 i13 (IntKind.i64.wrap (i14+1)) s15 (p23.1) s17 p23.2) none) none) (cond (!b12) (some ([.agg [Cell.str (bs []),.lst true 2 [],Cell.str (bs [])],.one (Cell.bool false)],H18)) ((deref H18 (.ptr 0 3 0 2 0)).bind fun p24=>(cB p24.1 p24.2).bind fun b25=>cond b25 (some ([.agg [Cell.str (bs []),.lst true 2 [],Cell.str (bs [])],.one (Cell.bool false)],H18)) ((qcr qfs [.agg [Cell.str s15,c16,Cell.str s17]] H18).bind fun r26=>cond (qab qkqb r26.1) ((cC (qaa r26.1 0) 0).bind fun c27=>(qba qkz [.one (c27),.one (c11)] r26.2).bind fun r28=>cond (qab qztb r28) ((cB (qaa r28 0) 0).bind fun b29=>cond (!b29) (some ([.agg [Cell.str (bs []),.lst true 2 [],Cell.str (bs [])],.one (Cell.bool false)],r26.2)) (some ([.agg [Cell.str s15,c16,Cell.str s17],.one (Cell.bool true)],r26.2))) none) none)))
def fac (k m:Nat)(c1:Cell):Option Res:=(qew [.one (.ptr 0 3 0 0 0)] [Entry.mk 3 [[c1,Cell.int 0,Cell.bool false]] 0 false]).bind fun r2=>cond (qab qwo r2.1) ((cS (qaa r2.1 0) 0).bind fun s3=>(qew [.one (.ptr 0 3 0 0 0)] r2.2).bind fun r4=>cond (qab qwo r4.1) ((cS (qaa r4.1 0) 0).bind fun s5=>(qew [.one (.ptr 0 3 0 0 0)] r4.2).bind fun r6=>cond (qab qwo r6.1) ((cS (qaa r6.1 0) 0).bind fun s7=>(qba qlp [.one (Cell.str s7),.one (Cell.int 1000)] r6.2).bind fun r8=>cond (qab qcac r8) ((cI .i64 (qaa r8 0) 0).bind fun i9=>(cB (qaa r8 1) 0).bind fun b10=>qks k m m (c1) b10 i9 0 s3 (.lst true 2 []) s5 r6.2) none) none) none) none
abbrev qtzb (k m:Nat):TB:=evC qgab qij (evF qgab (k+1)) m (sub [1,1,1,1,1,0,1,2,3] qij.code) none
abbrev qrob (k m:Nat):TK:=qbu 0 (seqK (evC qgab qij (evF qgab (k+1)) m (sub [1,1,1,1,1,1] qij.code) none) (retK qgab qij))
theorem qlib (k m:Nat):∀ (n:Nat) (c11:Cell) (b12:Bool) (i13 i14:Int) (s15:ByteArray) (c16:Cell) (s17:ByteArray) (H18:List Entry),qdp (some [0,2,4,5,7,20,21]) (qtzb k m) (qrob k m) n ⟨fT 49 0 [(0,.av (.one (c11))),(2,.loc 2 0),(4,.av (.one (.ptr 0 3 0 0 0))),(5,.loc 5 0),(7,.av (.one (Cell.bool b12))),(20,.av (.one (Cell.int i13))),(21,.av (.one (Cell.int i14)))],fX 49 0 [(2,[Cell.str (bs []),.lst true 2 [],Cell.str (bs [])]),(5,[Cell.str s15,c16,Cell.str s17])],H18⟩=qks (k+1) m n c11 b12 i13 i14 s15 c16 s17 H18:=by
 intro n
 induction n with
 | zero=>intros;rfl
 | succ n ih=>intros;simp only[qks,← ih];kernel_rfl
theorem qnzb (k m:Nat)(c1:Cell):evC qgab qij (evF qgab (k+1)) m qij.code none (retK qgab qij) (enter qij [.one (c1)] [])=fac (k+1) m c1:=by
 simp only[fac,← qlib k m]
 kernel_rfl
theorem qfm {c1:Cell}{r:Res}(k:Nat)(h:fac (k+1) (k+1) c1=some r):qcp [.one (c1)] []=some r:=qan (k:=k+2) (Eq.trans (Eq.trans (by kernel_rfl) (qnzb k (k+1) c1)) h)
def qccc:List (Nat×Run):=[(qgb,qcf)]
def qcic:Ctx:=ctx qbe qbd qccc
def qnn:Run:=lim qcic quh
theorem ok_fbo:FnOk Tryd.prog OkT quh qnn:=qam (l:=qccc) qac tyTab_ok qad okT (.cons qyv .nil) quh
def fbo (k m:Nat)(c1:Cell)(i2:Int):Option Res:=(lenC c1).bind fun n3=>(qba qcf [.one (Cell.int i2),.one (Cell.int 0),.one (Cell.int (IntKind.i64.wrap ((n3:Int) - 2)))] []).bind fun r4=>cond (qab qmi r4) ((cB (qaa r4 0) 0).bind fun b5=>cond (!b5) (some ([.one (Cell.str (bs [])),.one (Cell.int 0),.one (Cell.bool false)],[])) ((idxA 1 (c1) i2).bind fun c6=>(deref [] (c6)).bind fun p7=>(cI .u8 p7.1 p7.2).bind fun i8=>(idxA 1 (c1) (IntKind.i64.wrap (i2+1))).bind fun c9=>(deref [] (c9)).bind fun p10=>(cI .u8 p10.1 p10.2).bind fun i11=>(lenC c1).bind fun n12=>cond (decide ((orI .i64 (shlI .i64 (IntKind.i64.wrap i8) 8) (IntKind.i64.wrap i11)) > (IntKind.i64.wrap ((IntKind.i64.wrap ((n12:Int) - i2)) - 2)))) (some ([.one (Cell.str (bs [])),.one (Cell.int 0),.one (Cell.bool false)],[])) (cond (decide ((orI .i64 (shlI .i64 (IntKind.i64.wrap i8) 8) (IntKind.i64.wrap i11)) > 60000)) (some ([.one (Cell.str (bs [])),.one (Cell.int 0),.one (Cell.bool false)],[])) ((slcC 1 (c1) (IntKind.i64.wrap (i2+2)) (some (IntKind.i64.wrap ((IntKind.i64.wrap (i2+2))+(orI .i64 (shlI .i64 (IntKind.i64.wrap i8) 8) (IntKind.i64.wrap i11))))) none).bind fun c13=>(bytesOf [] (c13)).bind fun s14=>some ([.one (Cell.str s14),.one (Cell.int (IntKind.i64.wrap ((IntKind.i64.wrap (i2+2))+(orI .i64 (shlI .i64 (IntKind.i64.wrap i8) 8) (IntKind.i64.wrap i11))))),.one (Cell.bool true)],[]))))) none
theorem qpob (k m:Nat)(c1:Cell)(i2:Int):evC qcic qwz (evF qcic (k+1)) m qwz.code none (retK qcic qwz) (enter qwz [.one (c1),.one (Cell.int i2)] [])=fbo (k+1) m c1 i2:=by
 kernel_rfl
theorem qcgb {c1:Cell}{i2:Int}{r:Res}(k:Nat)(h:fbo (k+1) (k+1) c1 i2=some r):qnn [.one (c1),.one (Cell.int i2)] []=some r:=qan (k:=k+2) (Eq.trans (Eq.trans (by kernel_rfl) (qpob k (k+1) c1 i2)) h)
def qwgb:List (Nat×Run):=[(quh,qnn)]
def qeac:Ctx:=ctx qbe qbd qwgb
def qdk:Run:=lim qeac qsl
theorem ok_fcf:FnOk Tryd.prog OkT qsl qdk:=qam (l:=qwgb) qac tyTab_ok qad okT (.cons ok_fbo .nil) qsl
def fcf (k m:Nat)(c1:Cell)(H:List Entry):Option Res:=(ptrC c1).bind fun c2=>(fldA c2 0).bind fun c3=>(deref H (c3)).bind fun p4=>(cC p4.1 p4.2).bind fun c5=>(ptrC c1).bind fun c6=>(fldA c6 1).bind fun c7=>(deref H (c7)).bind fun p8=>(cI .i64 p8.1 p8.2).bind fun i9=>(qba qnn [.one (c5),.one (Cell.int i9)] H).bind fun r10=>cond (qab qyeb r10) ((cS (qaa r10 0) 0).bind fun s11=>(cI .i64 (qaa r10 1) 0).bind fun i12=>(cB (qaa r10 2) 0).bind fun b13=>(ptrC c1).bind fun c14=>(fldA c14 2).bind fun c15=>(deref H (c15)).bind fun p16=>(cB p16.1 p16.2).bind fun b17=>cond b17 ((ptrC c1).bind fun c18=>(fldA c18 2).bind fun c19=>(qby H (c19) [Cell.bool true]).bind fun h20=>some ([.one (Cell.str (bs []))],h20)) (cond (!b13) ((ptrC c1).bind fun c21=>(fldA c21 2).bind fun c22=>(qby H (c22) [Cell.bool true]).bind fun h23=>some ([.one (Cell.str (bs []))],h23)) ((ptrC c1).bind fun c24=>(fldA c24 1).bind fun c25=>(qby H (c25) [Cell.int i12]).bind fun h26=>some ([.one (Cell.str s11)],h26)))) none
theorem qqkb (k m:Nat)(c1:Cell)(H:List Entry):evC qeac qxz (evF qeac (k+1)) m qxz.code none (retK qeac qxz) (enter qxz [.one (c1)] H)=fcf (k+1) m c1 H:=by
 kernel_rfl
theorem qbcb {c1:Cell}{H:List Entry}{r:Res}(k:Nat)(h:fcf (k+1) (k+1) c1 H=some r):qdk [.one (c1)] H=some r:=qan (k:=k+2) (Eq.trans (Eq.trans (by kernel_rfl) (qqkb k (k+1) c1 H)) h)
def qwib:List (Nat×Run):=[(qll,qfy),(qgb,qcf)]
def qgub:Ctx:=ctx qbe qbd qwib
def qjm:Run:=lim qgub qtc
theorem ok_fbs:FnOk Tryd.prog OkT qtc qjm:=qam (l:=qwib) qac tyTab_ok qad okT (.cons qsgb (.cons qyv .nil)) qtc
def qqw (k m:Nat):Nat→ByteArray→Int→Int→Int→Option Res | 0,_,_,_,_=>none | n+1,s3,i4,i5,i6=>cond (decide (i6 < (s3.size:Int))) (cond (decide (i6 < 8)) ((bytS s3 i6).bind fun i7=>(qba qfy [.one (.sc (.int .u8 i7))] []).bind fun r8=>cond (qab qjyb r8) ((cB (qaa r8 0) 0).bind fun b9=>cond (!b9) (some ([.one (Cell.int 0),.one (Cell.bool false)],[])) ((bytS s3 i6).bind fun i10=>qqw k m n s3 i4 (IntKind.i64.wrap ((IntKind.i64.wrap (i5*10))+(IntKind.i64.wrap (IntKind.u8.wrap (i10 - 48))))) (IntKind.i64.wrap (i6+1)))) none) ((qba qcf [.one (Cell.int (s3.size:Int)),.one (Cell.int 1),.one (Cell.int 7)] []).bind fun r11=>cond (qab qmi r11) ((cB (qaa r11 0) 0).bind fun b12=>cond (!b12) (some ([.one (Cell.int 0),.one (Cell.bool false)],[])) (cond (decide ((s3.size:Int) > 1)) ((bytS s3 0).bind fun i13=>cond (i13==48) (some ([.one (Cell.int 0),.one (Cell.bool false)],[])) (cond (decide (i5 > i4)) (some ([.one (Cell.int 0),.one (Cell.bool false)],[])) (some ([.one (Cell.int i5),.one (Cell.bool true)],[])))) (cond (decide (i5 > i4)) (some ([.one (Cell.int 0),.one (Cell.bool false)],[])) (some ([.one (Cell.int i5),.one (Cell.bool true)],[]))))) none)) ((qba qcf [.one (Cell.int (s3.size:Int)),.one (Cell.int 1),.one (Cell.int 7)] []).bind fun r14=>cond (qab qmi r14) ((cB (qaa r14 0) 0).bind fun b15=>cond (!b15) (some ([.one (Cell.int 0),.one (Cell.bool false)],[])) (cond (decide ((s3.size:Int) > 1)) ((bytS s3 0).bind fun i16=>cond (i16==48) (some ([.one (Cell.int 0),.one (Cell.bool false)],[])) (cond (decide (i5 > i4)) (some ([.one (Cell.int 0),.one (Cell.bool false)],[])) (some ([.one (Cell.int i5),.one (Cell.bool true)],[])))) (cond (decide (i5 > i4)) (some ([.one (Cell.int 0),.one (Cell.bool false)],[])) (some ([.one (Cell.int i5),.one (Cell.bool true)],[]))))) none)
def fbs (k m:Nat)(s1:ByteArray)(i2:Int):Option Res:=qqw k m m s1 i2 0 0
abbrev qoub (k m:Nat):TB:=evC qgub qjz (evF qgub (k+1)) m (sub [1,1,0,1,2,3] qjz.code) none
abbrev qrjb (k m:Nat):TK:=qbu 0 (seqK (evC qgub qjz (evF qgub (k+1)) m (sub [1,1,1] qjz.code) none) (retK qgub qjz))
theorem qleb (k m:Nat):∀ (n:Nat) (s3:ByteArray) (i4 i5 i6:Int),qdp (some [0,1,6,7]) (qoub k m) (qrjb k m) n ⟨fT 51 0 [(0,.av (.one (Cell.str s3))),(1,.av (.one (Cell.int i4))),(6,.av (.one (Cell.int i5))),(7,.av (.one (Cell.int i6)))],fX 51 0 [],[]⟩=qqw (k+1) m n s3 i4 i5 i6:=by
 intro n
 induction n with
 | zero=>intros;rfl
 | succ n ih=>intros;simp only[qqw,← ih];kernel_rfl
theorem qqub (k m:Nat)(s1:ByteArray)(i2:Int):evC qgub qjz (evF qgub (k+1)) m qjz.code none (retK qgub qjz) (enter qjz [.one (Cell.str s1),.one (Cell.int i2)] [])=fbs (k+1) m s1 i2:=by
 simp only[fbs,← qleb k m]
 kernel_rfl
theorem qahb {s1:ByteArray}{i2:Int}{r:Res}(k:Nat)(h:fbs (k+1) (k+1) s1 i2=some r):qjm [.one (Cell.str s1),.one (Cell.int i2)] []=some r:=qan (k:=k+2) (Eq.trans (Eq.trans (by kernel_rfl) (qqub k (k+1) s1 i2)) h)
def qzrb:List (Nat×Run):=[(qln,qdx),(qsl,qdk),(qtc,qjm)]
def qitb:Ctx:=ctx qbe qbd qzrb
def qpf:Run:=lim qitb qum
theorem ok_fbn:FnOk Tryd.prog OkT qum qpf:=qam (l:=qzrb) qac tyTab_ok qad okT (.cons qtib (.cons ok_fcf (.cons ok_fbs .nil))) qum
def qko (k m:Nat):Nat→Int→Int→Bool→Int→ByteArray→Cell→ByteArray→List Entry→Option Res | 0,_,_,_,_,_,_,_,_=>none | n+1,i22,i23,b24,i25,s26,c27,s28,H29=>cond (decide (i25 < i23)) (cond b24 ((deref H29 (.ptr 0 3 0 2 0)).bind fun p30=>(cB p30.1 p30.2).bind fun b31=>cond (!b31) ((qdk [.one (.ptr 0 3 0 0 0)] H29).bind fun r32=>cond (qab qmh r32.1) ((cS (qaa r32.1 0) 0).bind fun s33=>(qdk [.one (.ptr 0 3 0 0 0)] r32.2).bind fun r34=>cond (qab qmh r34.1) ((cS (qaa r34.1 0) 0).bind fun s35=>(app r34.2 2 32 (c27) [[Cell.str s33,Cell.str s35]]).bind fun p36=>qko k m n i22 i23 b24 (IntKind.i64.wrap (i25+1)) s26 (p36.1) s28 p36.2) none) none) ((deref H29 (.ptr 0 3 0 2 0)).bind fun p37=>(cB p37.1 p37.2).bind fun b38=>cond b38 (some ([.agg [Cell.str (bs []),.lst true 2 [],Cell.str (bs [])],.one (Cell.bool false)],H29)) (cond (!b24) (some ([.agg [Cell.str (bs []),.lst true 2 [],Cell.str (bs [])],.one (Cell.bool false)],H29)) ((deref H29 (.ptr 0 3 0 1 0)).bind fun p39=>(cI .i64 p39.1 p39.2).bind fun i40=>cond (i40 != i22) (some ([.agg [Cell.str (bs []),.lst true 2 [],Cell.str (bs [])],.one (Cell.bool false)],H29)) (some ([.agg [Cell.str s26,c27,Cell.str s28],.one (Cell.bool true)],H29)))))) ((deref H29 (.ptr 0 3 0 2 0)).bind fun p41=>(cB p41.1 p41.2).bind fun b42=>cond b42 (some ([.agg [Cell.str (bs []),.lst true 2 [],Cell.str (bs [])],.one (Cell.bool false)],H29)) (cond (!b24) (some ([.agg [Cell.str (bs []),.lst true 2 [],Cell.str (bs [])],.one (Cell.bool false)],H29)) ((deref H29 (.ptr 0 3 0 1 0)).bind fun p43=>(cI .i64 p43.1 p43.2).bind fun i44=>cond (i44 != i22) (some ([.agg [Cell.str (bs []),.lst true 2 [],Cell.str (bs [])],.one (Cell.bool false)],H29)) (some ([.agg [Cell.str s26,c27,Cell.str s28],.one (Cell.bool true)],H29)))))) ((deref H29 (.ptr 0 3 0 2 0)).bind fun p45=>(cB p45.1 p45.2).bind fun b46=>cond b46 (some ([.agg [Cell.str (bs []),.lst true 2 [],Cell.str (bs [])],.one (Cell.bool false)],H29)) (cond (!b24) (some ([.agg [Cell.str (bs []),.lst true 2 [],Cell.str (bs [])],.one (Cell.bool false)],H29)) ((deref H29 (.ptr 0 3 0 1 0)).bind fun p47=>(cI .i64 p47.1 p47.2).bind fun i48=>cond (i48 != i22) (some ([.agg [Cell.str (bs []),.lst true 2 [],Cell.str (bs [])],.one (Cell.bool false)],H29)) (some ([.agg [Cell.str s26,c27,Cell.str s28],.one (Cell.bool true)],H29)))))
def fbn (k m:Nat)(c1:Cell):Option Res:=(lenC c1).bind fun n2=>cond (decide ((IntKind.i64.wrap ((n2:Int) - 2)) < 0)) (some ([.agg [Cell.str (bs []),.lst true 2 [],Cell.str (bs [])],.one (Cell.bool false)],[])) ((slcC 1 (c1) 0 (some (IntKind.i64.wrap ((n2:Int) - 2))) none).bind fun c3=>(slcC 1 (c1) 0 (some (IntKind.i64.wrap ((n2:Int) - 2))) none).bind fun c4=>(qba qdx [.one (c4)] []).bind fun r5=>cond (qab qikb r5) ((cI .i64 (qaa r5 0) 0).bind fun i6=>(idxA 1 (c1) (IntKind.i64.wrap ((n2:Int) - 2))).bind fun c7=>(deref [] (c7)).bind fun p8=>(cI .u8 p8.1 p8.2).bind fun i9=>(idxA 1 (c1) (IntKind.i64.wrap ((IntKind.i64.wrap ((n2:Int) - 2))+1))).bind fun c10=>(deref [] (c10)).bind fun p11=>(cI .u8 p11.1 p11.2).bind fun i12=>(qdk [.one (.ptr 0 3 0 0 0)] [Entry.mk 3 [[c3,Cell.int 0,Cell.bool (i6 != (orI .i64 (shlI .i64 (IntKind.i64.wrap i9) 8) (IntKind.i64.wrap i12)))]] 0 false]).bind fun r13=>cond (qab qmh r13.1) ((cS (qaa r13.1 0) 0).bind fun s14=>(qdk [.one (.ptr 0 3 0 0 0)] r13.2).bind fun r15=>cond (qab qmh r15.1) ((cS (qaa r15.1 0) 0).bind fun s16=>(qdk [.one (.ptr 0 3 0 0 0)] r15.2).bind fun r17=>cond (qab qmh r17.1) ((cS (qaa r17.1 0) 0).bind fun s18=>(qba qjm [.one (Cell.str s18),.one (Cell.int 1000)] r17.2).bind fun r19=>cond (qab qrmb r19) ((cI .i64 (qaa r19 0) 0).bind fun i20=>(cB (qaa r19 1) 0).bind fun b21=>qko k m m (IntKind.i64.wrap ((n2:Int) - 2)) i20 b21 0 s14 (.lst true 2 []) s16 r17.2) none) none) none) none) none)
abbrev qppb (k m:Nat):TB:=evC qitb qkc (evF qitb (k+1)) m (sub [1,1,1,1,1,1,1,0,1,2,3] qkc.code) none
abbrev qtfb (k m:Nat):TK:=qbu 0 (seqK (evC qitb qkc (evF qitb (k+1)) m (sub [1,1,1,1,1,1,1,1] qkc.code) none) (retK qitb qkc))
theorem qfpb (k m:Nat):∀ (n:Nat) (i22 i23:Int) (b24:Bool) (i25:Int) (s26:ByteArray) (c27:Cell) (s28:ByteArray) (H29:List Entry),qdp (some [2,4,5,6,7,8,9]) (qppb k m) (qtfb k m) n ⟨fT 97 0 [(2,.loc 2 0),(4,.av (.one (Cell.int i22))),(5,.av (.one (.ptr 0 3 0 0 0))),(6,.loc 6 0),(7,.av (.one (Cell.int i23))),(8,.av (.one (Cell.bool b24))),(9,.av (.one (Cell.int i25)))],fX 97 0 [(2,[Cell.str (bs []),.lst true 2 [],Cell.str (bs [])]),(6,[Cell.str s26,c27,Cell.str s28])],H29⟩=qko (k+1) m n i22 i23 b24 i25 s26 c27 s28 H29:=by
 intro n
 induction n with
 | zero=>intros;rfl
 | succ n ih=>intros;simp only[qko,← ih];kernel_rfl
theorem qnob (k m:Nat)(c1:Cell):evC qitb qkc (evF qitb (k+1)) m qkc.code none (retK qitb qkc) (enter qkc [.one (c1)] [])=fbn (k+1) m c1:=by
 simp only[fbn,← qfpb k m]
 kernel_rfl
theorem qnw {c1:Cell}{r:Res}(k:Nat)(h:fbn (k+1) (k+1) c1=some r):qpf [.one (c1)] []=some r:=qan (k:=k+2) (Eq.trans (Eq.trans (by kernel_rfl) (qnob k (k+1) c1)) h)
def quwb:List (Nat×Run):=[(qjl,qdz),(qju,qdo)]
def qdsc:Ctx:=ctx qbe qbd quwb
def qng:Run:=lim qdsc qvq
theorem ok_fbj:FnOk Tryd.prog OkT qvq qng:=qam (l:=quwb) qac tyTab_ok qad okT (.cons qkhb (.cons qipb .nil)) qvq
def fbj (k m:Nat)(c1:Cell):Option Res:=(qdz [.one (c1)] []).bind fun r2=>cond (qab qcnb r2.1) ((cC (qaa r2.1 0) 0).bind fun c3=>(qdo [.one (c3)] r2.2).bind fun r4=>cond (qab qwy r4.1) ((cS (qaa r4.1 0) 0).bind fun s5=>(cC (qaa r4.1 0) 1).bind fun c6=>(cS (qaa r4.1 0) 2).bind fun s7=>some ([.agg [Cell.str s5,c6,Cell.str s7]],r4.2)) none) none
theorem qoqb (k m:Nat)(c1:Cell):evC qdsc qyg (evF qdsc (k+1)) m qyg.code none (retK qdsc qyg) (enter qyg [.one (c1)] [])=fbj (k+1) m c1:=by
 kernel_rfl
theorem qbab {c1:Cell}{r:Res}(k:Nat)(h:fbj (k+1) (k+1) c1=some r):qng [.one (c1)] []=some r:=qan (k:=k+2) (Eq.trans (Eq.trans (by kernel_rfl) (qoqb k (k+1) c1)) h)
def qxqb:List (Nat×Run):=[(qfn,qbo)]
def qcuc:Ctx:=ctx qbe qbd qxqb
def qqa:Run:=lim qcuc qtu
theorem ok_fcm:FnOk Tryd.prog OkT qtu qqa:=qam (l:=qxqb) qac tyTab_ok qad okT (.cons qwp .nil) qtu
def fcm (k m:Nat)(c1:Cell)(i2:Int)(H:List Entry):Option Res:=(qbo [.one (c1),.one (Cell.int i2)] H).bind fun r3=>cond (qab qhe r3.1) ((cI .i64 (qaa r3.1 0) 0).bind fun i4=>some ([.one (Cell.bool (i4==0))],r3.2)) none
theorem qucb (k m:Nat)(c1:Cell)(i2:Int)(H:List Entry):evC qcuc qxe (evF qcuc (k+1)) m qxe.code none (retK qcuc qxe) (enter qxe [.one (c1),.one (Cell.int i2)] H)=fcm (k+1) m c1 i2 H:=by
 kernel_rfl
theorem qbmb {c1:Cell}{i2:Int}{H:List Entry}{r:Res}(k:Nat)(h:fcm (k+1) (k+1) c1 i2 H=some r):qqa [.one (c1),.one (Cell.int i2)] H=some r:=qan (k:=k+2) (Eq.trans (Eq.trans (by kernel_rfl) (qucb k (k+1) c1 i2 H)) h)
def qafc:List (Nat×Run):=[]
def qdxc:Ctx:=ctx qbe qbd qafc
def qpk:Run:=lim qdxc qtt
theorem ok_fbz:FnOk Tryd.prog OkT qtt qpk:=qam (l:=qafc) qac tyTab_ok qad okT .nil qtt
def fbz (k m:Nat)(s1:ByteArray)(c2:Cell)(s3:ByteArray):Option Res:=(qbw [] 2 c2).bind fun r4=>(app [] 2 32 (.lst true 2 []) r4).bind fun p5=>some ([.agg [Cell.str s1,p5.1,Cell.str s3]],p5.2)
theorem qqpb (k m:Nat)(s1:ByteArray)(c2:Cell)(s3:ByteArray):evC qdxc qyw (evF qdxc (k+1)) m qyw.code none (retK qdxc qyw) (enter qyw [.agg [Cell.str s1,c2,Cell.str s3]] [])=fbz (k+1) m s1 c2 s3:=by
 kernel_rfl
theorem qbpb {s1:ByteArray}{c2:Cell}{s3:ByteArray}{r:Res}(k:Nat)(h:fbz (k+1) (k+1) s1 c2 s3=some r):qpk [.agg [Cell.str s1,c2,Cell.str s3]] []=some r:=qan (k:=k+2) (Eq.trans (Eq.trans (by kernel_rfl) (qqpb k (k+1) s1 c2 s3)) h)
def qvnb:List (Nat×Run):=[(qjl,qdz),(qju,qdo),(qtu,qqa),(qtt,qpk)]
def qczc:Ctx:=ctx qbe qbd qvnb
def qni:Run:=lim qczc qta
theorem ok_fbl:FnOk Tryd.prog OkT qta qni:=qam (l:=qvnb) qac tyTab_ok qad okT (.cons qkhb (.cons qipb (.cons ok_fcm (.cons ok_fbz .nil)))) qta
def fbl (k m:Nat)(c1:Cell):Option Res:=(qdz [.one (c1)] []).bind fun r2=>cond (qab qcnb r2.1) ((cC (qaa r2.1 0) 0).bind fun c3=>(qdo [.one (c3)] r2.2).bind fun r4=>cond (qab qwy r4.1) ((cS (qaa r4.1 0) 0).bind fun s5=>(cC (qaa r4.1 0) 1).bind fun c6=>(cS (qaa r4.1 0) 2).bind fun s7=>(qqa [.one (c3),.one (Cell.int 2)] r4.2).bind fun r8=>cond (qab qypb r8.1) ((cB (qaa r8.1 0) 0).bind fun b9=>cond b9 ((qcr qpk [.agg [Cell.str s5,c6,Cell.str s7]] r8.2).bind fun r10=>cond (qab qxab r10.1) ((cS (qaa r10.1 0) 0).bind fun s11=>(cC (qaa r10.1 0) 1).bind fun c12=>(cS (qaa r10.1 0) 2).bind fun s13=>some ([.agg [Cell.str s5,c6,Cell.str s7],.agg [Cell.str s11,c12,Cell.str s13]],r10.2)) none) ((qdo [.one (c3)] r8.2).bind fun r14=>cond (qab qwy r14.1) ((cS (qaa r14.1 0) 0).bind fun s15=>(cC (qaa r14.1 0) 1).bind fun c16=>(cS (qaa r14.1 0) 2).bind fun s17=>some ([.agg [Cell.str s5,c6,Cell.str s7],.agg [Cell.str s15,c16,Cell.str s17]],r14.2)) none)) none) none) none
theorem qnib (k m:Nat)(c1:Cell):evC qczc qya (evF qczc (k+1)) m qya.code none (retK qczc qya) (enter qya [.one (c1)] [])=fbl (k+1) m c1:=by
 kernel_rfl
theorem qoo {c1:Cell}{r:Res}(k:Nat)(h:fbl (k+1) (k+1) c1=some r):qni [.one (c1)] []=some r:=qan (k:=k+2) (Eq.trans (Eq.trans (by kernel_rfl) (qnib k (k+1) c1)) h)
def qxhb:List (Nat×Run):=[]
def qkxb:Ctx:=ctx qbe qbd qxhb
def qnp:Run:=lim qkxb qvu
theorem ok_fbf:FnOk Tryd.prog OkT qvu qnp:=qam (l:=qxhb) qac tyTab_ok qad okT .nil qvu
def qrh (k m:Nat):Nat→Cell→Cell→Int→Option Res | 0,_,_,_=>none | n+1,c5,c6,i7=>(lenC c5).bind fun n8=>cond (decide (i7 < (n8:Int))) ((idxA 2 (c5) i7).bind fun c9=>(deref [] (c9)).bind fun p10=>(cS p10.1 p10.2).bind fun s11=>(cS p10.1 (p10.2+1)).bind fun s12=>(idxA 2 (c6) i7).bind fun c13=>(deref [] (c13)).bind fun p14=>(cS p14.1 p14.2).bind fun s15=>(cS p14.1 (p14.2+1)).bind fun s16=>(qbj [.str,.str] [Cell.str s11,Cell.str s12] [Cell.str s15,Cell.str s16]).bind fun b17=>cond (!b17) (some ([.one (Cell.bool false)],[])) (qrh k m n (c5) (c6) (IntKind.i64.wrap (i7+1)))) (some ([.one (Cell.bool true)],[]))
def fbf (k m:Nat)(c1 c2:Cell):Option Res:=(lenC c1).bind fun n3=>(lenC c2).bind fun n4=>cond ((n3:Int) != (n4:Int)) (some ([.one (Cell.bool false)],[])) (qrh k m m (c1) (c2) 0)
abbrev qqfb (k m:Nat):TB:=evC qkxb qin (evF qkxb (k+1)) m (sub [1,1,0,1,2,3] qin.code) none
abbrev qnyb (k m:Nat):TK:=qbu 0 (seqK (evC qkxb qin (evF qkxb (k+1)) m (sub [1,1,1] qin.code) none) (retK qkxb qin))
theorem qlgb (k m:Nat):∀ (n:Nat) (c5 c6:Cell) (i7:Int),qdp (some [0,1,5]) (qqfb k m) (qnyb k m) n ⟨fT 26 0 [(0,.av (.one (c5))),(1,.av (.one (c6))),(5,.av (.one (Cell.int i7)))],fX 26 0 [],[]⟩=qrh (k+1) m n c5 c6 i7:=by
 intro n
 induction n with
 | zero=>intros;rfl
 | succ n ih=>intros;simp only[qrh,← ih];kernel_rfl
theorem qudb (k m:Nat)(c1 c2:Cell):evC qkxb qin (evF qkxb (k+1)) m qin.code none (retK qkxb qin) (enter qin [.one (c1),.one (c2)] [])=fbf (k+1) m c1 c2:=by
 simp only[fbf,← qlgb k m]
 kernel_rfl
theorem qcob {c1 c2:Cell}{r:Res}(k:Nat)(h:fbf (k+1) (k+1) c1 c2=some r):qnp [.one (c1),.one (c2)] []=some r:=qan (k:=k+2) (Eq.trans (Eq.trans (by kernel_rfl) (qudb k (k+1) c1 c2)) h)
def qykb:List (Nat×Run):=[(qvu,qnp)]
def qdtc:Ctx:=ctx qbe qbd qykb
def qdw:Run:=lim qdtc qub
theorem ok_fbg:FnOk Tryd.prog OkT qub qdw:=qam (l:=qykb) qac tyTab_ok qad okT (.cons ok_fbf .nil) qub
def fbg (k m:Nat)(s1:ByteArray)(c2:Cell)(s3 s4:ByteArray)(c5:Cell)(s6:ByteArray):Option Res:=cond (s1.toList==s4.toList) (cond (s3.toList==s6.toList) ((qba qnp [.one (c2),.one (c5)] []).bind fun r7=>cond (qab qwyb r7) ((cB (qaa r7 0) 0).bind fun b8=>some ([.one (Cell.bool b8)],[])) none) (some ([.one (Cell.bool false)],[]))) (some ([.one (Cell.bool false)],[]))
theorem qrnb (k m:Nat)(s1:ByteArray)(c2:Cell)(s3 s4:ByteArray)(c5:Cell)(s6:ByteArray):evC qdtc qwd (evF qdtc (k+1)) m qwd.code none (retK qdtc qwd) (enter qwd [.agg [Cell.str s1,c2,Cell.str s3],.agg [Cell.str s4,c5,Cell.str s6]] [])=fbg (k+1) m s1 c2 s3 s4 c5 s6:=by
 kernel_rfl
theorem qbjb {s1:ByteArray}{c2:Cell}{s3 s4:ByteArray}{c5:Cell}{s6:ByteArray}{r:Res}(k:Nat)(h:fbg (k+1) (k+1) s1 c2 s3 s4 c5 s6=some r):qdw [.agg [Cell.str s1,c2,Cell.str s3],.agg [Cell.str s4,c5,Cell.str s6]] []=some r:=qan (k:=k+2) (Eq.trans (Eq.trans (by kernel_rfl) (qrnb k (k+1) s1 c2 s3 s4 c5 s6)) h)
def qvrb:List (Nat×Run):=[]
def G_faw:Ctx:=ctx qbe qbd qvrb
def qmeb:Run:=lim G_faw qvb
theorem ok_faw:FnOk Tryd.prog OkT qvb qmeb:=qam (l:=qvrb) qac tyTab_ok qad okT .nil qvb
end
end Go.Ev
