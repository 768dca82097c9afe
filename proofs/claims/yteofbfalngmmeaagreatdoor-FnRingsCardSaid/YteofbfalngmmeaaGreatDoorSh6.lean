/- What the evaluator says of the functions, each as a Lean function over cells. Printed by a program of this claim. Conditions: none. -/
import Derived.Test.YteofbfalngmmeaaGreatDoorSh5
import Derived.KernelRfl
namespace Go.Ev
open Go Go.Proofs
noncomputable section
set_option maxRecDepth 100000
set_option linter.unusedVariables false
set_option linter.unusedSimpArgs false
def qygc:List (Nat×Run):=[(qgo,qby),(qvh,qfs)]
def qbkc:Ctx:=ctx qbi qbh qygc
def qlj:Run:=lim qbkc qyb
theorem qzlc:FnOk Tryz.prog OkT qyb qlj:=qao (l:=qygc) qac tyTab_ok qad okT (.cons qwx (.cons qded .nil)) qyb
def qwc (k m:Nat):Nat→Cell→ByteArray→Cell→Int→List Entry→Option Res | 0,_,_,_,_,_=>none | n+1,c3,s4,c5,i6,H7=>(lenC c3).bind fun n8=>cond (decide (i6 < (n8:Int))) ((idxA 4 (c3) i6).bind fun c9=>(fldA c9 1).bind fun c10=>(deref H7 (c10)).bind fun p11=>(cC p11.1 p11.2).bind fun c12=>(qbc qby [.one (c12),.one (Cell.str s4)] H7).bind fun r13=>cond (qab qqn r13) ((cB (qaa r13 0) 0).bind fun b14=>cond b14 ((idxA 4 (c3) i6).bind fun c15=>(fldA c15 0).bind fun c16=>(deref H7 (c16)).bind fun p17=>(cS p17.1 p17.2).bind fun s18=>(app H7 1 16 (c5) [[Cell.str s18]]).bind fun p19=>qwc k m n (c3) s4 (p19.1) (IntKind.i64.wrap (i6+1)) p19.2) (qwc k m n (c3) s4 (c5) (IntKind.i64.wrap (i6+1)) H7)) none) ((callL qfs [.one (c5)] H7).bind fun r20=>cond (qab qnnc r20.1) ((cC (qaa r20.1 0) 0).bind fun c21=>some ([.one (c21)],r20.2)) none)
def fda (k m:Nat)(c1:Cell)(s2:ByteArray):Option Res:=qwc k m m (c1) s2 (.lst true 1 []) 0 []
abbrev qhbc (k m:Nat):TB:=evC qbkc qnk (evF qbkc (k+1)) m (sub [1,1,0,1,2,3] qnk.code) none
abbrev qgxc (k m:Nat):TK:=qaw 0 (seqK (evC qbkc qnk (evF qbkc (k+1)) m (sub [1,1,1] qnk.code) none) (retK qbkc qnk))
theorem qvzb (k m:Nat):∀ (n:Nat) (c3:Cell) (s4:ByteArray) (c5:Cell) (i6:Int) (H7:List Entry),qbj (some [0,1,5,6]) (qhbc k m) (qgxc k m) n ⟨fT 31 0 [(0,.av (.one (c3))),(1,.av (.one (Cell.str s4))),(5,.av (.one (c5))),(6,.av (.one (Cell.int i6)))],fX 31 0 [],H7⟩=qwc (k+1) m n c3 s4 c5 i6 H7:=by
 intro n
 induction n with
 | zero=>intros;rfl
 | succ n ih=>intros;simp only[qwc,← ih];kernel_rfl
theorem qitc (k m:Nat)(c1:Cell)(s2:ByteArray):evC qbkc qnk (evF qbkc (k+1)) m qnk.code none (retK qbkc qnk) (enter qnk [.one (c1),.one (Cell.str s2)] [])=fda (k+1) m c1 s2:=by
 simp only[fda,← qvzb k m]
 kernel_rfl
theorem qnab {c1:Cell}{s2:ByteArray}{r:Res}(k:Nat)(h:fda (k+1) (k+1) c1 s2=some r):qlj [.one (c1),.one (Cell.str s2)] []=some r:=qap (k:=k+2) (Eq.trans (Eq.trans (by kernel_rfl) (qitc k (k+1) c1 s2)) h)
def qbfd:List (Nat×Run):=[(qyb,qlj),(qqu,qfe),(qqf,qfm)]
def qbic:Ctx:=ctx qbi qbh qbfd
def qyt:Run:=lim qbic qfvb
theorem ok_fcq:FnOk Tryz.prog OkT qfvb qyt:=qao (l:=qbfd) qac tyTab_ok qad okT (.cons qzlc (.cons qjlc (.cons qwqb .nil))) qfvb
def qaib (k m:Nat):Nat→Cell→ByteArray→Int→Cell→Cell→List Entry→Option Res | 0,_,_,_,_,_,_=>none | n+1,c3,s4,i5,c6,c7,H8=>(lenC c3).bind fun n9=>cond (decide (i5 < (n9:Int))) ((idxA 4 (c3) i5).bind fun c10=>(fldA c10 0).bind fun c11=>(deref H8 (c11)).bind fun p12=>(cS p12.1 p12.2).bind fun s13=>(app H8 1 16 (c6) [[Cell.str s13]]).bind fun p14=>(idxA 4 (c3) i5).bind fun c15=>(fldA c15 0).bind fun c16=>(deref p14.2 (c16)).bind fun p17=>(cS p17.1 p17.2).bind fun s18=>(callL qlj [.one (c3),.one (Cell.str s18)] []).bind fun r19=>cond (qab qtqb r19.1) ((cC (qaa r19.1 0) 0).bind fun c20=>qsw r19.2 (restK [c20] fun d21=>(qah p14.2 1 (.lst true 1 (chunks 1 1 d21))).bind fun r22=>(app p14.2 1 24 (c7) r22).bind fun p23=>qaib k m n (c3) s4 (IntKind.i64.wrap (i5+1)) (p14.1) (p23.1) p23.2)) none) ((qbc qfm [.agg [c6,c7],.one (Cell.str s4)] H8).bind fun r24=>cond (qab qmub r24) ((cI .i64 (qaa r24 0) 0).bind fun i25=>cond (decide (i25 < 0)) ((app H8 1 16 (c6) [[Cell.str s4]]).bind fun p26=>(callL qlj [.one (c3),.one (Cell.str s4)] []).bind fun r27=>cond (qab qtqb r27.1) ((cC (qaa r27.1 0) 0).bind fun c28=>qsw r27.2 (restK [c28] fun d29=>(qah p26.2 1 (.lst true 1 (chunks 1 1 d29))).bind fun r30=>(app p26.2 1 24 (c7) r30).bind fun p31=>(callL qfe [.agg [p26.1,p31.1],.one (Cell.str s4)] p31.2).bind fun r32=>cond (qab qnfb r32.1) ((cC (qaa r32.1 0) 0).bind fun c33=>some ([.one (c33)],r32.2)) none)) none) ((callL qfe [.agg [c6,c7],.one (Cell.str s4)] H8).bind fun r34=>cond (qab qnfb r34.1) ((cC (qaa r34.1 0) 0).bind fun c35=>some ([.one (c35)],r34.2)) none)) none)
def fcq (k m:Nat)(c1:Cell)(s2:ByteArray):Option Res:=qaib k m m (c1) s2 0 (.lst true 1 []) (.lst true 1 []) []
abbrev qgmc (k m:Nat):TB:=evC qbic qmu (evF qbic (k+1)) m (sub [1,1,0,1,2,3] qmu.code) none
abbrev qmzc (k m:Nat):TK:=qaw 0 (seqK (evC qbic qmu (evF qbic (k+1)) m (sub [1,1,1] qmu.code) none) (retK qbic qmu))
theorem qwhb (k m:Nat):∀ (n:Nat) (c3:Cell) (s4:ByteArray) (i5:Int) (c6 c7:Cell) (H8:List Entry),qbj (some [0,1,5,6]) (qgmc k m) (qmzc k m) n ⟨fT 57 0 [(0,.av (.one (c3))),(1,.av (.one (Cell.str s4))),(5,.loc 5 0),(6,.av (.one (Cell.int i5)))],fX 57 0 [(5,[c6,c7])],H8⟩=qaib (k+1) m n c3 s4 i5 c6 c7 H8:=by
 intro n
 induction n with
 | zero=>intros;rfl
 | succ n ih=>intros;simp only[qaib,← ih];kernel_rfl
theorem qhsc (k m:Nat)(c1:Cell)(s2:ByteArray):evC qbic qmu (evF qbic (k+1)) m qmu.code none (retK qbic qmu) (enter qmu [.one (c1),.one (Cell.str s2)] [])=fcq (k+1) m c1 s2:=by
 simp only[fcq,← qwhb k m]
 kernel_rfl
theorem qnnb {c1:Cell}{s2:ByteArray}{r:Res}(k:Nat)(h:fcq (k+1) (k+1) c1 s2=some r):qyt [.one (c1),.one (Cell.str s2)] []=some r:=qap (k:=k+2) (Eq.trans (Eq.trans (by kernel_rfl) (qhsc k (k+1) c1 s2)) h)
def qyqc:List (Nat×Run):=[(qlf,qfo),(qej,qkf),(qxu,qll)]
def qeed:Ctx:=ctx qbi qbh qyqc
def qug:Run:=lim qeed qgxb
theorem ok_fap:FnOk Tryz.prog OkT qgxb qug:=qao (l:=qyqc) qac tyTab_ok qad okT (.cons qptb (.cons qhic (.cons qync .nil))) qgxb
def fap (k m:Nat)(c1:Cell)(s2:ByteArray):Option Res:=(qfo [.one (c1)] []).bind fun r3=>cond (qab qkjb r3.1) ((cC (qaa r3.1 0) 0).bind fun c4=>(qkf [.one (c4),.one (Cell.str s2)] r3.2).bind fun r5=>cond (qab qjzc r5.1) ((cC (qaa r5.1 0) 0).bind fun c6=>(qfd qll [.one (c6)] r5.2).bind fun r7=>cond (qab qttb r7.1) ((cC (qaa r7.1 0) 0).bind fun c8=>some ([.one (c8)],r7.2)) none) none) none
theorem qggc (k m:Nat)(c1:Cell)(s2:ByteArray):evC qeed qjqb (evF qeed (k+1)) m qjqb.code none (retK qeed qjqb) (enter qjqb [.one (c1),.one (Cell.str s2)] [])=fap (k+1) m c1 s2:=by
 kernel_rfl
theorem qqdb {c1:Cell}{s2:ByteArray}{r:Res}(k:Nat)(h:fap (k+1) (k+1) c1 s2=some r):qug [.one (c1),.one (Cell.str s2)] []=some r:=qap (k:=k+2) (Eq.trans (Eq.trans (by kernel_rfl) (qggc k (k+1) c1 s2)) h)
def qyyc:List (Nat×Run):=[]
def qxtb:Ctx:=ctx qbi qbh qyyc
def qpn:Run:=lim qxtb qgrb
theorem ok_fcg:FnOk Tryz.prog OkT qgrb qpn:=qao (l:=qyyc) qac tyTab_ok qad okT .nil qgrb
def qbhb (k m:Nat):Nat→Cell→ByteArray→Int→Option Res | 0,_,_,_=>none | n+1,c3,s4,i5=>(lenC c3).bind fun n6=>cond (decide (i5 < (n6:Int))) ((idxA 1 (c3) i5).bind fun c7=>(deref [] (c7)).bind fun p8=>(cS p8.1 p8.2).bind fun s9=>cond (s9.toList==s4.toList) (some ([.one (Cell.bool true)],[])) (qbhb k m n (c3) s4 (IntKind.i64.wrap (i5+1)))) (some ([.one (Cell.bool false)],[]))
def fcg (k m:Nat)(c1:Cell)(s2:ByteArray):Option Res:=qbhb k m m (c1) s2 0
abbrev qncc (k m:Nat):TB:=evC qxtb qob (evF qxtb (k+1)) m (sub [1,0,1,2,3] qob.code) none
abbrev qnuc (k m:Nat):TK:=qaw 0 (seqK (evC qxtb qob (evF qxtb (k+1)) m (sub [1,1] qob.code) none) (retK qxtb qob))
theorem qdic (k m:Nat):∀ (n:Nat) (c3:Cell) (s4:ByteArray) (i5:Int),qbj (some [0,1,5]) (qncc k m) (qnuc k m) n ⟨fT 18 0 [(0,.av (.one (c3))),(1,.av (.one (Cell.str s4))),(5,.av (.one (Cell.int i5)))],fX 18 0 [],[]⟩=qbhb (k+1) m n c3 s4 i5:=by
 intro n
 induction n with
 | zero=>intros;rfl
 | succ n ih=>intros;simp only[qbhb,← ih];kernel_rfl
theorem qlkc (k m:Nat)(c1:Cell)(s2:ByteArray):evC qxtb qob (evF qxtb (k+1)) m qob.code none (retK qxtb qob) (enter qob [.one (c1),.one (Cell.str s2)] [])=fcg (k+1) m c1 s2:=by
 simp only[fcg,← qdic k m]
 kernel_rfl
theorem qpnb {c1:Cell}{s2:ByteArray}{r:Res}(k:Nat)(h:fcg (k+1) (k+1) c1 s2=some r):qpn [.one (c1),.one (Cell.str s2)] []=some r:=qap (k:=k+2) (Eq.trans (Eq.trans (by kernel_rfl) (qlkc k (k+1) c1 s2)) h)
def qylc:List (Nat×Run):=[]
def qbec:Ctx:=ctx qbi qbh qylc
def qnz:Run:=lim qbec qdeb
theorem ok_fce:FnOk Tryz.prog OkT qdeb qnz:=qao (l:=qylc) qac tyTab_ok qad okT .nil qdeb
def qzg (k m:Nat):Nat→Cell→Int→Option Res | 0,_,_=>none | n+1,c2,i3=>(lenC c2).bind fun n4=>cond (decide (i3 < (n4:Int))) ((idxA 1 (c2) (IntKind.i64.wrap (i3 - 1))).bind fun c5=>(deref [] (c5)).bind fun p6=>(cS p6.1 p6.2).bind fun s7=>(idxA 1 (c2) i3).bind fun c8=>(deref [] (c8)).bind fun p9=>(cS p9.1 p9.2).bind fun s10=>cond (!Op.bytesLess s7.toList s10.toList) (some ([.one (Cell.bool false)],[])) (qzg k m n (c2) (IntKind.i64.wrap (i3+1)))) (some ([.one (Cell.bool true)],[]))
def fce (k m:Nat)(c1:Cell):Option Res:=qzg k m m (c1) 1
abbrev qlzc (k m:Nat):TB:=evC qbec qov (evF qbec (k+1)) m (sub [1,0,1,2,3] qov.code) none
abbrev qhac (k m:Nat):TK:=qaw 0 (seqK (evC qbec qov (evF qbec (k+1)) m (sub [1,1] qov.code) none) (retK qbec qov))
theorem qtmb (k m:Nat):∀ (n:Nat) (c2:Cell) (i3:Int),qbj (some [0,3]) (qlzc k m) (qhac k m) n ⟨fT 20 0 [(0,.av (.one (c2))),(3,.av (.one (Cell.int i3)))],fX 20 0 [],[]⟩=qzg (k+1) m n c2 i3:=by
 intro n
 induction n with
 | zero=>intros;rfl
 | succ n ih=>intros;simp only[qzg,← ih];kernel_rfl
theorem qopc (k m:Nat)(c1:Cell):evC qbec qov (evF qbec (k+1)) m qov.code none (retK qbec qov) (enter qov [.one (c1)] [])=fce (k+1) m c1:=by
 simp only[fce,← qtmb k m]
 kernel_rfl
theorem qshb {c1:Cell}{r:Res}(k:Nat)(h:fce (k+1) (k+1) c1=some r):qnz [.one (c1)] []=some r:=qap (k:=k+2) (Eq.trans (Eq.trans (by kernel_rfl) (qopc k (k+1) c1)) h)
def qcrd:List (Nat×Run):=[(qefb,qva),(qhdb,qvx),(qvz,qpu),(qffb,qxw),(qfub,qyl),(qfnb,qwj),(qfib,qwv),(qekb,qwd),(qfhb,qvt),(qfeb,qhy),(qhhb,qvw),(qcyb,qqa),(qcwb,qys),(qgab,qwt),(qfvb,qyt),(qgxb,qug),(qyb,qlj),(qgrb,qpn),(qdeb,qnz)]
def qbtc:Ctx:=ctx qbi qbh qcrd
def qrwb:Run:=lim qbtc qpmb
theorem ok_fcd:FnOk Tryz.prog OkT qpmb qrwb:=qao (l:=qcrd) qac tyTab_ok qad okT (.cons ok_fcf (.cons ok_fai (.cons qwtc (.cons ok_fcv (.cons ok_fan (.cons ok_fcu (.cons ok_fag (.cons ok_fcx (.cons ok_fcs (.cons ok_fch (.cons ok_fcy (.cons ok_fab (.cons ok_fcr (.cons ok_faa (.cons ok_fcq (.cons ok_fap (.cons qzlc (.cons ok_fcg (.cons ok_fce .nil))))))))))))))))))) qpmb
def qzd (k m:Nat):Nat→Cell→Cell→Cell→ByteArray→Int→List Entry→Option Res | 0,_,_,_,_,_,_=>none | n+1,c43,c44,c45,s46,i47,H48=>(lenC c44).bind fun n49=>cond (decide (i47 < (n49:Int))) ((qbc qvx [.one (c43)] H48).bind fun r50=>cond (qab qcod r50) ((cB (qaa r50 0) 0).bind fun b51=>cond b51 ((idxA 1 (c44) i47).bind fun c52=>(deref H48 (c52)).bind fun p53=>(cS p53.1 p53.2).bind fun s54=>(qbc qpu [.one (c43),.one (Cell.str s54)] H48).bind fun r55=>cond (qab qjsc r55) ((cI .i64 (qaa r55 0) 0).bind fun i56=>cond (decide (i56 < 0)) (some ([.one (Cell.bool false)],H48)) ((slcC 1 (c44) 0 (some i47) none).bind fun c57=>(idxA 1 (c44) i47).bind fun c58=>(deref H48 (c58)).bind fun p59=>(cS p59.1 p59.2).bind fun s60=>(qbc qpn [.one (c57),.one (Cell.str s60)] H48).bind fun r61=>cond (qab qrmc r61) ((cB (qaa r61 0) 0).bind fun b62=>cond b62 (some ([.one (Cell.bool false)],H48)) ((idxA 4 (c43) i56).bind fun c63=>(fldA c63 1).bind fun c64=>(deref H48 (c64)).bind fun p65=>(cC p65.1 p65.2).bind fun c66=>(lenC c44).bind fun n67=>if (n67:Int)=0 then none else (idxA 1 (c44) ((IntKind.i64.wrap (i47+1)).tmod (n67:Int))).bind fun c68=>(deref H48 (c68)).bind fun p69=>(cS p69.1 p69.2).bind fun s70=>(qbc qpn [.one (c66),.one (Cell.str s70)] H48).bind fun r71=>cond (qab qrmc r71) ((cB (qaa r71 0) 0).bind fun b72=>cond (!b72) (some ([.one (Cell.bool false)],H48)) (qzd k m n (c43) (c44) (c45) s46 (IntKind.i64.wrap (i47+1)) H48)) none)) none)) none) ((qfd qqa [.one (c45),.one (Cell.str s46)] H48).bind fun r73=>cond (qab qacc r73.1) ((cC (qaa r73.1 0) 0).bind fun c74=>(qbc qnz [.one (c74)] r73.2).bind fun r75=>cond (qab qmdc r75) ((cB (qaa r75 0) 0).bind fun b76=>some ([.one (Cell.bool b76)],r73.2)) none) none)) none) ((qfd qqa [.one (c45),.one (Cell.str s46)] H48).bind fun r77=>cond (qab qacc r77.1) ((cC (qaa r77.1 0) 0).bind fun c78=>(qbc qnz [.one (c78)] r77.2).bind fun r79=>cond (qab qmdc r79) ((cB (qaa r79 0) 0).bind fun b80=>some ([.one (Cell.bool b80)],r77.2)) none) none)
def fcd (k m:Nat)(c1:Cell):Option Res:=(qbc qva [.one (c1)] []).bind fun r2=>cond (qab qtrc r2) ((cB (qaa r2 0) 0).bind fun b3=>cond b3 (some ([.one (Cell.bool true)],[])) ((callL qxw [.one (c1)] []).bind fun r4=>cond (qab quwc r4.1) ((cC (qaa r4.1 0) 0).bind fun c5=>(qfd qyl [.one (c5)] r4.2).bind fun r6=>cond (qab qzuc r6.1) ((cC (qaa r6.1 0) 0).bind fun c7=>(callL qwj [.one (c1)] r6.2).bind fun r8=>cond (qab qxic r8.1) ((cC (qaa r8.1 0) 0).bind fun c9=>(qfd qwv [.one (c9)] r8.2).bind fun r10=>cond (qab qtgc r10.1) ((cC (qaa r10.1 0) 0).bind fun c11=>(cB (qaa r10.1 1) 0).bind fun b12=>(callL qwd [.one (c9)] r10.2).bind fun r13=>cond (qab qtzc r13.1) ((cC (qaa r13.1 0) 0).bind fun c14=>(cB (qaa r13.1 1) 0).bind fun b15=>(callL qvt [.one (c1)] r13.2).bind fun r16=>cond (qab qbbd r16.1) ((cC (qaa r16.1 0) 0).bind fun c17=>(cS (qaa r16.1 1) 0).bind fun s18=>(callL qvw [.one (c5)] r16.2).bind fun r19=>cond (qab qwpc r19.1) ((cC (qaa r19.1 0) 0).bind fun c20=>(qbc qhy [.one (c7),.one (c20)] r19.2).bind fun r21=>cond (qab qkab r21) ((cB (qaa r21 0) 0).bind fun b22=>cond (!b22) (some ([.one (Cell.bool false)],r19.2)) (cond (!(b12==b15)) (some ([.one (Cell.bool false)],r19.2)) ((qbc qhy [.one (c11),.one (c14)] r19.2).bind fun r23=>cond (qab qkab r23) ((cB (qaa r23 0) 0).bind fun b24=>cond (!b24) (some ([.one (Cell.bool false)],r19.2)) ((qfd qqa [.one (c17),.one (Cell.str s18)] r19.2).bind fun r25=>cond (qab qacc r25.1) ((cC (qaa r25.1 0) 0).bind fun c26=>(callL qys [.one (c17),.one (Cell.str s18)] r25.2).bind fun r27=>cond (qab qybc r27.1) ((cC (qaa r27.1 0) 0).bind fun c28=>(qbc qhy [.one (c26),.one (c28)] r27.2).bind fun r29=>cond (qab qkab r29) ((cB (qaa r29 0) 0).bind fun b30=>cond (!b30) (some ([.one (Cell.bool false)],r27.2)) ((qfd qwt [.one (c17),.one (Cell.str s18)] r27.2).bind fun r31=>cond (qab qzkc r31.1) ((cC (qaa r31.1 0) 0).bind fun c32=>(callL qyt [.one (c17),.one (Cell.str s18)] r31.2).bind fun r33=>cond (qab qddd r33.1) ((cC (qaa r33.1 0) 0).bind fun c34=>(qbc qhy [.one (c32),.one (c34)] r33.2).bind fun r35=>cond (qab qkab r35) ((cB (qaa r35 0) 0).bind fun b36=>cond (!b36) (some ([.one (Cell.bool false)],r33.2)) ((qfd qug [.one (c17),.one (Cell.str s18)] r33.2).bind fun r37=>cond (qab qxsc r37.1) ((cC (qaa r37.1 0) 0).bind fun c38=>(callL qlj [.one (c17),.one (Cell.str s18)] r37.2).bind fun r39=>cond (qab qtqb r39.1) ((cC (qaa r39.1 0) 0).bind fun c40=>(qbc qhy [.one (c38),.one (c40)] r39.2).bind fun r41=>cond (qab qkab r41) ((cB (qaa r41 0) 0).bind fun b42=>cond (!b42) (some ([.one (Cell.bool false)],r39.2)) (qzd k m m (c5) (c7) (c17) s18 0 r39.2)) none) none) none)) none) none) none)) none) none) none)) none))) none) none) none) none) none) none) none) none)) none
abbrev qqec (k m:Nat):TB:=evC qbtc qqe (evF qbtc (k+1)) m (sub [1,1,1,1,1,1,1,1,1,0,1,2,3] qqe.code) none
abbrev qjnc (k m:Nat):TK:=qaw 0 (seqK (evC qbtc qqe (evF qbtc (k+1)) m (sub [1,1,1,1,1,1,1,1,1,1] qqe.code) none) (retK qbtc qqe))
theorem qvxb (k m:Nat):∀ (n:Nat) (c43 c44 c45:Cell) (s46:ByteArray) (i47:Int) (H48:List Entry),qbj (some [3,4,10,11,12]) (qqec k m) (qjnc k m) n ⟨fT 132 0 [(3,.av (.one (c43))),(4,.av (.one (c44))),(10,.av (.one (c45))),(11,.av (.one (Cell.str s46))),(12,.av (.one (Cell.int i47)))],fX 132 0 [],H48⟩=qzd (k+1) m n c43 c44 c45 s46 i47 H48:=by
 intro n
 induction n with
 | zero=>intros;rfl
 | succ n ih=>intros;simp only[qzd,← ih];kernel_rfl
theorem qqic (k m:Nat)(c1:Cell):evC qbtc qqe (evF qbtc (k+1)) m qqe.code none (retK qbtc qqe) (enter qqe [.one (c1)] [])=fcd (k+1) m c1:=by
 simp only[fcd,← qvxb k m]
 kernel_rfl
theorem quc {c1:Cell}{r:Res}(k:Nat)(h:fcd (k+1) (k+1) c1=some r):qrwb [.one (c1)] []=some r:=qap (k:=k+2) (Eq.trans (Eq.trans (by kernel_rfl) (qqic k (k+1) c1)) h)
end
end Go.Ev
