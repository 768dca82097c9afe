/- What the evaluator says of the functions, each as a Lean function over cells. Printed by a program of this claim. Conditions: none. -/
import Derived.Test.YtfaiahlpefmgmaaDoorSh2
import Derived.KernelRfl
namespace Go.Ev
open Go Go.Proofs
noncomputable section
set_option maxRecDepth 100000
set_option linter.unusedVariables false
set_option linter.unusedSimpArgs false
def qamc:List (Nat×Run):=[(qvl,qnhb)]
def G_fda:Ctx:=ctx qbk qbj qamc
def qmwb:Run:=lim G_fda qua
theorem ok_fda:FnOk Tryd.prog OkT qua qmwb:=qao (l:=qamc) qac tyTab_ok qad okT (.cons ok_fdc .nil) qua
def qatc:List (Nat×Run):=[(qvg,qnib),(qua,qmwb)]
def G_fcy:Ctx:=ctx qbk qbj qatc
def qbdb:Run:=lim G_fcy qwi
theorem ok_fcy:FnOk Tryd.prog OkT qwi qbdb:=qao (l:=qatc) qac tyTab_ok qad okT (.cons ok_fdb (.cons ok_fda .nil)) qwi
def qbbc:List (Nat×Run):=[(qoj,qis)]
def qdlc:Ctx:=ctx qbk qbj qbbc
def qnn:Run:=lim qdlc qwo
theorem ok_fcv:FnOk Tryd.prog OkT qwo qnn:=qao (l:=qbbc) qac tyTab_ok qad okT (.cons qvub .nil) qwo
def fcv (k m:Nat)(s1 s2:ByteArray):Option Res:=(qaj qis [.one (Cell.str s1),.one (Cell.str s2)] []).bind fun r3=>cond (qab qsjb r3) ((cI .i64 (qaa r3 0) 0).bind fun i4=>some ([.one (Cell.int i4)],[])) none
theorem quhb (k m:Nat)(s1 s2:ByteArray):evC qdlc qxo (evF qdlc (k+1)) m qxo.code none (retK qdlc qxo) (enter qxo [.one (Cell.str s1),.one (Cell.str s2)] [])=fcv (k+1) m s1 s2:=by
 kernel_rfl
theorem qcyb {s1 s2:ByteArray}{r:Res}(k:Nat)(h:fcv (k+1) (k+1) s1 s2=some r):qnn [.one (Cell.str s1),.one (Cell.str s2)] []=some r:=qap (k:=k+2) (Eq.trans (Eq.trans (by kernel_rfl) (quhb k (k+1) s1 s2)) h)
def qcgc:List (Nat×Run):=[(qwi,qbdb),(qnkb,qvx),(qwo,qnn)]
def qllb:Ctx:=ctx qbk qbj qcgc
def qmg:Run:=lim qllb qss
theorem ok_fcz:FnOk Tryd.prog OkT qss qmg:=qao (l:=qcgc) qac tyTab_ok qad okT (.cons ok_fcy (.cons ok_fcs (.cons ok_fcv .nil))) qss
def qnp (k m:Nat):Nat→ByteArray→ByteArray→Int→Int→Cell→Int→List Entry→Option Res | 0,_,_,_,_,_,_,_=>none | n+1,s9,s10,i11,i12,c13,i14,H15=>cond (decide (i14 < i12)) ((qaj qnn [.one (Cell.str s9),.one (Cell.str s10)] H15).bind fun r16=>cond (qab qweb r16) ((cI .i64 (qaa r16 0) 0).bind fun i17=>cond (decide (i17 < 0)) ((idxA 1 (c13) i14).bind fun c18=>(qbl H15 (c18) [Cell.str s9]).bind fun h19=>(slcC 1 (c13) 0 (some (IntKind.i64.wrap (i14+1))) none).bind fun c20=>some ([.one (c20)],h19)) ((subS s9 0 (IntKind.i64.wrap (i17+i11))).bind fun s21=>(idxA 1 (c13) i14).bind fun c22=>(qbl H15 (c22) [Cell.str s21]).bind fun h23=>(subS s9 (IntKind.i64.wrap (i17+(s10.size:Int))) (s9.size:Int)).bind fun s24=>qnp k m n s24 s10 i11 i12 (c13) (IntKind.i64.wrap (i14+1)) h23)) none) ((idxA 1 (c13) i14).bind fun c25=>(qbl H15 (c25) [Cell.str s9]).bind fun h26=>(slcC 1 (c13) 0 (some (IntKind.i64.wrap (i14+1))) none).bind fun c27=>some ([.one (c27)],h26))
def fcz (k m:Nat)(s1 s2:ByteArray)(i3 i4:Int):Option Res:=cond (i4==0) (some ([.one (.lst true 1 [])],[])) (cond (s2.toList==(bs []).toList) ((callL qbdb [.one (Cell.str s1),.one (Cell.int i4)] []).bind fun r5=>cond (qab qcjc r5.1) ((cC (qaa r5.1 0) 0).bind fun c6=>some ([.one (c6)],r5.2)) none) (cond (decide (i4 < 0)) ((qaj qvx [.one (Cell.str s1),.one (Cell.str s2)] []).bind fun r7=>cond (qab qakc r7) ((cI .i64 (qaa r7 0) 0).bind fun i8=>if 0≤(if (IntKind.i64.wrap ((s1.size:Int)+1)) < (IntKind.i64.wrap (i8+1)) then (IntKind.i64.wrap ((s1.size:Int)+1)) else (IntKind.i64.wrap (i8+1)))∧(if (IntKind.i64.wrap ((s1.size:Int)+1)) < (IntKind.i64.wrap (i8+1)) then (IntKind.i64.wrap ((s1.size:Int)+1)) else (IntKind.i64.wrap (i8+1)))≤(if (IntKind.i64.wrap ((s1.size:Int)+1)) < (IntKind.i64.wrap (i8+1)) then (IntKind.i64.wrap ((s1.size:Int)+1)) else (IntKind.i64.wrap (i8+1)))∧(if (IntKind.i64.wrap ((s1.size:Int)+1)) < (IntKind.i64.wrap (i8+1)) then (IntKind.i64.wrap ((s1.size:Int)+1)) else (IntKind.i64.wrap (i8+1)))*16≤bound∧(if (IntKind.i64.wrap ((s1.size:Int)+1)) < (IntKind.i64.wrap (i8+1)) then (IntKind.i64.wrap ((s1.size:Int)+1)) else (IntKind.i64.wrap (i8+1)))≤bound then (qnp k m m s1 s2 i3 (IntKind.i64.wrap ((if (IntKind.i64.wrap ((s1.size:Int)+1)) < (IntKind.i64.wrap (i8+1)) then (IntKind.i64.wrap ((s1.size:Int)+1)) else (IntKind.i64.wrap (i8+1))) - 1)) ((.vs 0 1 0 (if (IntKind.i64.wrap ((s1.size:Int)+1)) < (IntKind.i64.wrap (i8+1)) then (IntKind.i64.wrap ((s1.size:Int)+1)) else (IntKind.i64.wrap (i8+1))).toNat 0)) 0 [Entry.mk 1 (qbr (if (IntKind.i64.wrap ((s1.size:Int)+1)) < (IntKind.i64.wrap (i8+1)) then (IntKind.i64.wrap ((s1.size:Int)+1)) else (IntKind.i64.wrap (i8+1))).toNat [Cell.str (bs [])]) 0 false]) else none) none) (if 0≤(if (IntKind.i64.wrap ((s1.size:Int)+1)) < i4 then (IntKind.i64.wrap ((s1.size:Int)+1)) else i4)∧(if (IntKind.i64.wrap ((s1.size:Int)+1)) < i4 then (IntKind.i64.wrap ((s1.size:Int)+1)) else i4)≤(if (IntKind.i64.wrap ((s1.size:Int)+1)) < i4 then (IntKind.i64.wrap ((s1.size:Int)+1)) else i4)∧(if (IntKind.i64.wrap ((s1.size:Int)+1)) < i4 then (IntKind.i64.wrap ((s1.size:Int)+1)) else i4)*16≤bound∧(if (IntKind.i64.wrap ((s1.size:Int)+1)) < i4 then (IntKind.i64.wrap ((s1.size:Int)+1)) else i4)≤bound then (qnp k m m s1 s2 i3 (IntKind.i64.wrap ((if (IntKind.i64.wrap ((s1.size:Int)+1)) < i4 then (IntKind.i64.wrap ((s1.size:Int)+1)) else i4) - 1)) ((.vs 0 1 0 (if (IntKind.i64.wrap ((s1.size:Int)+1)) < i4 then (IntKind.i64.wrap ((s1.size:Int)+1)) else i4).toNat 0)) 0 [Entry.mk 1 (qbr (if (IntKind.i64.wrap ((s1.size:Int)+1)) < i4 then (IntKind.i64.wrap ((s1.size:Int)+1)) else i4).toNat [Cell.str (bs [])]) 0 false]) else none)))
abbrev qvhb (k m:Nat):TB:=evC qllb qja (evF qllb (k+1)) m (sub [1,1,1,1,1,1,1,1,0,2,3] qja.code) none
abbrev qnpb (k m:Nat):TK:=qbi 0 (seqK (evC qllb qja (evF qllb (k+1)) m (sub [1,1,1,1,1,1,1,1,1] qja.code) none) (retK qllb qja))
theorem qjgb (k m:Nat):∀ (n:Nat) (s9 s10:ByteArray) (i11 i12:Int) (c13:Cell) (i14:Int) (H15:List Entry),qcz (some [0,1,2,3,9,10]) (qvhb k m) (qnpb k m) n ⟨fT 66 0 [(0,.av (.one (Cell.str s9))),(1,.av (.one (Cell.str s10))),(2,.av (.one (Cell.int i11))),(3,.av (.one (Cell.int i12))),(9,.av (.one (c13))),(10,.av (.one (Cell.int i14)))],fX 66 0 [],H15⟩=qnp (k+1) m n s9 s10 i11 i12 c13 i14 H15:=by
 intro n
 induction n with
 | zero=>intros;rfl
 | succ n ih=>intros;simp only[qnp,← ih];kernel_rfl
theorem qrxb (k m:Nat)(s1 s2:ByteArray)(i3 i4:Int):evC qllb qja (evF qllb (k+1)) m qja.code none (retK qllb qja) (enter qja [.one (Cell.str s1),.one (Cell.str s2),.one (Cell.int i3),.one (Cell.int i4)] [])=fcz (k+1) m s1 s2 i3 i4:=by
 simp only[fcz,← qjgb k m]
 kernel_rfl
theorem qzo {s1 s2:ByteArray}{i3 i4:Int}{r:Res}(k:Nat)(h:fcz (k+1) (k+1) s1 s2 i3 i4=some r):qmg [.one (Cell.str s1),.one (Cell.str s2),.one (Cell.int i3),.one (Cell.int i4)] []=some r:=qap (k:=k+2) (Eq.trans (Eq.trans (by kernel_rfl) (qrxb k (k+1) s1 s2 i3 i4)) h)
def qcac:List (Nat×Run):=[(qss,qmg)]
def qdnc:Ctx:=ctx qbk qbj qcac
def qoy:Run:=lim qdnc qtq
theorem ok_fcw:FnOk Tryd.prog OkT qtq qoy:=qao (l:=qcac) qac tyTab_ok qad okT (.cons ok_fcz .nil) qtq
def fcw (k m:Nat)(s1 s2:ByteArray):Option Res:=(qdy qmg [.one (Cell.str s1),.one (Cell.str s2),.one (Cell.int 0),.one (Cell.int (-1))] []).bind fun r3=>cond (qab qcdc r3.1) ((cC (qaa r3.1 0) 0).bind fun c4=>some ([.one (c4)],r3.2)) none
theorem qosb (k m:Nat)(s1 s2:ByteArray):evC qdnc qxg (evF qdnc (k+1)) m qxg.code none (retK qdnc qxg) (enter qxg [.one (Cell.str s1),.one (Cell.str s2)] [])=fcw (k+1) m s1 s2:=by
 kernel_rfl
theorem qzu {s1 s2:ByteArray}{r:Res}(k:Nat)(h:fcw (k+1) (k+1) s1 s2=some r):qoy [.one (Cell.str s1),.one (Cell.str s2)] []=some r:=qap (k:=k+2) (Eq.trans (Eq.trans (by kernel_rfl) (qosb k (k+1) s1 s2)) h)
def qcmc:List (Nat×Run):=[(qlq,qfk),(qlz,qfl)]
def qehc:Ctx:=ctx qbk qbj qcmc
def qoq:Run:=lim qehc qvv
theorem ok_fan:FnOk Tryd.prog OkT qvv qoq:=qao (l:=qcmc) qac tyTab_ok qad okT (.cons qpwb (.cons quyb .nil)) qvv
def fan (k m:Nat)(i1:Int):Option Res:=(qaj qfk [.one (.sc (.int .u8 i1))] []).bind fun r2=>cond (qab qcgb r2) ((cB (qaa r2 0) 0).bind fun b3=>cond b3 (some ([.one (Cell.bool true)],[])) ((qaj qfl [.one (.sc (.int .u8 i1))] []).bind fun r4=>cond (qab qckb r4) ((cB (qaa r4 0) 0).bind fun b5=>cond b5 (some ([.one (Cell.bool true)],[])) (cond (i1==46) (some ([.one (Cell.bool true)],[])) (cond (i1==45) (some ([.one (Cell.bool true)],[])) (some ([.one (Cell.bool (i1==95))],[]))))) none)) none
theorem qtzb (k m:Nat)(i1:Int):evC qehc qxk (evF qehc (k+1)) m qxk.code none (retK qehc qxk) (enter qxk [.one (.sc (.int .u8 i1))] [])=fan (k+1) m i1:=by
 kernel_rfl
theorem qcrb {i1:Int}{r:Res}(k:Nat)(h:fan (k+1) (k+1) i1=some r):qoq [.one (.sc (.int .u8 i1))] []=some r:=qap (k:=k+2) (Eq.trans (Eq.trans (by kernel_rfl) (qtzb k (k+1) i1)) h)
def qazc:List (Nat×Run):=[(qqq,qif)]
def qcyc:Ctx:=ctx qbk qbj qazc
def qpz:Run:=lim qcyc qvr
theorem ok_fcu:FnOk Tryd.prog OkT qvr qpz:=qao (l:=qazc) qac tyTab_ok qad okT (.cons qwdb .nil) qvr
def fcu (k m:Nat)(s1 s2:ByteArray):Option Res:=(qaj qif [.one (Cell.str s1),.one (Cell.str s2)] []).bind fun r3=>cond (qab qvdb r3) ((cB (qaa r3 0) 0).bind fun b4=>some ([.one (Cell.bool b4)],[])) none
theorem qsnb (k m:Nat)(s1 s2:ByteArray):evC qcyc qxd (evF qcyc (k+1)) m qxd.code none (retK qcyc qxd) (enter qxd [.one (Cell.str s1),.one (Cell.str s2)] [])=fcu (k+1) m s1 s2:=by
 kernel_rfl
theorem qzr {s1 s2:ByteArray}{r:Res}(k:Nat)(h:fcu (k+1) (k+1) s1 s2=some r):qpz [.one (Cell.str s1),.one (Cell.str s2)] []=some r:=qap (k:=k+2) (Eq.trans (Eq.trans (by kernel_rfl) (qsnb k (k+1) s1 s2)) h)
def qwbb:List (Nat×Run):=[(qlq,qfk),(qlz,qfl),(qir,qcr),(qvv,qoq),(qvr,qpz)]
def qkdb:Ctx:=ctx qbk qbj qwbb
def qpx:Run:=lim qkdb qsw
theorem ok_fav:FnOk Tryd.prog OkT qsw qpx:=qao (l:=qwbb) qac tyTab_ok qad okT (.cons qpwb (.cons quyb (.cons qlib (.cons ok_fan (.cons ok_fcu .nil))))) qsw
def qqt (k m:Nat):Nat→ByteArray→Int→Option Res | 0,_,_=>none | n+1,s25,i26=>cond (decide (i26 < (s25.size:Int))) ((bytS s25 i26).bind fun i27=>(qaj qfk [.one (.sc (.int .u8 i27))] []).bind fun r28=>cond (qab qcgb r28) ((cB (qaa r28 0) 0).bind fun b29=>cond b29 (qqt k m n s25 (IntKind.i64.wrap (i26+1))) ((bytS s25 i26).bind fun i30=>(qaj qfl [.one (.sc (.int .u8 i30))] []).bind fun r31=>cond (qab qckb r31) ((cB (qaa r31 0) 0).bind fun b32=>cond b32 (qqt k m n s25 (IntKind.i64.wrap (i26+1))) ((qaj qcr [.one (Cell.int (IntKind.i64.wrap (i26 - 1))),.one (Cell.int 1),.one (Cell.int 5)] []).bind fun r33=>cond (qab qnl r33) ((cB (qaa r33 0) 0).bind fun b34=>cond (!b34) (some ([.one (Cell.int 0)],[])) (cond (i26==(s25.size:Int)) (some ([.one (Cell.int 0)],[])) ((bytS s25 i26).bind fun i35=>cond (i35 != 93) (some ([.one (Cell.int 0)],[])) (some ([.one (Cell.int (IntKind.i64.wrap (i26+1)))],[]))))) none)) none)) none) ((qaj qcr [.one (Cell.int (IntKind.i64.wrap (i26 - 1))),.one (Cell.int 1),.one (Cell.int 5)] []).bind fun r36=>cond (qab qnl r36) ((cB (qaa r36 0) 0).bind fun b37=>cond (!b37) (some ([.one (Cell.int 0)],[])) (cond (i26==(s25.size:Int)) (some ([.one (Cell.int 0)],[])) ((bytS s25 i26).bind fun i38=>cond (i38 != 93) (some ([.one (Cell.int 0)],[])) (some ([.one (Cell.int (IntKind.i64.wrap (i26+1)))],[]))))) none)
def qob (k m:Nat):Nat→ByteArray→Int→Option Res | 0,_,_=>none | n+1,s11,i12=>cond (decide (i12 < (s11.size:Int))) ((bytS s11 i12).bind fun i13=>(qaj qfk [.one (.sc (.int .u8 i13))] []).bind fun r14=>cond (qab qcgb r14) ((cB (qaa r14 0) 0).bind fun b15=>cond b15 (qob k m n s11 (IntKind.i64.wrap (i12+1))) ((bytS s11 i12).bind fun i16=>(qaj qfl [.one (.sc (.int .u8 i16))] []).bind fun r17=>cond (qab qckb r17) ((cB (qaa r17 0) 0).bind fun b18=>cond b18 (qob k m n s11 (IntKind.i64.wrap (i12+1))) ((qaj qcr [.one (Cell.int (IntKind.i64.wrap (i12 - 2))),.one (Cell.int 1),.one (Cell.int 5)] []).bind fun r19=>cond (qab qnl r19) ((cB (qaa r19 0) 0).bind fun b20=>cond (!b20) (some ([.one (Cell.int 0)],[])) (cond (i12==(s11.size:Int)) (some ([.one (Cell.int 0)],[])) ((bytS s11 i12).bind fun i21=>cond (i21 != 93) (some ([.one (Cell.int 0)],[])) (some ([.one (Cell.int (IntKind.i64.wrap (i12+1)))],[]))))) none)) none)) none) ((qaj qcr [.one (Cell.int (IntKind.i64.wrap (i12 - 2))),.one (Cell.int 1),.one (Cell.int 5)] []).bind fun r22=>cond (qab qnl r22) ((cB (qaa r22 0) 0).bind fun b23=>cond (!b23) (some ([.one (Cell.int 0)],[])) (cond (i12==(s11.size:Int)) (some ([.one (Cell.int 0)],[])) ((bytS s11 i12).bind fun i24=>cond (i24 != 93) (some ([.one (Cell.int 0)],[])) (some ([.one (Cell.int (IntKind.i64.wrap (i12+1)))],[]))))) none)
def fav (k m:Nat)(s1:ByteArray):Option Res:=(bytS s1 0).bind fun i2=>(qaj qoq [.one (.sc (.int .u8 i2))] []).bind fun r3=>cond (qab qzwb r3) ((cB (qaa r3 0) 0).bind fun b4=>cond b4 (some ([.one (Cell.int 1)],[])) ((bytS s1 0).bind fun i5=>cond (i5==63) (some ([.one (Cell.int 1)],[])) ((bytS s1 0).bind fun i6=>cond (i6==42) (some ([.one (Cell.int 1)],[])) ((bytS s1 0).bind fun i7=>cond (i7 != 91) (some ([.one (Cell.int 0)],[])) ((subS s1 1 (s1.size:Int)).bind fun s8=>(qaj qpz [.one (Cell.str s8),.one (Cell.str (bs [33]))] []).bind fun r9=>cond (qab qyab r9) ((cB (qaa r9 0) 0).bind fun b10=>cond b10 (qob k m m s1 2) (qqt k m m s1 1)) none))))) none
abbrev qagb (k m:Nat):TB:=evC qkdb qhw (evF qkdb (k+1)) m (sub [1,1,1,1,1,1,0,2,3] qhw.code) none
abbrev qzz (k m:Nat):TK:=qbi 0 (seqK (evC qkdb qhw (evF qkdb (k+1)) m (sub [1,1,1,1,1,1,1] qhw.code) none) (retK qkdb qhw))
theorem qjab (k m:Nat):∀ (n:Nat) (s25:ByteArray) (i26:Int),qcz (some [0,3,4]) (qagb k m) (qzz k m) n ⟨fT 65 0 [(0,.av (.one (Cell.str s25))),(3,.av (.one (Cell.int i26))),(4,.av (.one (Cell.int 1)))],fX 65 0 [],[]⟩=qqt (k+1) m n s25 i26:=by
 intro n
 induction n with
 | zero=>intros;rfl
 | succ n ih=>intros;simp only[qqt,← ih];kernel_rfl
theorem qkvb (k m:Nat):∀ (n:Nat) (s11:ByteArray) (i12:Int),qcz (some [0,3,4]) (qagb k m) (qzz k m) n ⟨fT 65 0 [(0,.av (.one (Cell.str s11))),(3,.av (.one (Cell.int i12))),(4,.av (.one (Cell.int 2)))],fX 65 0 [],[]⟩=qob (k+1) m n s11 i12:=by
 intro n
 induction n with
 | zero=>intros;rfl
 | succ n ih=>intros;simp only[qob,← ih];kernel_rfl
theorem qtib (k m:Nat)(s1:ByteArray):evC qkdb qhw (evF qkdb (k+1)) m qhw.code none (retK qkdb qhw) (enter qhw [.one (Cell.str s1)] [])=fav (k+1) m s1:=by
 simp only[fav,← qkvb k m,← qjab k m]
 kernel_rfl
theorem qctb {s1:ByteArray}{r:Res}(k:Nat)(h:fav (k+1) (k+1) s1=some r):qpx [.one (Cell.str s1)] []=some r:=qap (k:=k+2) (Eq.trans (Eq.trans (by kernel_rfl) (qtib k (k+1) s1)) h)
def qznb:List (Nat×Run):=[(qir,qcr),(qsw,qpx)]
def qjqb:Ctx:=ctx qbk qbj qznb
def qqg:Run:=lim qjqb quw
theorem ok_fas:FnOk Tryd.prog OkT quw qqg:=qao (l:=qznb) qac tyTab_ok qad okT (.cons qlib (.cons ok_fav .nil)) quw
def qpf (k m:Nat):Nat→Int→ByteArray→Option Res | 0,_,_=>none | n+1,i2,s3=>cond (!(s3.toList==(bs []).toList)) ((qaj qpx [.one (Cell.str s3)] []).bind fun r4=>cond (qab qxrb r4) ((cI .i64 (qaa r4 0) 0).bind fun i5=>cond (i5==0) (some ([.one (Cell.bool false)],[])) ((subS s3 i5 (s3.size:Int)).bind fun s6=>qpf k m n (IntKind.i64.wrap (i2+1)) s6)) none) ((qaj qcr [.one (Cell.int i2),.one (Cell.int 1),.one (Cell.int 12)] []).bind fun r7=>cond (qab qnl r7) ((cB (qaa r7 0) 0).bind fun b8=>some ([.one (Cell.bool b8)],[])) none)
def fas (k m:Nat)(s1:ByteArray):Option Res:=qpf k m m 0 s1
abbrev qntb (k m:Nat):TB:=evC qjqb qkd (evF qjqb (k+1)) m (sub [1,1,0,1,2,3] qkd.code) none
abbrev qunb (k m:Nat):TK:=qbi 0 (seqK (evC qjqb qkd (evF qjqb (k+1)) m (sub [1,1,1] qkd.code) none) (retK qjqb qkd))
theorem qiob (k m:Nat):∀ (n:Nat) (i2:Int) (s3:ByteArray),qcz (some [3,4]) (qntb k m) (qunb k m) n ⟨fT 20 0 [(3,.av (.one (Cell.int i2))),(4,.av (.one (Cell.str s3)))],fX 20 0 [],[]⟩=qpf (k+1) m n i2 s3:=by
 intro n
 induction n with
 | zero=>intros;rfl
 | succ n ih=>intros;simp only[qpf,← ih];kernel_rfl
theorem qvmb (k m:Nat)(s1:ByteArray):evC qjqb qkd (evF qjqb (k+1)) m qkd.code none (retK qjqb qkd) (enter qkd [.one (Cell.str s1)] [])=fas (k+1) m s1:=by
 simp only[fas,← qiob k m]
 kernel_rfl
theorem qdib {s1:ByteArray}{r:Res}(k:Nat)(h:fas (k+1) (k+1) s1=some r):qqg [.one (Cell.str s1)] []=some r:=qap (k:=k+2) (Eq.trans (Eq.trans (by kernel_rfl) (qvmb k (k+1) s1)) h)
def qyub:List (Nat×Run):=[(qtq,qoy),(quw,qqg)]
def qhfb:Ctx:=ctx qbk qbj qyub
def qnu:Run:=lim qhfb qtx
theorem ok_faa:FnOk Tryd.prog OkT qtx qnu:=qao (l:=qyub) qac tyTab_ok qad okT (.cons ok_fcw (.cons ok_fas .nil)) qtx
def qsk (k m:Nat):Nat→Cell→Cell→Int→Int→List Entry→Option Res | 0,_,_,_,_,_=>none | n+1,c5,c6,i7,i8,H9=>cond (decide (i8 < i7)) ((idxA 1 (c6) i8).bind fun c10=>(deref H9 (c10)).bind fun p11=>(cS p11.1 p11.2).bind fun s12=>(qaj qqg [.one (Cell.str s12)] H9).bind fun r13=>cond (qab qyzb r13) ((cB (qaa r13 0) 0).bind fun b14=>cond (!b14) (some ([.one (Cell.bool false)],H9)) (qsk k m n (c5) (c6) i7 (IntKind.i64.wrap (i8+1)) H9)) none) ((lenC c5).bind fun n15=>some ([.one (Cell.bool (decide ((n15:Int)≤4)))],H9))
def faa (k m:Nat)(s1:ByteArray):Option Res:=(qdy qoy [.one (Cell.str s1),.one (Cell.str (bs [47]))] []).bind fun r2=>cond (qab qahc r2.1) ((cC (qaa r2.1 0) 0).bind fun c3=>(lenC c3).bind fun n4=>qsk k m m (c3) (c3) (n4:Int) 0 r2.2) none
abbrev qorb (k m:Nat):TB:=evC qhfb qid (evF qhfb (k+1)) m (sub [1,1,0,1,2,3] qid.code) none
abbrev qoib (k m:Nat):TK:=qbi 0 (seqK (evC qhfb qid (evF qhfb (k+1)) m (sub [1,1,1] qid.code) none) (retK qhfb qid))
theorem qgdb (k m:Nat):∀ (n:Nat) (c5 c6:Cell) (i7 i8:Int) (H9:List Entry),qcz (some [3,8,9,10]) (qorb k m) (qoib k m) n ⟨fT 21 0 [(3,.av (.one (c5))),(8,.av (.one (c6))),(9,.av (.one (Cell.int i7))),(10,.av (.one (Cell.int i8)))],fX 21 0 [],H9⟩=qsk (k+1) m n c5 c6 i7 i8 H9:=by
 intro n
 induction n with
 | zero=>intros;rfl
 | succ n ih=>intros;simp only[qsk,← ih];kernel_rfl
theorem qqjb (k m:Nat)(s1:ByteArray):evC qhfb qid (evF qhfb (k+1)) m qid.code none (retK qhfb qid) (enter qid [.one (Cell.str s1)] [])=faa (k+1) m s1:=by
 simp only[faa,← qgdb k m]
 kernel_rfl
theorem qczb {s1:ByteArray}{r:Res}(k:Nat)(h:faa (k+1) (k+1) s1=some r):qnu [.one (Cell.str s1)] []=some r:=qap (k:=k+2) (Eq.trans (Eq.trans (by kernel_rfl) (qqjb k (k+1) s1)) h)
def qadc:List (Nat×Run):=[(qlo,qek)]
def qlrb:Ctx:=ctx qbk qbj qadc
def qls:Run:=lim qlrb quc
theorem ok_far:FnOk Tryd.prog OkT quc qls:=qao (l:=qadc) qac tyTab_ok qad okT (.cons qotb .nil) quc
def qsf (k m:Nat):Nat→Cell→Int→Cell→Int→Int→Option Res | 0,_,_,_,_,_=>none | n+1,c4,i5,c6,i7,i8=>cond (decide (i8 < i7)) ((idxA 1 (c6) i8).bind fun c9=>(deref [] (c9)).bind fun p10=>(cS p10.1 p10.2).bind fun s11=>(qaj qek [.one (Cell.str s11)] []).bind fun r12=>cond (qab qxc r12) ((cB (qaa r12 0) 0).bind fun b13=>cond (!b13) (some ([.one (Cell.bool false)],[])) (qsf k m n (c4) i5 (c6) i7 (IntKind.i64.wrap (i8+1)))) none) ((lenC c4).bind fun n14=>some ([.one (Cell.bool (decide ((n14:Int)≤i5)))],[]))
def far (k m:Nat)(c1:Cell)(i2:Int):Option Res:=(lenC c1).bind fun n3=>qsf k m m (c1) i2 (c1) (n3:Int) 0
abbrev qucb (k m:Nat):TB:=evC qlrb qih (evF qlrb (k+1)) m (sub [1,0,1,2,3] qih.code) none
abbrev qvkb (k m:Nat):TK:=qbi 0 (seqK (evC qlrb qih (evF qlrb (k+1)) m (sub [1,1] qih.code) none) (retK qlrb qih))
theorem qipb (k m:Nat):∀ (n:Nat) (c4:Cell) (i5:Int) (c6:Cell) (i7 i8:Int),qcz (some [0,1,7,8,9]) (qucb k m) (qvkb k m) n ⟨fT 21 0 [(0,.av (.one (c4))),(1,.av (.one (Cell.int i5))),(7,.av (.one (c6))),(8,.av (.one (Cell.int i7))),(9,.av (.one (Cell.int i8)))],fX 21 0 [],[]⟩=qsf (k+1) m n c4 i5 c6 i7 i8:=by
 intro n
 induction n with
 | zero=>intros;rfl
 | succ n ih=>intros;simp only[qsf,← ih];kernel_rfl
theorem qobb (k m:Nat)(c1:Cell)(i2:Int):evC qlrb qih (evF qlrb (k+1)) m qih.code none (retK qlrb qih) (enter qih [.one (c1),.one (Cell.int i2)] [])=far (k+1) m c1 i2:=by
 simp only[far,← qipb k m]
 kernel_rfl
theorem qcob {c1:Cell}{i2:Int}{r:Res}(k:Nat)(h:far (k+1) (k+1) c1 i2=some r):qls [.one (c1),.one (Cell.int i2)] []=some r:=qap (k:=k+2) (Eq.trans (Eq.trans (by kernel_rfl) (qobb k (k+1) c1 i2)) h)
def qvyb:List (Nat×Run):=[(qsz,qpd),(qtx,qnu),(qlo,qek),(quc,qls)]
def qum:Ctx:=ctx qbk qbj qvyb
def qli:Run:=lim qum qvt
theorem ok_fat:FnOk Tryd.prog OkT qvt qli:=qao (l:=qvyb) qac tyTab_ok qad okT (.cons ok_fac (.cons ok_faa (.cons qotb (.cons ok_far .nil)))) qvt
def qpv (k m:Nat):Nat→Cell→Int→Int→ByteArray→Cell→Cell→Cell→Bool→Option Res | 0,_,_,_,_,_,_,_,_=>none | n+1,c21,i22,i23,s24,c25,c26,c27,b28=>cond (decide (i23 < i22)) ((idxA 1 (c21) i23).bind fun c29=>(deref [] (c29)).bind fun p30=>(cS p30.1 p30.2).bind fun s31=>(qaj qnu [.one (Cell.str s31)] []).bind fun r32=>cond (qab qwjb r32) ((cB (qaa r32 0) 0).bind fun b33=>cond (!b33) (some ([.one (Cell.bool false)],[])) (cond (decide ((s31.size:Int) > 60)) (some ([.one (Cell.bool false)],[])) (qpv k m n (c21) i22 (IntKind.i64.wrap (i23+1)) s24 (c25) (c26) (c27) b28))) none) ((qaj qek [.one (Cell.str s24)] []).bind fun r34=>cond (qab qxc r34) ((cB (qaa r34 0) 0).bind fun b35=>cond b35 ((lenC c25).bind fun n36=>cond (decide ((n36:Int)≤4)) ((lenC c26).bind fun n37=>cond (decide ((n37:Int)≤4)) ((qaj qls [.one (c27),.one (Cell.int 3)] []).bind fun r38=>cond (qab qyfb r38) ((cB (qaa r38 0) 0).bind fun b39=>some ([.one (Cell.bool b39)],[])) none) (some ([.one (Cell.bool false)],[]))) (some ([.one (Cell.bool false)],[]))) (some ([.one (Cell.bool false)],[]))) none)
def qrj (k m:Nat):Nat→Cell→Int→Int→ByteArray→Cell→Cell→Cell→Bool→Option Res | 0,_,_,_,_,_,_,_,_=>none | n+1,c7,i8,i9,s10,c11,c12,c13,b14=>cond (decide (i9 < i8)) ((idxA 1 (c7) i9).bind fun c15=>(deref [] (c15)).bind fun p16=>(cS p16.1 p16.2).bind fun s17=>(qaj qpd [.one (Cell.str s17)] []).bind fun r18=>cond (qab qwhb r18) ((cB (qaa r18 0) 0).bind fun b19=>cond (!b19) (some ([.one (Cell.bool false)],[])) (qrj k m n (c7) i8 (IntKind.i64.wrap (i9+1)) s10 (c11) (c12) (c13) b14)) none) ((lenC c12).bind fun n20=>qpv k m m (c12) (n20:Int) 0 s10 (c11) (c12) (c13) b14)
def fat (k m:Nat)(s1:ByteArray)(c2 c3 c4:Cell)(b5:Bool):Option Res:=(lenC c2).bind fun n6=>qrj k m m (c2) (n6:Int) 0 s1 (c2) (c3) (c4) b5
abbrev qpdb (k m:Nat):TB:=evC qum qfb (evF qum (k+1)) m (sub [1,0,1,2,3] qfb.code) none
abbrev qtkb (k m:Nat):TK:=qbi 0 (seqK (evC qum qfb (evF qum (k+1)) m (sub [1,1] qfb.code) none) (retK qum qfb))
abbrev qpgb (k m:Nat):TB:=evC qum qfb (evF qum (k+1)) m (sub [1,1,0,1,2,3] qfb.code) none
abbrev qutb (k m:Nat):TK:=qbi 2 (seqK (evC qum qfb (evF qum (k+1)) m (sub [1,1,1] qfb.code) none) (retK qum qfb))
theorem qjdb (k m:Nat):∀ (n:Nat) (c21:Cell) (i22 i23:Int) (s24:ByteArray) (c25 c26 c27:Cell) (b28:Bool),qcz (some [1,19,20,21]) (qpgb k m) (qutb k m) n ⟨fT 54 0 [(1,.loc 1 0),(19,.av (.one (c21))),(20,.av (.one (Cell.int i22))),(21,.av (.one (Cell.int i23)))],fX 54 0 [(1,[Cell.str s24,c25,c26,c27,Cell.bool b28])],[]⟩=qpv (k+1) m n c21 i22 i23 s24 c25 c26 c27 b28:=by
 intro n
 induction n with
 | zero=>intros;rfl
 | succ n ih=>intros;simp only[qpv,← ih];kernel_rfl
theorem qhtb (k m:Nat):∀ (n:Nat) (c7:Cell) (i8 i9:Int) (s10:ByteArray) (c11 c12 c13:Cell) (b14:Bool),qcz (some [1,8,9,10]) (qpdb k m) (qtkb k m) n ⟨fT 54 0 [(1,.loc 1 0),(8,.av (.one (c7))),(9,.av (.one (Cell.int i8))),(10,.av (.one (Cell.int i9)))],fX 54 0 [(1,[Cell.str s10,c11,c12,c13,Cell.bool b14])],[]⟩=qrj (k+1) m n c7 i8 i9 s10 c11 c12 c13 b14:=by
 intro n
 induction n with
 | zero=>intros;rfl
 | succ n ih=>intros;simp only[qrj,← qjdb k m,← ih];kernel_rfl
theorem qrbb (k m:Nat)(s1:ByteArray)(c2 c3 c4:Cell)(b5:Bool):evC qum qfb (evF qum (k+1)) m qfb.code none (retK qum qfb) (enter qfb [.agg [Cell.str s1,c2,c3,c4,Cell.bool b5]] [])=fat (k+1) m s1 c2 c3 c4 b5:=by
 simp only[fat,← qhtb k m]
 kernel_rfl
theorem qeob {s1:ByteArray}{c2 c3 c4:Cell}{b5:Bool}{r:Res}(k:Nat)(h:fat (k+1) (k+1) s1 c2 c3 c4 b5=some r):qli [.agg [Cell.str s1,c2,c3,c4,Cell.bool b5]] []=some r:=qap (k:=k+2) (Eq.trans (Eq.trans (by kernel_rfl) (qrbb k (k+1) s1 c2 c3 c4 b5)) h)
def qauc:List (Nat×Run):=[(que,qnw),(qsy,qpq),(qus,qnz),(qvt,qli)]
def qgub:Ctx:=ctx qbk qbj qauc
def qgy:Run:=lim qgub quh
theorem ok_fad:FnOk Tryd.prog OkT quh qgy:=qao (l:=qauc) qac tyTab_ok qad okT (.cons ok_fag (.cons ok_faf (.cons ok_fae (.cons ok_fat .nil)))) quh
def qrv (k m:Nat):Nat→Cell→Int→Int→Int→Int→ByteArray→Cell→Cell→List Entry→Option Res | 0,_,_,_,_,_,_,_,_,_=>none | n+1,c12,i13,i14,i15,i16,s17,c18,c19,H20=>cond (decide (i14 < i13)) ((idxA 1 (c12) i14).bind fun c21=>(deref H20 (c21)).bind fun p22=>(cS p22.1 p22.2).bind fun s23=>(idxA 5 (c18) i14).bind fun c24=>(deref H20 (c24)).bind fun p25=>(cI .i64 p25.1 p25.2).bind fun i26=>(cI .i64 p25.1 (p25.2+1)).bind fun i27=>(cS p25.1 ((p25.2+1)+1)).bind fun s28=>(cC p25.1 (((p25.2+1)+1)+1)).bind fun c29=>(cC p25.1 ((((p25.2+1)+1)+1)+1)).bind fun c30=>(qnz [.one (.ptr 0 5 0 0 0),.one (Cell.str s23),.agg [Cell.int i26,Cell.int i27,Cell.str s28,c29,c30]] H20).bind fun r31=>cond (qab qagc r31.1) ((cB (qaa r31.1 0) 0).bind fun b32=>cond (!b32) (some ([.agg [Cell.str (bs []),.lst true 1 [],.lst true 1 [],.lst true 1 [],Cell.bool false],.one (Cell.bool false)],r31.2)) (qrv k m n (c12) i13 (IntKind.i64.wrap (i14+1)) i15 i16 s17 (c18) (c19) r31.2)) none) ((deref H20 (.ptr 0 5 0 0 0)).bind fun p33=>(cS p33.1 p33.2).bind fun s34=>(cC p33.1 (p33.2+1)).bind fun c35=>(cC p33.1 ((p33.2+1)+1)).bind fun c36=>(cC p33.1 (((p33.2+1)+1)+1)).bind fun c37=>(cB p33.1 ((((p33.2+1)+1)+1)+1)).bind fun b38=>(qaj qli [.agg [Cell.str s34,c35,c36,c37,Cell.bool b38]] H20).bind fun r39=>cond (qab qzpb r39) ((cB (qaa r39 0) 0).bind fun b40=>cond (!b40) (some ([.agg [Cell.str (bs []),.lst true 1 [],.lst true 1 [],.lst true 1 [],Cell.bool false],.one (Cell.bool false)],H20)) ((deref H20 (.ptr 0 5 0 0 0)).bind fun p41=>(cS p41.1 p41.2).bind fun s42=>(cC p41.1 (p41.2+1)).bind fun c43=>(cC p41.1 ((p41.2+1)+1)).bind fun c44=>(cC p41.1 (((p41.2+1)+1)+1)).bind fun c45=>(cB p41.1 ((((p41.2+1)+1)+1)+1)).bind fun b46=>some ([.agg [Cell.str s42,c43,c44,c45,Cell.bool b46],.one (Cell.bool true)],H20))) none)
def fad (k m:Nat)(s1:ByteArray)(i2 i3:Int)(s4:ByteArray)(c5 c6:Cell):Option Res:=(qaj qnw [.agg [Cell.int i2,Cell.int i3,Cell.str s4,c5,c6]] []).bind fun r7=>cond (qab qwwb r7) ((cB (qaa r7 0) 0).bind fun b8=>cond (!b8) (some ([.agg [Cell.str (bs []),.lst true 1 [],.lst true 1 [],.lst true 1 [],Cell.bool false],.one (Cell.bool false)],[])) ((qaj qpq [.agg [Cell.int i2,Cell.int i3,Cell.str s4,c5,c6]] []).bind fun r9=>cond (qab qwyb r9) ((cB (qaa r9 0) 0).bind fun b10=>cond (!b10) (some ([.agg [Cell.str (bs []),.lst true 1 [],.lst true 1 [],.lst true 1 [],Cell.bool false],.one (Cell.bool false)],[])) ((lenC c6).bind fun n11=>qrv k m m (c6) (n11:Int) 0 i2 i3 s4 (c5) (c6) [Entry.mk 5 [[Cell.str s1,.lst true 1 [],.lst true 1 [],.lst true 1 [],Cell.bool true]] 0 false])) none)) none
abbrev qnnb (k m:Nat):TB:=evC qgub qjz (evF qgub (k+1)) m (sub [1,1,1,0,1,2,3] qjz.code) none
abbrev qqub (k m:Nat):TK:=qbi 0 (seqK (evC qgub qjz (evF qgub (k+1)) m (sub [1,1,1,1] qjz.code) none) (retK qgub qjz))
theorem qhib (k m:Nat):∀ (n:Nat) (c12:Cell) (i13 i14 i15 i16:Int) (s17:ByteArray) (c18 c19:Cell) (H20:List Entry),qcz (some [3,4,6,21,22,23]) (qnnb k m) (qqub k m) n ⟨fT 43 0 [(3,.loc 3 0),(4,.loc 4 0),(6,.av (.one (.ptr 0 5 0 0 0))),(21,.av (.one (c12))),(22,.av (.one (Cell.int i13))),(23,.av (.one (Cell.int i14)))],fX 43 0 [(3,[Cell.int i15,Cell.int i16,Cell.str s17,c18,c19]),(4,[Cell.str (bs []),.lst true 1 [],.lst true 1 [],.lst true 1 [],Cell.bool false])],H20⟩=qrv (k+1) m n c12 i13 i14 i15 i16 s17 c18 c19 H20:=by
 intro n
 induction n with
 | zero=>intros;rfl
 | succ n ih=>intros;simp only[qrv,← ih];kernel_rfl
theorem qnsb (k m:Nat)(s1:ByteArray)(i2 i3:Int)(s4:ByteArray)(c5 c6:Cell):evC qgub qjz (evF qgub (k+1)) m qjz.code none (retK qgub qjz) (enter qjz [.one (Cell.str s1),.agg [Cell.int i2,Cell.int i3,Cell.str s4,c5,c6]] [])=fad (k+1) m s1 i2 i3 s4 c5 c6:=by
 simp only[fad,← qhib k m]
 kernel_rfl
theorem qix {s1:ByteArray}{i2 i3:Int}{s4:ByteArray}{c5 c6:Cell}{r:Res}(k:Nat)(h:fad (k+1) (k+1) s1 i2 i3 s4 c5 c6=some r):qgy [.one (Cell.str s1),.agg [Cell.int i2,Cell.int i3,Cell.str s4,c5,c6]] []=some r:=qap (k:=k+2) (Eq.trans (Eq.trans (by kernel_rfl) (qnsb k (k+1) s1 i2 i3 s4 c5 c6)) h)
def qwab:List (Nat×Run):=[]
def qkrb:Ctx:=ctx qbk qbj qwab
def qgb:Run:=lim qkrb qnt
theorem qbgc:FnOk Tryd.prog OkT qnt qgb:=qao (l:=qwab) qac tyTab_ok qad okT .nil qnt
def qsn (k m:Nat):Nat→Cell→Cell→Int→Option Res | 0,_,_,_=>none | n+1,c5,c6,i7=>(lenC c5).bind fun n8=>cond (decide (i7 < (n8:Int))) ((idxA 1 (c5) i7).bind fun c9=>(deref [] (c9)).bind fun p10=>(cS p10.1 p10.2).bind fun s11=>(idxA 1 (c6) i7).bind fun c12=>(deref [] (c12)).bind fun p13=>(cS p13.1 p13.2).bind fun s14=>cond (!(s11.toList==s14.toList)) (some ([.one (Cell.bool false)],[])) (qsn k m n (c5) (c6) (IntKind.i64.wrap (i7+1)))) (some ([.one (Cell.bool true)],[]))
def fbh (k m:Nat)(c1 c2:Cell):Option Res:=(lenC c1).bind fun n3=>(lenC c2).bind fun n4=>cond ((n3:Int) != (n4:Int)) (some ([.one (Cell.bool false)],[])) (qsn k m m (c1) (c2) 0)
abbrev qqrb (k m:Nat):TB:=evC qkrb qjs (evF qkrb (k+1)) m (sub [1,1,0,1,2,3] qjs.code) none
abbrev qozb (k m:Nat):TK:=qbi 0 (seqK (evC qkrb qjs (evF qkrb (k+1)) m (sub [1,1,1] qjs.code) none) (retK qkrb qjs))
theorem qkub (k m:Nat):∀ (n:Nat) (c5 c6:Cell) (i7:Int),qcz (some [0,1,5]) (qqrb k m) (qozb k m) n ⟨fT 26 0 [(0,.av (.one (c5))),(1,.av (.one (c6))),(5,.av (.one (Cell.int i7)))],fX 26 0 [],[]⟩=qsn (k+1) m n c5 c6 i7:=by
 intro n
 induction n with
 | zero=>intros;rfl
 | succ n ih=>intros;simp only[qsn,← ih];kernel_rfl
theorem qswb (k m:Nat)(c1 c2:Cell):evC qkrb qjs (evF qkrb (k+1)) m qjs.code none (retK qkrb qjs) (enter qjs [.one (c1),.one (c2)] [])=fbh (k+1) m c1 c2:=by
 simp only[fbh,← qkub k m]
 kernel_rfl
theorem qeib {c1 c2:Cell}{r:Res}(k:Nat)(h:fbh (k+1) (k+1) c1 c2=some r):qgb [.one (c1),.one (c2)] []=some r:=qap (k:=k+2) (Eq.trans (Eq.trans (by kernel_rfl) (qswb k (k+1) c1 c2)) h)
def qxgb:List (Nat×Run):=[(qnt,qgb)]
def qegc:Ctx:=ctx qbk qbj qxgb
def qfm:Run:=lim qegc qwe
theorem ok_fbg:FnOk Tryd.prog OkT qwe qfm:=qao (l:=qxgb) qac tyTab_ok qad okT (.cons qbgc .nil) qwe
def fbg (k m:Nat)(s1:ByteArray)(c2 c3 c4:Cell)(b5:Bool)(s6:ByteArray)(c7 c8 c9:Cell)(b10:Bool):Option Res:=cond (!(s1.toList==s6.toList)) (some ([.one (Cell.bool false)],[])) ((qaj qgb [.one (c2),.one (c7)] []).bind fun r11=>cond (qab qzx r11) ((cB (qaa r11 0) 0).bind fun b12=>cond (!b12) (some ([.one (Cell.bool false)],[])) ((qaj qgb [.one (c3),.one (c8)] []).bind fun r13=>cond (qab qzx r13) ((cB (qaa r13 0) 0).bind fun b14=>cond (!b14) (some ([.one (Cell.bool false)],[])) ((qaj qgb [.one (c4),.one (c9)] []).bind fun r15=>cond (qab qzx r15) ((cB (qaa r15 0) 0).bind fun b16=>cond (!b16) (some ([.one (Cell.bool false)],[])) (cond (!(b5==b10)) (some ([.one (Cell.bool false)],[])) (some ([.one (Cell.bool true)],[])))) none)) none)) none)
theorem qpjb (k m:Nat)(s1:ByteArray)(c2 c3 c4:Cell)(b5:Bool)(s6:ByteArray)(c7 c8 c9:Cell)(b10:Bool):evC qegc qxr (evF qegc (k+1)) m qxr.code none (retK qegc qxr) (enter qxr [.agg [Cell.str s1,c2,c3,c4,Cell.bool b5],.agg [Cell.str s6,c7,c8,c9,Cell.bool b10]] [])=fbg (k+1) m s1 c2 c3 c4 b5 s6 c7 c8 c9 b10:=by
 kernel_rfl
theorem qdmb {s1:ByteArray}{c2 c3 c4:Cell}{b5:Bool}{s6:ByteArray}{c7 c8 c9:Cell}{b10:Bool}{r:Res}(k:Nat)(h:fbg (k+1) (k+1) s1 c2 c3 c4 b5 s6 c7 c8 c9 b10=some r):qfm [.agg [Cell.str s1,c2,c3,c4,Cell.bool b5],.agg [Cell.str s6,c7,c8,c9,Cell.bool b10]] []=some r:=qap (k:=k+2) (Eq.trans (Eq.trans (by kernel_rfl) (qpjb k (k+1) s1 c2 c3 c4 b5 s6 c7 c8 c9 b10)) h)
def qyeb:List (Nat×Run):=[(qnt,qgb)]
def qkv:Ctx:=ctx qbk qbj qyeb
def qop:Run:=lim qkv qhf
theorem ok_fbi:FnOk Tryd.prog OkT qhf qop:=qao (l:=qyeb) qac tyTab_ok qad okT (.cons qbgc .nil) qhf
def fbi (k m:Nat)(i1 i2:Int)(s3:ByteArray)(c4 c5:Cell)(i6 i7:Int)(s8:ByteArray)(c9 c10:Cell):Option Res:=cond (i1 != i6) (some ([.one (Cell.bool false)],[])) (cond (i2 != i7) (some ([.one (Cell.bool false)],[])) (cond (!(s3.toList==s8.toList)) (some ([.one (Cell.bool false)],[])) ((qaj (evF qkv k qqu) [.one (c4),.one (c9)] []).bind fun r11=>cond (qab qcsc r11) ((cB (qaa r11 0) 0).bind fun b12=>cond (!b12) (some ([.one (Cell.bool false)],[])) ((qaj qgb [.one (c5),.one (c10)] []).bind fun r13=>cond (qab qzx r13) ((cB (qaa r13 0) 0).bind fun b14=>cond (!b14) (some ([.one (Cell.bool false)],[])) (some ([.one (Cell.bool true)],[]))) none)) none)))
theorem qtfb (k m:Nat)(i1 i2:Int)(s3:ByteArray)(c4 c5:Cell)(i6 i7:Int)(s8:ByteArray)(c9 c10:Cell):evC qkv qzf (evF qkv (k+1)) m qzf.code none (retK qkv qzf) (enter qzf [.agg [Cell.int i1,Cell.int i2,Cell.str s3,c4,c5],.agg [Cell.int i6,Cell.int i7,Cell.str s8,c9,c10]] [])=fbi (k+1) m i1 i2 s3 c4 c5 i6 i7 s8 c9 c10:=by
 kernel_rfl
theorem fbi_eq (k:Nat)(i1 i2:Int)(s3:ByteArray)(c4 c5:Cell)(i6 i7:Int)(s8:ByteArray)(c9 c10:Cell):evF qkv (k+2) qhf [.agg [Cell.int i1,Cell.int i2,Cell.str s3,c4,c5],.agg [Cell.int i6,Cell.int i7,Cell.str s8,c9,c10]] []=fbi (k+1) (k+1) i1 i2 s3 c4 c5 i6 i7 s8 c9 c10:=
 Eq.trans (by kernel_rfl) (qtfb k (k+1) i1 i2 s3 c4 c5 i6 i7 s8 c9 c10)
def qsg (k m:Nat):Nat→Cell→Cell→Int→Option Res | 0,_,_,_=>none | n+1,c5,c6,i7=>(lenC c5).bind fun n8=>cond (decide (i7 < (n8:Int))) ((idxA 5 (c5) i7).bind fun c9=>(deref [] (c9)).bind fun p10=>(cI .i64 p10.1 p10.2).bind fun i11=>(cI .i64 p10.1 (p10.2+1)).bind fun i12=>(cS p10.1 ((p10.2+1)+1)).bind fun s13=>(cC p10.1 (((p10.2+1)+1)+1)).bind fun c14=>(cC p10.1 ((((p10.2+1)+1)+1)+1)).bind fun c15=>(idxA 5 (c6) i7).bind fun c16=>(deref [] (c16)).bind fun p17=>(cI .i64 p17.1 p17.2).bind fun i18=>(cI .i64 p17.1 (p17.2+1)).bind fun i19=>(cS p17.1 ((p17.2+1)+1)).bind fun s20=>(cC p17.1 (((p17.2+1)+1)+1)).bind fun c21=>(cC p17.1 ((((p17.2+1)+1)+1)+1)).bind fun c22=>(qaj (evF qkv k qhf) [.agg [Cell.int i11,Cell.int i12,Cell.str s13,c14,c15],.agg [Cell.int i18,Cell.int i19,Cell.str s20,c21,c22]] []).bind fun r23=>cond (qab qtpb r23) ((cB (qaa r23 0) 0).bind fun b24=>cond (!b24) (some ([.one (Cell.bool false)],[])) (qsg k m n (c5) (c6) (IntKind.i64.wrap (i7+1)))) none) (some ([.one (Cell.bool true)],[]))
def fbj (k m:Nat)(c1 c2:Cell):Option Res:=(lenC c1).bind fun n3=>(lenC c2).bind fun n4=>cond ((n3:Int) != (n4:Int)) (some ([.one (Cell.bool false)],[])) (qsg k m m (c1) (c2) 0)
abbrev qtnb (k m:Nat):TB:=evC qkv qjb (evF qkv (k+1)) m (sub [1,1,0,1,2,3] qjb.code) none
abbrev qtbb (k m:Nat):TK:=qbi 0 (seqK (evC qkv qjb (evF qkv (k+1)) m (sub [1,1,1] qjb.code) none) (retK qkv qjb))
theorem qjyb (k m:Nat):∀ (n:Nat) (c5 c6:Cell) (i7:Int),qcz (some [0,1,5]) (qtnb k m) (qtbb k m) n ⟨fT 27 0 [(0,.av (.one (c5))),(1,.av (.one (c6))),(5,.av (.one (Cell.int i7)))],fX 27 0 [],[]⟩=qsg (k+1) m n c5 c6 i7:=by
 intro n
 induction n with
 | zero=>intros;rfl
 | succ n ih=>intros;simp only[qsg,← ih];kernel_rfl
theorem qtob (k m:Nat)(c1 c2:Cell):evC qkv qjb (evF qkv (k+1)) m qjb.code none (retK qkv qjb) (enter qjb [.one (c1),.one (c2)] [])=fbj (k+1) m c1 c2:=by
 simp only[fbj,← qjyb k m]
 kernel_rfl
theorem fbj_eq (k:Nat)(c1 c2:Cell):evF qkv (k+2) qqu [.one (c1),.one (c2)] []=fbj (k+1) (k+1) c1 c2:=
 Eq.trans (by kernel_rfl) (qtob k (k+1) c1 c2)
end
end Go.Ev
