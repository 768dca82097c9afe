/- What the evaluator says of the functions, each as a Lean function over cells. Printed by a program of this claim. Conditions: none. -/
import Derived.Test.YteenbnljpddleaaGreatDoorSh4
import Derived.KernelRfl
namespace Go.Ev
open Go Go.Proofs
noncomputable section
set_option maxRecDepth 100000
set_option linter.unusedVariables false
set_option linter.unusedSimpArgs false
def qund:List (Nat×Run):=[(qjmb,qwz)]
def qbze:Ctx:=ctx qbd qbe qund
def qgt:Run:=lim qbze qpn
theorem qhic:FnOk Tryz.prog OkT qpn qgt:=qan (l:=qund) qac tyTab_ok qad okT (.cons ok_fca .nil) qpn
def fgd (k m:Nat)(s1 s2:ByteArray):Option Res:=(qar qwz [.one (Cell.str s1),.one (Cell.str s2)] []).bind fun r3=>cond (qab qyrd r3) ((cS (qaa r3 0) 0).bind fun s4=>(cS (qaa r3 1) 0).bind fun s5=>(cB (qaa r3 2) 0).bind fun b6=>some ([.one (Cell.str s4),.one (Cell.str s5),.one (Cell.bool b6)],[])) none
theorem qgqd (k m:Nat)(s1 s2:ByteArray):evC qbze qsob (evF qbze (k+1)) m qsob.code none (retK qbze qsob) (enter qsob [.one (Cell.str s1),.one (Cell.str s2)] [])=fgd (k+1) m s1 s2:=by
 kernel_rfl
theorem qwtb {s1 s2:ByteArray}{r:Res}(k:Nat)(h:fgd (k+1) (k+1) s1 s2=some r):qgt [.one (Cell.str s1),.one (Cell.str s2)] []=some r:=qap (k:=k+2) (Eq.trans (Eq.trans (by kernel_rfl) (qgqd k (k+1) s1 s2)) h)
def qnqd:List (Nat×Run):=[(qtyc,qiob)]
def qcae:Ctx:=ctx qbd qbe qnqd
def qjr:Run:=lim qcae qwy
theorem qmud:FnOk Tryz.prog OkT qwy qjr:=qan (l:=qnqd) qac tyTab_ok qad okT (.cons ok_fgb .nil) qwy
def fae (k m:Nat)(i1:Int):Option Res:=(qar qiob [.one (Cell.int (if i1 < 0 then 0 else i1))] []).bind fun r2=>cond (qab qwgd r2) ((cS (qaa r2 0) 0).bind fun s3=>some ([.one (Cell.str s3)],[])) none
theorem qcid (k m:Nat)(i1:Int):evC qcae qrcb (evF qcae (k+1)) m qrcb.code none (retK qcae qrcb) (enter qrcb [.one (Cell.int i1)] [])=fae (k+1) m i1:=by
 kernel_rfl
theorem qvrb {i1:Int}{r:Res}(k:Nat)(h:fae (k+1) (k+1) i1=some r):qjr [.one (Cell.int i1)] []=some r:=qap (k:=k+2) (Eq.trans (Eq.trans (by kernel_rfl) (qcid k (k+1) i1)) h)
def qare:List (Nat×Run):=[(qiu,qdb),(qks,qeg),(qwy,qjr)]
def qplc:Ctx:=ctx qbd qbe qare
def qkl:Run:=lim qplc qapb
theorem qpyd:FnOk Tryz.prog OkT qapb qkl:=qan (l:=qare) qac tyTab_ok qad okT (.cons qhqb (.cons qskb (.cons qmud .nil))) qapb
def qgrb (k m:Nat):Nat→ByteArray→Int→Int→Int→Option Res | 0,_,_,_,_=>none | n+1,s5,i6,i7,i8=>cond (decide (i8 < (s5.size:Int))) ((bytS s5 i8).bind fun i9=>(qar qeg [.one (.sc (.int .u8 i9))] []).bind fun r10=>cond (qab qvo r10) ((cB (qaa r10 0) 0).bind fun b11=>cond (!b11) (some ([.one (Cell.int 0),.one (Cell.bool false)],[])) ((bytS s5 i8).bind fun i12=>qgrb k m n s5 i6 (IntKind.i64.wrap ((IntKind.i64.wrap (i7*10))+(IntKind.i64.wrap (IntKind.u8.wrap (i12 - 48))))) (IntKind.i64.wrap (i8+1)))) none) ((qar qjr [.one (Cell.int i7)] []).bind fun r13=>cond (qab qvlb r13) ((cS (qaa r13 0) 0).bind fun s14=>cond (!(s14.toList==s5.toList)) (some ([.one (Cell.int 0),.one (Cell.bool false)],[])) (cond (decide (i7 > i6)) (some ([.one (Cell.int 0),.one (Cell.bool false)],[])) (some ([.one (Cell.int i7),.one (Cell.bool true)],[])))) none)
def fai (k m:Nat)(s1:ByteArray)(i2:Int):Option Res:=(qar qdb [.one (Cell.int (s1.size:Int)),.one (Cell.int 1),.one (Cell.int 7)] []).bind fun r3=>cond (qab qlw r3) ((cB (qaa r3 0) 0).bind fun b4=>cond (!b4) (some ([.one (Cell.int 0),.one (Cell.bool false)],[])) (qgrb k m m s1 i2 0 0)) none
abbrev qvzc (k m:Nat):TB:=evC qplc qrw (evF qplc (k+1)) m (sub [1,1,1,0,1,2,3] qrw.code) none
abbrev qlpd (k m:Nat):TK:=qav 0 (seqK (evC qplc qrw (evF qplc (k+1)) m (sub [1,1,1,1] qrw.code) none) (retK qplc qrw))
theorem qlpc (k m:Nat):∀ (n:Nat) (s5:ByteArray) (i6 i7 i8:Int),qbo (some [0,1,6,7]) (qvzc k m) (qlpd k m) n ⟨fT 41 0 [(0,.av (.one (Cell.str s5))),(1,.av (.one (Cell.int i6))),(6,.av (.one (Cell.int i7))),(7,.av (.one (Cell.int i8)))],fX 41 0 [],[]⟩=qgrb (k+1) m n s5 i6 i7 i8:=by
 intro n
 induction n with
 | zero=>intros;rfl
 | succ n ih=>intros;simp only[qgrb,← ih];kernel_rfl
theorem qfkd (k m:Nat)(s1:ByteArray)(i2:Int):evC qplc qrw (evF qplc (k+1)) m qrw.code none (retK qplc qrw) (enter qrw [.one (Cell.str s1),.one (Cell.int i2)] [])=fai (k+1) m s1 i2:=by
 simp only[fai,← qlpc k m]
 kernel_rfl
theorem qbdb {s1:ByteArray}{i2:Int}{r:Res}(k:Nat)(h:fai (k+1) (k+1) s1 i2=some r):qkl [.one (Cell.str s1),.one (Cell.int i2)] []=some r:=qap (k:=k+2) (Eq.trans (Eq.trans (by kernel_rfl) (qfkd k (k+1) s1 i2)) h)
def qncd:List (Nat×Run):=[(qks,qeg)]
def qlac:Ctx:=ctx qbd qbe qncd
def qxm:Run:=lim qlac qoob
theorem ok_fbf:FnOk Tryz.prog OkT qoob qxm:=qan (l:=qncd) qac tyTab_ok qad okT (.cons qskb .nil) qoob
def qfkb (k m:Nat):Nat→ByteArray→Int→Option Res | 0,_,_=>none | n+1,s2,i3=>cond (decide (i3 < (s2.size:Int))) ((bytS s2 i3).bind fun i4=>(qar qeg [.one (.sc (.int .u8 i4))] []).bind fun r5=>cond (qab qvo r5) ((cB (qaa r5 0) 0).bind fun b6=>cond (!b6) (some ([.one (Cell.bool false)],[])) (qfkb k m n s2 (IntKind.i64.wrap (i3+1)))) none) (some ([.one (Cell.bool (!(s2.toList==(bs []).toList)))],[]))
def fbf (k m:Nat)(s1:ByteArray):Option Res:=qfkb k m m s1 0
abbrev qczd (k m:Nat):TB:=evC qlac qry (evF qlac (k+1)) m (sub [1,0,1,2,3] qry.code) none
abbrev qjbd (k m:Nat):TK:=qav 0 (seqK (evC qlac qry (evF qlac (k+1)) m (sub [1,1] qry.code) none) (retK qlac qry))
theorem qguc (k m:Nat):∀ (n:Nat) (s2:ByteArray) (i3:Int),qbo (some [0,3]) (qczd k m) (qjbd k m) n ⟨fT 17 0 [(0,.av (.one (Cell.str s2))),(3,.av (.one (Cell.int i3)))],fX 17 0 [],[]⟩=qfkb (k+1) m n s2 i3:=by
 intro n
 induction n with
 | zero=>intros;rfl
 | succ n ih=>intros;simp only[qfkb,← ih];kernel_rfl
theorem qwec (k m:Nat)(s1:ByteArray):evC qlac qry (evF qlac (k+1)) m qry.code none (retK qlac qry) (enter qry [.one (Cell.str s1)] [])=fbf (k+1) m s1:=by
 simp only[fbf,← qguc k m]
 kernel_rfl
theorem qbvc {s1:ByteArray}{r:Res}(k:Nat)(h:fbf (k+1) (k+1) s1=some r):qxm [.one (Cell.str s1)] []=some r:=qap (k:=k+2) (Eq.trans (Eq.trans (by kernel_rfl) (qwec k (k+1) s1)) h)
def qqid:List (Nat×Run):=[(qiu,qdb),(qrt,qgs),(qks,qeg),(qoob,qxm)]
def qjdc:Ctx:=ctx qbd qbe qqid
def qbtb:Run:=lim qjdc qnwb
theorem ok_fbr:FnOk Tryz.prog OkT qnwb qbtb:=qan (l:=qqid) qac tyTab_ok qad okT (.cons qhqb (.cons qfic (.cons qskb (.cons ok_fbf .nil)))) qnwb
def qms (k m:Nat):Nat→ByteArray→Int→Option Res | 0,_,_=>none | n+1,s2,i3=>cond (decide (i3 < (s2.size:Int))) ((bytS s2 i3).bind fun i4=>(qar qgs [.one (.sc (.int .u8 i4))] []).bind fun r5=>cond (qab qsib r5) ((cB (qaa r5 0) 0).bind fun b6=>cond (!b6) (cond (decide (i4≥65)) (cond (!(decide (i4≤90))) ((qar qeg [.one (.sc (.int .u8 i4))] []).bind fun r7=>cond (qab qvo r7) ((cB (qaa r7 0) 0).bind fun b8=>cond (!b8) (cond (i4 != 45) (some ([.one (Cell.bool false)],[])) (qms k m n s2 (IntKind.i64.wrap (i3+1)))) (qms k m n s2 (IntKind.i64.wrap (i3+1)))) none) (qms k m n s2 (IntKind.i64.wrap (i3+1)))) ((qar qeg [.one (.sc (.int .u8 i4))] []).bind fun r9=>cond (qab qvo r9) ((cB (qaa r9 0) 0).bind fun b10=>cond (!b10) (cond (i4 != 45) (some ([.one (Cell.bool false)],[])) (qms k m n s2 (IntKind.i64.wrap (i3+1)))) (qms k m n s2 (IntKind.i64.wrap (i3+1)))) none)) (qms k m n s2 (IntKind.i64.wrap (i3+1)))) none) ((qar qdb [.one (Cell.int (s2.size:Int)),.one (Cell.int 1),.one (Cell.int 8)] []).bind fun r11=>cond (qab qlw r11) ((cB (qaa r11 0) 0).bind fun b12=>cond b12 ((qar qxm [.one (Cell.str s2)] []).bind fun r13=>cond (qab qrfd r13) ((cB (qaa r13 0) 0).bind fun b14=>cond (!b14) (some ([.one (Cell.bool true)],[])) (cond (s2.toList==(bs [48]).toList) (some ([.one (Cell.bool true)],[])) ((bytS s2 0).bind fun i15=>some ([.one (Cell.bool (i15 != 48))],[])))) none) (some ([.one (Cell.bool false)],[]))) none)
def fbr (k m:Nat)(s1:ByteArray):Option Res:=qms k m m s1 0
abbrev qlud (k m:Nat):TB:=evC qjdc qpf (evF qjdc (k+1)) m (sub [1,0,1,2,3] qpf.code) none
abbrev qyxc (k m:Nat):TK:=qav 0 (seqK (evC qjdc qpf (evF qjdc (k+1)) m (sub [1,1] qpf.code) none) (retK qjdc qpf))
theorem qmlc (k m:Nat):∀ (n:Nat) (s2:ByteArray) (i3:Int),qbo (some [0,3]) (qlud k m) (qyxc k m) n ⟨fT 52 0 [(0,.av (.one (Cell.str s2))),(3,.av (.one (Cell.int i3)))],fX 52 0 [],[]⟩=qms (k+1) m n s2 i3:=by
 intro n
 induction n with
 | zero=>intros;rfl
 | succ n ih=>intros;simp only[qms,← ih];kernel_rfl
theorem qwgc (k m:Nat)(s1:ByteArray):evC qjdc qpf (evF qjdc (k+1)) m qpf.code none (retK qjdc qpf) (enter qpf [.one (Cell.str s1)] [])=fbr (k+1) m s1:=by
 simp only[fbr,← qmlc k m]
 kernel_rfl
theorem qxjb {s1:ByteArray}{r:Res}(k:Nat)(h:fbr (k+1) (k+1) s1=some r):qbtb [.one (Cell.str s1)] []=some r:=qap (k:=k+2) (Eq.trans (Eq.trans (by kernel_rfl) (qwgc k (k+1) s1)) h)
def qufd:List (Nat×Run):=[(qiu,qdb),(qnwb,qbtb)]
def qmmc:Ctx:=ctx qbd qbe qufd
def qql:Run:=lim qmmc qye
theorem qtad:FnOk Tryz.prog OkT qye qql:=qan (l:=qufd) qac tyTab_ok qad okT (.cons qhqb (.cons ok_fbr .nil)) qye
def qhub (k m:Nat):Nat→Cell→Int→Int→Int→Int→Int→Cell→Option Res | 0,_,_,_,_,_,_,_=>none | n+1,c6,i7,i8,i9,i10,i11,c12=>cond (decide (i8 < i7)) ((idxA 1 (c6) i8).bind fun c13=>(deref [] (c13)).bind fun p14=>(cS p14.1 p14.2).bind fun s15=>(qar qbtb [.one (Cell.str s15)] []).bind fun r16=>cond (qab qawe r16) ((cB (qaa r16 0) 0).bind fun b17=>cond (!b17) (some ([.one (Cell.bool false)],[])) (qhub k m n (c6) i7 (IntKind.i64.wrap (i8+1)) i9 i10 i11 (c12))) none) ((qar qdb [.one (Cell.int i9),.one (Cell.int 0),.one (Cell.int 9999)] []).bind fun r18=>cond (qab qlw r18) ((cB (qaa r18 0) 0).bind fun b19=>cond b19 ((qar qdb [.one (Cell.int i10),.one (Cell.int 0),.one (Cell.int 9999)] []).bind fun r20=>cond (qab qlw r20) ((cB (qaa r20 0) 0).bind fun b21=>cond b21 ((qar qdb [.one (Cell.int i11),.one (Cell.int 0),.one (Cell.int 9999)] []).bind fun r22=>cond (qab qlw r22) ((cB (qaa r22 0) 0).bind fun b23=>cond b23 ((lenC c12).bind fun n24=>some ([.one (Cell.bool (decide ((n24:Int)≤3)))],[])) (some ([.one (Cell.bool false)],[]))) none) (some ([.one (Cell.bool false)],[]))) none) (some ([.one (Cell.bool false)],[]))) none)
def fas (k m:Nat)(i1 i2 i3:Int)(c4:Cell):Option Res:=(lenC c4).bind fun n5=>qhub k m m (c4) (n5:Int) 0 i1 i2 i3 (c4)
abbrev qwqc (k m:Nat):TB:=evC qmmc qqy (evF qmmc (k+1)) m (sub [1,0,1,2,3] qqy.code) none
abbrev qgrd (k m:Nat):TK:=qav 0 (seqK (evC qmmc qqy (evF qmmc (k+1)) m (sub [1,1] qqy.code) none) (retK qmmc qqy))
theorem qltc (k m:Nat):∀ (n:Nat) (c6:Cell) (i7 i8 i9 i10 i11:Int) (c12:Cell),qbo (some [1,6,7,8]) (qwqc k m) (qgrd k m) n ⟨fT 35 0 [(1,.loc 1 0),(6,.av (.one (c6))),(7,.av (.one (Cell.int i7))),(8,.av (.one (Cell.int i8)))],fX 35 0 [(1,[Cell.int i9,Cell.int i10,Cell.int i11,c12])],[]⟩=qhub (k+1) m n c6 i7 i8 i9 i10 i11 c12:=by
 intro n
 induction n with
 | zero=>intros;rfl
 | succ n ih=>intros;simp only[qhub,← ih];kernel_rfl
theorem qgud (k m:Nat)(i1 i2 i3:Int)(c4:Cell):evC qmmc qqy (evF qmmc (k+1)) m qqy.code none (retK qmmc qqy) (enter qqy [.agg [Cell.int i1,Cell.int i2,Cell.int i3,c4]] [])=fas (k+1) m i1 i2 i3 c4:=by
 simp only[fas,← qltc k m]
 kernel_rfl
theorem qaxc {i1 i2 i3:Int}{c4:Cell}{r:Res}(k:Nat)(h:fas (k+1) (k+1) i1 i2 i3 c4=some r):qql [.agg [Cell.int i1,Cell.int i2,Cell.int i3,c4]] []=some r:=qap (k:=k+2) (Eq.trans (Eq.trans (by kernel_rfl) (qgud k (k+1) i1 i2 i3 c4)) h)
def qmjd:List (Nat×Run):=[(qye,qql),(qwy,qjr),(qtfc,qijb)]
def qbre:Ctx:=ctx qbd qbe qmjd
def qme:Run:=lim qbre qlfb
theorem ok_fat:FnOk Tryz.prog OkT qlfb qme:=qan (l:=qmjd) qac tyTab_ok qad okT (.cons qtad (.cons qmud (.cons ok_fgh .nil))) qlfb
def fat (k m:Nat)(i1 i2 i3:Int)(c4:Cell):Option Res:=(qar qql [.agg [Cell.int i1,Cell.int i2,Cell.int i3,c4]] []).bind fun r5=>cond (qab qbqd r5) ((cB (qaa r5 0) 0).bind fun b6=>cond (!b6) (some ([.one (Cell.str (bs []))],[])) ((qar qjr [.one (Cell.int i1)] []).bind fun r7=>cond (qab qvlb r7) ((cS (qaa r7 0) 0).bind fun s8=>(catS s8 (bs [46])).bind fun s9=>(qar qjr [.one (Cell.int i2)] []).bind fun r10=>cond (qab qvlb r10) ((cS (qaa r10 0) 0).bind fun s11=>(catS s9 s11).bind fun s12=>(catS s12 (bs [46])).bind fun s13=>(qar qjr [.one (Cell.int i3)] []).bind fun r14=>cond (qab qvlb r14) ((cS (qaa r14 0) 0).bind fun s15=>(catS s13 s15).bind fun s16=>(lenC c4).bind fun n17=>cond (decide ((n17:Int) > 0)) ((qar qijb [.one (c4),.one (Cell.str (bs [46]))] []).bind fun r18=>cond (qab qmed r18) ((cS (qaa r18 0) 0).bind fun s19=>(catS (bs [45]) s19).bind fun s20=>(catS s16 s20).bind fun s21=>some ([.one (Cell.str s21)],[])) none) (some ([.one (Cell.str s16)],[]))) none) none) none)) none
theorem qfdd (k m:Nat)(i1 i2 i3:Int)(c4:Cell):evC qbre qrzb (evF qbre (k+1)) m qrzb.code none (retK qbre qrzb) (enter qrzb [.agg [Cell.int i1,Cell.int i2,Cell.int i3,c4]] [])=fat (k+1) m i1 i2 i3 c4:=by
 kernel_rfl
theorem qwzb {i1 i2 i3:Int}{c4:Cell}{r:Res}(k:Nat)(h:fat (k+1) (k+1) i1 i2 i3 c4=some r):qme [.agg [Cell.int i1,Cell.int i2,Cell.int i3,c4]] []=some r:=qap (k:=k+2) (Eq.trans (Eq.trans (by kernel_rfl) (qfdd k (k+1) i1 i2 i3 c4)) h)
def qmwd:List (Nat×Run):=[(qpn,qgt),(qmm,qew),(qapb,qkl),(qlfb,qme)]
def qfcc:Ctx:=ctx qbd qbe qmwd
def qio:Run:=lim qfcc qxi
theorem qprd:FnOk Tryz.prog OkT qxi qio:=qan (l:=qmwd) qac tyTab_ok qad okT (.cons qhic (.cons qwlb (.cons qpyd (.cons ok_fat .nil)))) qxi
def qou (k m:Nat):Nat→ByteArray→ByteArray→Bool→Cell→Cell→Cell→Cell→Cell→Int→List Entry→Option Res | 0,_,_,_,_,_,_,_,_,_,_=>none | n+1,s9,s10,b11,c12,c13,c14,c15,c16,i17,H18=>cond (decide (i17 < 3)) (if 0≤i17∧i17 < 3 then ((cC [c14,c15,c16] (i17.toNat*1)).bind fun c19=>(idxA 1 (c12) i17).bind fun c20=>(deref H18 (c20)).bind fun p21=>(cS p21.1 p21.2).bind fun s22=>(qar qkl [.one (Cell.str s22),.one (Cell.int 9999)] H18).bind fun r23=>cond (qab qlcd r23) ((cI .i64 (qaa r23 0) 0).bind fun i24=>(cB (qaa r23 1) 0).bind fun b25=>cond (!b25) (some ([.agg [Cell.int 0,Cell.int 0,Cell.int 0,.lst true 1 []],.one (Cell.bool false)],H18)) ((ptrC c19).bind fun c26=>(qca H18 (c26) [Cell.int i24]).bind fun h27=>qou k m n s9 s10 b11 (c12) (c13) (c14) (c15) (c16) (IntKind.i64.wrap (i17+1)) h27)) none) else none) (cond b11 ((qdk qew [.one (Cell.str s10),.one (Cell.str (bs [46]))] H18).bind fun r28=>cond (qab qfeb r28.1) ((cC (qaa r28.1 0) 0).bind fun c29=>(fldA c13 3).bind fun c30=>(qca r28.2 (c30) [c29]).bind fun h31=>(deref h31 (c13)).bind fun p32=>(cI .i64 p32.1 p32.2).bind fun i33=>(cI .i64 p32.1 (p32.2+1)).bind fun i34=>(cI .i64 p32.1 ((p32.2+1)+1)).bind fun i35=>(cC p32.1 (((p32.2+1)+1)+1)).bind fun c36=>(qar qme [.agg [Cell.int i33,Cell.int i34,Cell.int i35,c36]] h31).bind fun r37=>cond (qab qcnd r37) ((cS (qaa r37 0) 0).bind fun s38=>cond (!(s38.toList==s9.toList)) (some ([.agg [Cell.int 0,Cell.int 0,Cell.int 0,.lst true 1 []],.one (Cell.bool false)],h31)) ((deref h31 (c13)).bind fun p39=>(cI .i64 p39.1 p39.2).bind fun i40=>(cI .i64 p39.1 (p39.2+1)).bind fun i41=>(cI .i64 p39.1 ((p39.2+1)+1)).bind fun i42=>(cC p39.1 (((p39.2+1)+1)+1)).bind fun c43=>some ([.agg [Cell.int i40,Cell.int i41,Cell.int i42,c43],.one (Cell.bool true)],h31))) none) none) ((deref H18 (c13)).bind fun p44=>(cI .i64 p44.1 p44.2).bind fun i45=>(cI .i64 p44.1 (p44.2+1)).bind fun i46=>(cI .i64 p44.1 ((p44.2+1)+1)).bind fun i47=>(cC p44.1 (((p44.2+1)+1)+1)).bind fun c48=>(qar qme [.agg [Cell.int i45,Cell.int i46,Cell.int i47,c48]] H18).bind fun r49=>cond (qab qcnd r49) ((cS (qaa r49 0) 0).bind fun s50=>cond (!(s50.toList==s9.toList)) (some ([.agg [Cell.int 0,Cell.int 0,Cell.int 0,.lst true 1 []],.one (Cell.bool false)],H18)) ((deref H18 (c13)).bind fun p51=>(cI .i64 p51.1 p51.2).bind fun i52=>(cI .i64 p51.1 (p51.2+1)).bind fun i53=>(cI .i64 p51.1 ((p51.2+1)+1)).bind fun i54=>(cC p51.1 (((p51.2+1)+1)+1)).bind fun c55=>some ([.agg [Cell.int i52,Cell.int i53,Cell.int i54,c55],.one (Cell.bool true)],H18))) none))
def fal (k m:Nat)(s1:ByteArray):Option Res:=(qar qgt [.one (Cell.str s1),.one (Cell.str (bs [45]))] []).bind fun r2=>cond (qab quhb r2) ((cS (qaa r2 0) 0).bind fun s3=>(cS (qaa r2 1) 0).bind fun s4=>(cB (qaa r2 2) 0).bind fun b5=>(qdk qew [.one (Cell.str s3),.one (Cell.str (bs [46]))] []).bind fun r6=>cond (qab qfeb r6.1) ((cC (qaa r6.1 0) 0).bind fun c7=>(lenC c7).bind fun n8=>cond ((n8:Int) != 3) (some ([.agg [Cell.int 0,Cell.int 0,Cell.int 0,.lst true 1 []],.one (Cell.bool false)],r6.2)) (qou k m m s1 s4 b5 (c7) (.ptr r6.2.length 4 0 0 0) (.ptr r6.2.length 4 0 0 0) (.ptr r6.2.length 4 0 1 0) (.ptr r6.2.length 4 0 2 0) 0 (r6.2++[Entry.mk 4 [[Cell.int 0,Cell.int 0,Cell.int 0,.lst true 1 []]] 0 false]))) none) none
abbrev qayd (k m:Nat):TB:=evC qfcc qsl (evF qfcc (k+1)) m (sub [1,1,1,1,1,0,1,2,3] qsl.code) none
abbrev qcmd (k m:Nat):TK:=qav 0 (seqK (evC qfcc qsl (evF qfcc (k+1)) m (sub [1,1,1,1,1,1] qsl.code) none) (retK qfcc qsl))
theorem qroc (k m:Nat):∀ (n:Nat) (s9 s10:ByteArray) (b11:Bool) (c12 c13 c14 c15 c16:Cell) (i17:Int) (H18:List Entry),qbo (some [0,2,5,6,7,8,28,29]) (qayd k m) (qcmd k m) n ⟨fT 58 0 [(0,.av (.one (Cell.str s9))),(2,.loc 2 0),(5,.av (.one (Cell.str s10))),(6,.av (.one (Cell.bool b11))),(7,.av (.one (c12))),(8,.av (.one (c13))),(28,.av (.agg [c14,c15,c16])),(29,.av (.one (Cell.int i17)))],fX 58 0 [(2,[Cell.int 0,Cell.int 0,Cell.int 0,.lst true 1 []])],H18⟩=qou (k+1) m n s9 s10 b11 c12 c13 c14 c15 c16 i17 H18:=by
 intro n
 induction n with
 | zero=>intros;rfl
 | succ n ih=>intros;simp only[qou,← ih];kernel_rfl
theorem qxbc (k m:Nat)(s1:ByteArray):evC qfcc qsl (evF qfcc (k+1)) m qsl.code none (retK qfcc qsl) (enter qsl [.one (Cell.str s1)] [])=fal (k+1) m s1:=by
 simp only[fal,← qroc k m]
 kernel_rfl
theorem qwx {s1:ByteArray}{r:Res}(k:Nat)(h:fal (k+1) (k+1) s1=some r):qio [.one (Cell.str s1)] []=some r:=qap (k:=k+2) (Eq.trans (Eq.trans (by kernel_rfl) (qxbc k (k+1) s1)) h)
def qwid:List (Nat×Run):=[]
def qdme:Ctx:=ctx qbd qbe qwid
def qkj:Run:=lim qdme qtj
theorem qicd:FnOk Tryz.prog OkT qtj qkj:=qan (l:=qwid) qac tyTab_ok qad okT .nil qtj
def fcc (k m:Nat)(s1 s2:ByteArray):Option Res:=cond (decide ((s1.size:Int)≥(s2.size:Int))) ((subS s1 0 (s2.size:Int)).bind fun s3=>some ([.one (Cell.bool (s3.toList==s2.toList))],[])) (some ([.one (Cell.bool false)],[]))
theorem quzc (k m:Nat)(s1 s2:ByteArray):evC qdme qpeb (evF qdme (k+1)) m qpeb.code none (retK qdme qpeb) (enter qpeb [.one (Cell.str s1),.one (Cell.str s2)] [])=fcc (k+1) m s1 s2:=by
 kernel_rfl
theorem qvzb {s1 s2:ByteArray}{r:Res}(k:Nat)(h:fcc (k+1) (k+1) s1 s2=some r):qkj [.one (Cell.str s1),.one (Cell.str s2)] []=some r:=qap (k:=k+2) (Eq.trans (Eq.trans (by kernel_rfl) (quzc k (k+1) s1 s2)) h)
def qsud:List (Nat×Run):=[(qtj,qkj)]
def qeae:Ctx:=ctx qbd qbe qsud
def qze:Run:=lim qeae qlhb
theorem ok_fcb:FnOk Tryz.prog OkT qlhb qze:=qan (l:=qsud) qac tyTab_ok qad okT (.cons qicd .nil) qlhb
def fcb (k m:Nat)(s1 s2:ByteArray):Option Res:=(qar qkj [.one (Cell.str s1),.one (Cell.str s2)] []).bind fun r3=>cond (qab qibc r3) ((cB (qaa r3 0) 0).bind fun b4=>cond (!b4) (some ([.one (Cell.str s1),.one (Cell.bool false)],[])) ((subS s1 (s2.size:Int) (s1.size:Int)).bind fun s5=>some ([.one (Cell.str s5),.one (Cell.bool true)],[]))) none
theorem qcdd (k m:Nat)(s1 s2:ByteArray):evC qeae qscb (evF qeae (k+1)) m qscb.code none (retK qeae qscb) (enter qscb [.one (Cell.str s1),.one (Cell.str s2)] [])=fcb (k+1) m s1 s2:=by
 kernel_rfl
theorem qzrb {s1 s2:ByteArray}{r:Res}(k:Nat)(h:fcb (k+1) (k+1) s1 s2=some r):qze [.one (Cell.str s1),.one (Cell.str s2)] []=some r:=qap (k:=k+2) (Eq.trans (Eq.trans (by kernel_rfl) (qcdd k (k+1) s1 s2)) h)
def qpcd:List (Nat×Run):=[(qlhb,qze)]
def qbbe:Ctx:=ctx qbd qbe qpcd
def qnw:Run:=lim qbbe qxj
theorem qyid:FnOk Tryz.prog OkT qxj qnw:=qan (l:=qpcd) qac tyTab_ok qad okT (.cons ok_fcb .nil) qxj
def fge (k m:Nat)(s1 s2:ByteArray):Option Res:=(qar qze [.one (Cell.str s1),.one (Cell.str s2)] []).bind fun r3=>cond (qab qyfd r3) ((cS (qaa r3 0) 0).bind fun s4=>(cB (qaa r3 1) 0).bind fun b5=>some ([.one (Cell.str s4),.one (Cell.bool b5)],[])) none
theorem qhod (k m:Nat)(s1 s2:ByteArray):evC qbbe qqmb (evF qbbe (k+1)) m qqmb.code none (retK qbbe qqmb) (enter qqmb [.one (Cell.str s1),.one (Cell.str s2)] [])=fge (k+1) m s1 s2:=by
 kernel_rfl
theorem qxlb {s1 s2:ByteArray}{r:Res}(k:Nat)(h:fge (k+1) (k+1) s1 s2=some r):qnw [.one (Cell.str s1),.one (Cell.str s2)] []=some r:=qap (k:=k+2) (Eq.trans (Eq.trans (by kernel_rfl) (qhod k (k+1) s1 s2)) h)
def qpfd:List (Nat×Run):=[(qmm,qew),(qxi,qio),(qapb,qkl)]
def qkdb:Ctx:=ctx qbd qbe qpfd
def qzu:Run:=lim qkdb qjub
theorem ok_fbp:FnOk Tryz.prog OkT qjub qzu:=qan (l:=qpfd) qac tyTab_ok qad okT (.cons qwlb (.cons qprd (.cons qpyd .nil))) qjub
def qpw (k m:Nat):Nat→Int→Cell→Int→Int→Int→Int→List Entry→Option Res | 0,_,_,_,_,_,_,_=>none | n+1,i19,c20,i21,i22,i23,i24,H25=>cond (decide (i22 < i21)) ((idxA 1 (c20) i22).bind fun c26=>(deref H25 (c26)).bind fun p27=>(cS p27.1 p27.2).bind fun s28=>(qar qkl [.one (Cell.str s28),.one (Cell.int 9999)] H25).bind fun r29=>cond (qab qlcd r29) ((cI .i64 (qaa r29 0) 0).bind fun i30=>(cB (qaa r29 1) 0).bind fun b31=>cond (!b31) (some ([.agg [Cell.int 0,Cell.int 0,Cell.int 0,.lst true 1 []],.one (Cell.int 0),.one (Cell.bool false)],H25)) (if i22=1 then (qpw k m n i19 (c20) i21 (IntKind.i64.wrap (i22+1)) i23 i30 H25) else if i22=0 then (qpw k m n i19 (c20) i21 (IntKind.i64.wrap (i22+1)) i30 i24 H25) else none)) none) (some ([.agg [Cell.int i23,Cell.int i24,Cell.int 0,.lst true 1 []],.one (Cell.int i19),.one (Cell.bool true)],H25))
def qsv (k m:Nat):Nat→Cell→Int→List Entry→Option Res | 0,_,_,_=>none | n+1,c11,i12,H13=>cond (decide (i12 > 1)) ((idxA 1 (c11) (IntKind.i64.wrap (i12 - 1))).bind fun c14=>(deref H13 (c14)).bind fun p15=>(cS p15.1 p15.2).bind fun s16=>cond (s16.toList==(bs [120]).toList) (qsv k m n (c11) (IntKind.i64.wrap (i12 - 1)) H13) (cond (decide (i12 > 2)) (some ([.agg [Cell.int 0,Cell.int 0,Cell.int 0,.lst true 1 []],.one (Cell.int 0),.one (Cell.bool false)],H13)) ((slcC 1 (c11) 0 (some i12) none).bind fun c17=>(lenC c17).bind fun n18=>qpw k m m i12 (c17) (n18:Int) 0 0 0 H13))) (cond (decide (i12 > 2)) (some ([.agg [Cell.int 0,Cell.int 0,Cell.int 0,.lst true 1 []],.one (Cell.int 0),.one (Cell.bool false)],H13)) ((slcC 1 (c11) 0 (some i12) none).bind fun c32=>(lenC c32).bind fun n33=>qpw k m m i12 (c32) (n33:Int) 0 0 0 H13))
def fbp (k m:Nat)(s1:ByteArray):Option Res:=(qdk qio [.one (Cell.str s1)] []).bind fun r2=>cond (qab qsdc r2.1) ((cI .i64 (qaa r2.1 0) 0).bind fun i3=>(cI .i64 (qaa r2.1 0) 1).bind fun i4=>(cI .i64 (qaa r2.1 0) 2).bind fun i5=>(cC (qaa r2.1 0) 3).bind fun c6=>(cB (qaa r2.1 1) 0).bind fun b7=>cond b7 (some ([.agg [Cell.int i3,Cell.int i4,Cell.int i5,c6],.one (Cell.int 3),.one (Cell.bool true)],r2.2)) ((qdk qew [.one (Cell.str s1),.one (Cell.str (bs [46]))] r2.2).bind fun r8=>cond (qab qfeb r8.1) ((cC (qaa r8.1 0) 0).bind fun c9=>(lenC c9).bind fun n10=>cond (decide ((n10:Int) > 3)) (some ([.agg [Cell.int 0,Cell.int 0,Cell.int 0,.lst true 1 []],.one (Cell.int 0),.one (Cell.bool false)],r8.2)) (qsv k m m (c9) (n10:Int) r8.2)) none)) none
abbrev qxzc (k m:Nat):TB:=evC qkdb qif (evF qkdb (k+1)) m (sub [1,1,1,1,1,0,2,3] qif.code) none
abbrev qzlc (k m:Nat):TK:=qav 0 (seqK (evC qkdb qif (evF qkdb (k+1)) m (sub [1,1,1,1,1,1] qif.code) none) (retK qkdb qif))
abbrev qurc (k m:Nat):TB:=evC qkdb qif (evF qkdb (k+1)) m (sub [1,1,1,1,1,1,1,1,0,1,2,3] qif.code) none
abbrev qhnd (k m:Nat):TK:=qav 2 (seqK (evC qkdb qif (evF qkdb (k+1)) m (sub [1,1,1,1,1,1,1,1,1] qif.code) none) (retK qkdb qif))
theorem qjsc (k m:Nat):∀ (n:Nat) (i19:Int) (c20:Cell) (i21 i22 i23 i24:Int) (H25:List Entry),qbo (some [2,8,9,45,46,47]) (qurc k m) (qhnd k m) n ⟨fT 70 0 [(2,.loc 2 0),(8,.av (.one (Cell.int i19))),(9,.loc 9 0),(45,.av (.one (c20))),(46,.av (.one (Cell.int i21))),(47,.av (.one (Cell.int i22)))],fX 70 0 [(2,[Cell.int 0,Cell.int 0,Cell.int 0,.lst true 1 []]),(9,[Cell.int i23,Cell.int i24])],H25⟩=qpw (k+1) m n i19 c20 i21 i22 i23 i24 H25:=by
 intro n
 induction n with
 | zero=>intros;rfl
 | succ n ih=>intros;simp only[qpw,← ih];kernel_rfl
theorem qnmc (k m:Nat):∀ (n:Nat) (c11:Cell) (i12:Int) (H13:List Entry),qbo (some [2,7,8]) (qxzc k m) (qzlc k m) n ⟨fT 70 0 [(2,.loc 2 0),(7,.av (.one (c11))),(8,.av (.one (Cell.int i12)))],fX 70 0 [(2,[Cell.int 0,Cell.int 0,Cell.int 0,.lst true 1 []])],H13⟩=qsv (k+1) m n c11 i12 H13:=by
 intro n
 induction n with
 | zero=>intros;rfl
 | succ n ih=>intros;simp only[qsv,← qjsc k m,← ih];kernel_rfl
theorem qvjc (k m:Nat)(s1:ByteArray):evC qkdb qif (evF qkdb (k+1)) m qif.code none (retK qkdb qif) (enter qif [.one (Cell.str s1)] [])=fbp (k+1) m s1:=by
 simp only[fbp,← qnmc k m]
 kernel_rfl
theorem qsi {s1:ByteArray}{r:Res}(k:Nat)(h:fbp (k+1) (k+1) s1=some r):qzu [.one (Cell.str s1)] []=some r:=qap (k:=k+2) (Eq.trans (Eq.trans (by kernel_rfl) (qvjc k (k+1) s1)) h)
def qaqe:List (Nat×Run):=[]
def qdee:Ctx:=ctx qbd qbe qaqe
def qkh:Run:=lim qdee qjeb
theorem ok_fbo:FnOk Tryz.prog OkT qjeb qkh:=qan (l:=qaqe) qac tyTab_ok qad okT .nil qjeb
def fbo (k m:Nat)(i1 i2 i3:Int)(c4:Cell)(i5:Int):Option Res:=cond (i5==1) (some ([.agg [Cell.int (IntKind.i64.wrap (i1+1)),Cell.int 0,Cell.int 0,.lst true 1 []]],[])) (cond (i5==2) (some ([.agg [Cell.int i1,Cell.int (IntKind.i64.wrap (i2+1)),Cell.int 0,.lst true 1 []]],[])) (some ([.agg [Cell.int i1,Cell.int i2,Cell.int (IntKind.i64.wrap (i3+1)),.lst true 1 []]],[])))
theorem qfvd (k m:Nat)(i1 i2 i3:Int)(c4:Cell)(i5:Int):evC qdee qqib (evF qdee (k+1)) m qqib.code none (retK qdee qqib) (enter qqib [.agg [Cell.int i1,Cell.int i2,Cell.int i3,c4],.one (Cell.int i5)] [])=fbo (k+1) m i1 i2 i3 c4 i5:=by
 kernel_rfl
theorem qdtb {i1 i2 i3:Int}{c4:Cell}{i5:Int}{r:Res}(k:Nat)(h:fbo (k+1) (k+1) i1 i2 i3 c4 i5=some r):qkh [.agg [Cell.int i1,Cell.int i2,Cell.int i3,c4],.one (Cell.int i5)] []=some r:=qap (k:=k+2) (Eq.trans (Eq.trans (by kernel_rfl) (qfvd k (k+1) i1 i2 i3 c4 i5)) h)
def qued:List (Nat×Run):=[]
def qcee:Ctx:=ctx qbd qbe qued
def qmg:Run:=lim qcee qlob
theorem ok_fav:FnOk Tryz.prog OkT qlob qmg:=qan (l:=qued) qac tyTab_ok qad okT .nil qlob
def fav (k m:Nat)(i1 i2 i3:Int)(c4:Cell):Option Res:=some ([.agg [Cell.int 1,Cell.int i1,Cell.int i2,Cell.int i3,.lst true 1 [[Cell.str (bs [48])]]]],[])
theorem qjcd (k m:Nat)(i1 i2 i3:Int)(c4:Cell):evC qcee qrjb (evF qcee (k+1)) m qrjb.code none (retK qcee qrjb) (enter qrjb [.agg [Cell.int i1,Cell.int i2,Cell.int i3,c4]] [])=fav (k+1) m i1 i2 i3 c4:=by
 kernel_rfl
theorem qyzb {i1 i2 i3:Int}{c4:Cell}{r:Res}(k:Nat)(h:fav (k+1) (k+1) i1 i2 i3 c4=some r):qmg [.agg [Cell.int i1,Cell.int i2,Cell.int i3,c4]] []=some r:=qap (k:=k+2) (Eq.trans (Eq.trans (by kernel_rfl) (qjcd k (k+1) i1 i2 i3 c4)) h)
def qwjd:List (Nat×Run):=[]
def qbqe:Ctx:=ctx qbd qbe qwjd
def qyp:Run:=lim qbqe qiyb
theorem ok_faw:FnOk Tryz.prog OkT qiyb qyp:=qan (l:=qwjd) qac tyTab_ok qad okT .nil qiyb
def faw (k m:Nat)(i1 i2 i3:Int)(c4:Cell)(i5:Int):Option Res:=cond (i1 != 0) (some ([.agg [Cell.int (IntKind.i64.wrap (i1+1)),Cell.int 0,Cell.int 0,.lst true 1 []]],[])) (cond (i5==1) (some ([.agg [Cell.int (IntKind.i64.wrap (i1+1)),Cell.int 0,Cell.int 0,.lst true 1 []]],[])) (cond (i2 != 0) (some ([.agg [Cell.int 0,Cell.int (IntKind.i64.wrap (i2+1)),Cell.int 0,.lst true 1 []]],[])) (cond (i5==2) (some ([.agg [Cell.int 0,Cell.int (IntKind.i64.wrap (i2+1)),Cell.int 0,.lst true 1 []]],[])) (some ([.agg [Cell.int 0,Cell.int 0,Cell.int (IntKind.i64.wrap (i3+1)),.lst true 1 []]],[])))))
theorem qbld (k m:Nat)(i1 i2 i3:Int)(c4:Cell)(i5:Int):evC qbqe qqub (evF qbqe (k+1)) m qqub.code none (retK qbqe qqub) (enter qqub [.agg [Cell.int i1,Cell.int i2,Cell.int i3,c4],.one (Cell.int i5)] [])=faw (k+1) m i1 i2 i3 c4 i5:=by
 kernel_rfl
theorem qagc {i1 i2 i3:Int}{c4:Cell}{i5:Int}{r:Res}(k:Nat)(h:faw (k+1) (k+1) i1 i2 i3 c4 i5=some r):qyp [.agg [Cell.int i1,Cell.int i2,Cell.int i3,c4],.one (Cell.int i5)] []=some r:=qap (k:=k+2) (Eq.trans (Eq.trans (by kernel_rfl) (qbld k (k+1) i1 i2 i3 c4 i5)) h)
def qqfd:List (Nat×Run):=[(qjeb,qkh),(qlob,qmg),(qiyb,qyp)]
def qdke:Ctx:=ctx qbd qbe qqfd
def qbvb:Run:=lim qdke qmab
theorem ok_fbw:FnOk Tryz.prog OkT qmab qbvb:=qan (l:=qqfd) qac tyTab_ok qad okT (.cons ok_fbo (.cons ok_fav (.cons ok_faw .nil))) qmab
def fbw (k m:Nat)(s1:ByteArray)(i2 i3 i4:Int)(c5:Cell)(i6:Int):Option Res:=(callL qkh [.agg [Cell.int i2,Cell.int i3,Cell.int i4,c5],.one (Cell.int i6)] []).bind fun r7=>cond (qab qujc r7.1) ((cI .i64 (qaa r7.1 0) 0).bind fun i8=>(cI .i64 (qaa r7.1 0) 1).bind fun i9=>(cI .i64 (qaa r7.1 0) 2).bind fun i10=>(cC (qaa r7.1 0) 3).bind fun c11=>cond (s1.toList==(bs [62,61]).toList) (restK [Cell.int 4,Cell.int i2,Cell.int i3,Cell.int i4,c5] fun d12=>some ([.one ((.lst true 5 (chunks 5 1 d12)))],r7.2)) (cond (s1.toList==(bs [60]).toList) (restK [Cell.int 1,Cell.int i2,Cell.int i3,Cell.int i4,c5] fun d13=>some ([.one ((.lst true 5 (chunks 5 1 d13)))],r7.2)) (cond (s1.toList==(bs [62]).toList) (cond (decide (i6 < 3)) (restK [Cell.int 4,Cell.int i8,Cell.int i9,Cell.int i10,c11] fun d14=>some ([.one ((.lst true 5 (chunks 5 1 d14)))],r7.2)) (restK [Cell.int 3,Cell.int i2,Cell.int i3,Cell.int i4,c5] fun d15=>some ([.one ((.lst true 5 (chunks 5 1 d15)))],r7.2))) (cond (s1.toList==(bs [60,61]).toList) (cond (decide (i6 < 3)) ((callL qmg [.agg [Cell.int i8,Cell.int i9,Cell.int i10,c11]] r7.2).bind fun r16=>cond (qab qtqb r16.1) ((cI .i64 (qaa r16.1 0) 0).bind fun i17=>(cI .i64 (qaa r16.1 0) 1).bind fun i18=>(cI .i64 (qaa r16.1 0) 2).bind fun i19=>(cI .i64 (qaa r16.1 0) 3).bind fun i20=>(cC (qaa r16.1 0) 4).bind fun c21=>restK [Cell.int i17,Cell.int i18,Cell.int i19,Cell.int i20,c21] fun d22=>some ([.one ((.lst true 5 (chunks 5 1 d22)))],r16.2)) none) (restK [Cell.int 2,Cell.int i2,Cell.int i3,Cell.int i4,c5] fun d23=>some ([.one ((.lst true 5 (chunks 5 1 d23)))],r7.2))) (cond (s1.toList==(bs [126]).toList) ((callL qkh [.agg [Cell.int i2,Cell.int i3,Cell.int 0,.lst true 1 []],.one (Cell.int (if 2 < i6 then 2 else i6))] []).bind fun r24=>cond (qab qujc r24.1) ((cI .i64 (qaa r24.1 0) 0).bind fun i25=>(cI .i64 (qaa r24.1 0) 1).bind fun i26=>(cI .i64 (qaa r24.1 0) 2).bind fun i27=>(cC (qaa r24.1 0) 3).bind fun c28=>qlq r24.2 ((callL qmg [.agg [Cell.int i25,Cell.int i26,Cell.int i27,c28]] []).bind fun r29=>cond (qab qtqb r29.1) ((cI .i64 (qaa r29.1 0) 0).bind fun i30=>(cI .i64 (qaa r29.1 0) 1).bind fun i31=>(cI .i64 (qaa r29.1 0) 2).bind fun i32=>(cI .i64 (qaa r29.1 0) 3).bind fun i33=>(cC (qaa r29.1 0) 4).bind fun c34=>qlq r29.2 (restK [Cell.int 4,Cell.int i2,Cell.int i3,Cell.int i4,c5,Cell.int i30,Cell.int i31,Cell.int i32,Cell.int i33,c34] fun d35=>some ([.one ((.lst true 5 (chunks 5 2 d35)))],r7.2))) none)) none) (cond (s1.toList==(bs [94]).toList) ((callL qyp [.agg [Cell.int i2,Cell.int i3,Cell.int i4,c5],.one (Cell.int i6)] []).bind fun r36=>cond (qab qqld r36.1) ((cI .i64 (qaa r36.1 0) 0).bind fun i37=>(cI .i64 (qaa r36.1 0) 1).bind fun i38=>(cI .i64 (qaa r36.1 0) 2).bind fun i39=>(cC (qaa r36.1 0) 3).bind fun c40=>qlq r36.2 ((callL qmg [.agg [Cell.int i37,Cell.int i38,Cell.int i39,c40]] []).bind fun r41=>cond (qab qtqb r41.1) ((cI .i64 (qaa r41.1 0) 0).bind fun i42=>(cI .i64 (qaa r41.1 0) 1).bind fun i43=>(cI .i64 (qaa r41.1 0) 2).bind fun i44=>(cI .i64 (qaa r41.1 0) 3).bind fun i45=>(cC (qaa r41.1 0) 4).bind fun c46=>qlq r41.2 (restK [Cell.int 4,Cell.int i2,Cell.int i3,Cell.int i4,c5,Cell.int i42,Cell.int i43,Cell.int i44,Cell.int i45,c46] fun d47=>some ([.one ((.lst true 5 (chunks 5 2 d47)))],r7.2))) none)) none) (cond (decide (i6 < 3)) ((callL qmg [.agg [Cell.int i8,Cell.int i9,Cell.int i10,c11]] []).bind fun r48=>cond (qab qtqb r48.1) ((cI .i64 (qaa r48.1 0) 0).bind fun i49=>(cI .i64 (qaa r48.1 0) 1).bind fun i50=>(cI .i64 (qaa r48.1 0) 2).bind fun i51=>(cI .i64 (qaa r48.1 0) 3).bind fun i52=>(cC (qaa r48.1 0) 4).bind fun c53=>qlq r48.2 (restK [Cell.int 4,Cell.int i2,Cell.int i3,Cell.int i4,c5,Cell.int i49,Cell.int i50,Cell.int i51,Cell.int i52,c53] fun d54=>some ([.one ((.lst true 5 (chunks 5 2 d54)))],r7.2))) none) (restK [Cell.int 0,Cell.int i2,Cell.int i3,Cell.int i4,c5] fun d55=>some ([.one ((.lst true 5 (chunks 5 1 d55)))],r7.2))))))))) none
theorem qjnd (k m:Nat)(s1:ByteArray)(i2 i3 i4:Int)(c5:Cell)(i6:Int):evC qdke qqfb (evF qdke (k+1)) m qqfb.code none (retK qdke qqfb) (enter qqfb [.one (Cell.str s1),.agg [Cell.int i2,Cell.int i3,Cell.int i4,c5],.one (Cell.int i6)] [])=fbw (k+1) m s1 i2 i3 i4 c5 i6:=by
 kernel_rfl
theorem qtob {s1:ByteArray}{i2 i3 i4:Int}{c5:Cell}{i6:Int}{r:Res}(k:Nat)(h:fbw (k+1) (k+1) s1 i2 i3 i4 c5 i6=some r):qbvb [.one (Cell.str s1),.agg [Cell.int i2,Cell.int i3,Cell.int i4,c5],.one (Cell.int i6)] []=some r:=qap (k:=k+2) (Eq.trans (Eq.trans (by kernel_rfl) (qjnd k (k+1) s1 i2 i3 i4 c5 i6)) h)
def qpsd:List (Nat×Run):=[(qxj,qnw),(qjub,qzu),(qmab,qbvb)]
def qrlc:Ctx:=ctx qbd qbe qpsd
def qcfb:Run:=lim qrlc qikb
theorem ok_faz:FnOk Tryz.prog OkT qikb qcfb:=qan (l:=qpsd) qac tyTab_ok qad okT (.cons qyid (.cons ok_fbp (.cons ok_fbw .nil))) qikb
def qdmb (k m:Nat):Nat→ByteArray→Int→Option Res | 0,_,_=>none | n+1,s2,i3=>cond (decide (i3 < 8)) (if 0≤i3∧i3 < 8 then ((cS [Cell.str (bs [94]),Cell.str (bs [126]),Cell.str (bs [62,61]),Cell.str (bs [62]),Cell.str (bs [60,61]),Cell.str (bs [60]),Cell.str (bs [61]),Cell.str (bs [])] (i3.toNat*1)).bind fun s4=>(qar qnw [.one (Cell.str s2),.one (Cell.str s4)] []).bind fun r5=>cond (qab qlfd r5) ((cS (qaa r5 0) 0).bind fun s6=>(cB (qaa r5 1) 0).bind fun b7=>cond (!b7) (qdmb k m n s2 (IntKind.i64.wrap (i3+1))) ((callL qzu [.one (Cell.str s6)] []).bind fun r8=>cond (qab qtwd r8.1) ((cI .i64 (qaa r8.1 0) 0).bind fun i9=>(cI .i64 (qaa r8.1 0) 1).bind fun i10=>(cI .i64 (qaa r8.1 0) 2).bind fun i11=>(cC (qaa r8.1 0) 3).bind fun c12=>(cI .i64 (qaa r8.1 1) 0).bind fun i13=>(cB (qaa r8.1 2) 0).bind fun b14=>cond (!b14) (some ([.one (.lst true 5 []),.one (Cell.bool false)],r8.2)) ((callL qbvb [.one (Cell.str s4),.agg [Cell.int i9,Cell.int i10,Cell.int i11,c12],.one (Cell.int i13)] r8.2).bind fun r15=>cond (qab qsid r15.1) ((cC (qaa r15.1 0) 0).bind fun c16=>some ([.one (c16),.one (Cell.bool true)],r15.2)) none)) none)) none) else none) (some ([.one (.lst true 5 []),.one (Cell.bool false)],[]))
def faz (k m:Nat)(s1:ByteArray):Option Res:=cond (s1.toList==(bs [42]).toList) (some ([.one (.lst true 5 [[Cell.int 4,Cell.int 0,Cell.int 0,Cell.int 0,.lst true 1 []]]),.one (Cell.bool true)],[])) (qdmb k m m s1 0)
abbrev qard (k m:Nat):TB:=evC qrlc qpp (evF qrlc (k+1)) m (sub [1,1,0,1,2,3] qpp.code) none
abbrev qzfc (k m:Nat):TK:=qav 0 (seqK (evC qrlc qpp (evF qrlc (k+1)) m (sub [1,1,1] qpp.code) none) (retK qrlc qpp))
theorem qkic (k m:Nat):∀ (n:Nat) (s2:ByteArray) (i3:Int),qbo (some [0,15,16]) (qard k m) (qzfc k m) n ⟨fT 40 0 [(0,.av (.one (Cell.str s2))),(15,.av (.agg [Cell.str (bs [94]),Cell.str (bs [126]),Cell.str (bs [62,61]),Cell.str (bs [62]),Cell.str (bs [60,61]),Cell.str (bs [60]),Cell.str (bs [61]),Cell.str (bs [])])),(16,.av (.one (Cell.int i3)))],fX 40 0 [],[]⟩=qdmb (k+1) m n s2 i3:=by
 intro n
 induction n with
 | zero=>intros;rfl
 | succ n ih=>intros;simp only[qdmb,← ih];kernel_rfl
theorem qxlc (k m:Nat)(s1:ByteArray):evC qrlc qpp (evF qrlc (k+1)) m qpp.code none (retK qrlc qpp) (enter qpp [.one (Cell.str s1)] [])=faz (k+1) m s1:=by
 simp only[faz,← qkic k m]
 kernel_rfl
theorem qyc {s1:ByteArray}{r:Res}(k:Nat)(h:faz (k+1) (k+1) s1=some r):qcfb [.one (Cell.str s1)] []=some r:=qap (k:=k+2) (Eq.trans (Eq.trans (by kernel_rfl) (qxlc k (k+1) s1)) h)
def qzid:List (Nat×Run):=[(qmm,qew),(qtec,qmmb),(qxi,qio),(qikb,qcfb),(qye,qql)]
def qiqb:Ctx:=ctx qbd qbe qzid
def qdjb:Run:=lim qiqb qksb
theorem ok_fbk:FnOk Tryz.prog OkT qksb qdjb:=qan (l:=qzid) qac tyTab_ok qad okT (.cons qwlb (.cons ok_fgj (.cons qprd (.cons ok_faz (.cons qtad .nil))))) qksb
def qglb (k m:Nat):Nat→Cell→Cell→Int→Int→List Entry→Option Res | 0,_,_,_,_,_=>none | n+1,c43,c44,i45,i46,H47=>cond (decide (i46 < i45)) ((idxA 5 (c44) i46).bind fun c48=>(deref H47 (c48)).bind fun p49=>(cI .i64 p49.1 p49.2).bind fun i50=>(cI .i64 p49.1 (p49.2+1)).bind fun i51=>(cI .i64 p49.1 ((p49.2+1)+1)).bind fun i52=>(cI .i64 p49.1 (((p49.2+1)+1)+1)).bind fun i53=>(cC p49.1 ((((p49.2+1)+1)+1)+1)).bind fun c54=>(qar qql [.agg [Cell.int i51,Cell.int i52,Cell.int i53,c54]] H47).bind fun r55=>cond (qab qbqd r55) ((cB (qaa r55 0) 0).bind fun b56=>cond (!b56) (some ([.one (.lst true 5 []),.one (Cell.bool false)],H47)) (qglb k m n (c43) (c44) i45 (IntKind.i64.wrap (i46+1)) H47)) none) ((lenC c43).bind fun n57=>some ([.one (c43),.one (Cell.bool (decide ((n57:Int)≤4)))],H47))
def qwl (k m:Nat):Nat→Cell→Cell→Int→Int→List Entry→Option Res | 0,_,_,_,_,_=>none | n+1,c29,c30,i31,i32,H33=>cond (decide (i32 < i31)) ((idxA 1 (c30) i32).bind fun c34=>(deref H33 (c34)).bind fun p35=>(cS p35.1 p35.2).bind fun s36=>(callL qcfb [.one (Cell.str s36)] H33).bind fun r37=>cond (qab qsed r37.1) ((cC (qaa r37.1 0) 0).bind fun c38=>(cB (qaa r37.1 1) 0).bind fun b39=>cond (!b39) (some ([.one (.lst true 5 []),.one (Cell.bool false)],r37.2)) ((qbp r37.2 5 c38).bind fun r40=>(app r37.2 5 56 (c29) r40).bind fun p41=>qwl k m n (p41.1) (c30) i31 (IntKind.i64.wrap (i32+1)) p41.2)) none) ((lenC c29).bind fun n42=>qglb k m m (c29) (c29) (n42:Int) 0 H33)
def fbk (k m:Nat)(s1:ByteArray):Option Res:=(qar qmmb [.one (Cell.str s1),.one (Cell.str (bs [32]))] []).bind fun r2=>cond (qab qtfd r2) ((cS (qaa r2 0) 0).bind fun s3=>(qdk qew [.one (Cell.str s3),.one (Cell.str (bs [32]))] []).bind fun r4=>cond (qab qfeb r4.1) ((cC (qaa r4.1 0) 0).bind fun c5=>(lenC c5).bind fun n6=>cond ((n6:Int)==3) ((idxA 1 (c5) 1).bind fun c7=>(deref r4.2 (c7)).bind fun p8=>(cS p8.1 p8.2).bind fun s9=>cond (s9.toList==(bs [45]).toList) ((idxA 1 (c5) 0).bind fun c10=>(deref r4.2 (c10)).bind fun p11=>(cS p11.1 p11.2).bind fun s12=>(qdk qio [.one (Cell.str s12)] r4.2).bind fun r13=>cond (qab qsdc r13.1) ((cI .i64 (qaa r13.1 0) 0).bind fun i14=>(cI .i64 (qaa r13.1 0) 1).bind fun i15=>(cI .i64 (qaa r13.1 0) 2).bind fun i16=>(cC (qaa r13.1 0) 3).bind fun c17=>(cB (qaa r13.1 1) 0).bind fun b18=>(idxA 1 (c5) 2).bind fun c19=>(deref r13.2 (c19)).bind fun p20=>(cS p20.1 p20.2).bind fun s21=>(qdk qio [.one (Cell.str s21)] r13.2).bind fun r22=>cond (qab qsdc r22.1) ((cI .i64 (qaa r22.1 0) 0).bind fun i23=>(cI .i64 (qaa r22.1 0) 1).bind fun i24=>(cI .i64 (qaa r22.1 0) 2).bind fun i25=>(cC (qaa r22.1 0) 3).bind fun c26=>(cB (qaa r22.1 1) 0).bind fun b27=>cond b18 (some ([.one ((.vs r22.2.length 5 0 2 0)),.one (Cell.bool b27)],(r22.2++[Entry.mk 5 [[Cell.int 4,Cell.int i14,Cell.int i15,Cell.int i16,c17],[Cell.int 2,Cell.int i23,Cell.int i24,Cell.int i25,c26]] 0 false]))) (some ([.one ((.vs r22.2.length 5 0 2 0)),.one (Cell.bool false)],(r22.2++[Entry.mk 5 [[Cell.int 4,Cell.int i14,Cell.int i15,Cell.int i16,c17],[Cell.int 2,Cell.int i23,Cell.int i24,Cell.int i25,c26]] 0 false])))) none) none) ((lenC c5).bind fun n28=>qwl k m m (.lst true 5 []) (c5) (n28:Int) 0 r4.2)) ((lenC c5).bind fun n58=>qwl k m m (.lst true 5 []) (c5) (n58:Int) 0 r4.2)) none) none
abbrev qzsc (k m:Nat):TB:=evC qiqb qij (evF qiqb (k+1)) m (sub [1,1,1,1,0,1,2,3] qij.code) none
abbrev qidd (k m:Nat):TK:=qav 0 (seqK (evC qiqb qij (evF qiqb (k+1)) m (sub [1,1,1,1,1] qij.code) none) (retK qiqb qij))
abbrev qutc (k m:Nat):TB:=evC qiqb qij (evF qiqb (k+1)) m (sub [1,1,1,1,1,0,1,2,3] qij.code) none
abbrev qjfd (k m:Nat):TK:=qav 2 (seqK (evC qiqb qij (evF qiqb (k+1)) m (sub [1,1,1,1,1,1] qij.code) none) (retK qiqb qij))
theorem qmgc (k m:Nat):∀ (n:Nat) (c43 c44:Cell) (i45 i46:Int) (H47:List Entry),qbo (some [9,68,69,70]) (qutc k m) (qjfd k m) n ⟨fT 83 0 [(9,.av (.one (c43))),(68,.av (.one (c44))),(69,.av (.one (Cell.int i45))),(70,.av (.one (Cell.int i46)))],fX 83 0 [],H47⟩=qglb (k+1) m n c43 c44 i45 i46 H47:=by
 intro n
 induction n with
 | zero=>intros;rfl
 | succ n ih=>intros;simp only[qglb,← ih];kernel_rfl
theorem qhec (k m:Nat):∀ (n:Nat) (c29 c30:Cell) (i31 i32:Int) (H33:List Entry),qbo (some [9,51,52,53]) (qzsc k m) (qidd k m) n ⟨fT 83 0 [(9,.av (.one (c29))),(51,.av (.one (c30))),(52,.av (.one (Cell.int i31))),(53,.av (.one (Cell.int i32)))],fX 83 0 [],H33⟩=qwl (k+1) m n c29 c30 i31 i32 H33:=by
 intro n
 induction n with
 | zero=>intros;rfl
 | succ n ih=>intros;simp only[qwl,← qmgc k m,← ih];kernel_rfl
theorem qcsd (k m:Nat)(s1:ByteArray):evC qiqb qij (evF qiqb (k+1)) m qij.code none (retK qiqb qij) (enter qij [.one (Cell.str s1)] [])=fbk (k+1) m s1:=by
 simp only[fbk,← qhec k m]
 kernel_rfl
theorem qzx {s1:ByteArray}{r:Res}(k:Nat)(h:fbk (k+1) (k+1) s1=some r):qdjb [.one (Cell.str s1)] []=some r:=qap (k:=k+2) (Eq.trans (Eq.trans (by kernel_rfl) (qcsd k (k+1) s1)) h)
end
end Go.Ev
