/- What the evaluator says of the functions, each as a Lean function over cells. Printed by a program of this claim. Conditions: none. -/
import Derived.Test.YteenbnljpddleaaGreatDoorSh3
import Derived.KernelRfl
namespace Go.Ev
open Go Go.Proofs
noncomputable section
set_option maxRecDepth 100000
set_option linter.unusedVariables false
set_option linter.unusedSimpArgs false
def qxgd:List (Nat×Run):=[(qkub,qyo)]
def qkuc:Ctx:=ctx qbd qbe qxgd
def qmf:Run:=lim qkuc qmwb
theorem ok_fdt:FnOk Tryz.prog OkT qmwb qmf:=qan (l:=qxgd) qac tyTab_ok qad okT (.cons ok_fds .nil) qmwb
def qetb (k m:Nat):Nat→Cell→Cell→Int→List Entry→Option Res | 0,_,_,_,_=>none | n+1,c3,c4,i5,H6=>(lenC c3).bind fun n7=>cond (decide (i5 < (n7:Int))) ((idxA 5 (c3) i5).bind fun c8=>(deref H6 (c8)).bind fun p9=>(cS p9.1 p9.2).bind fun s10=>(cC p9.1 (p9.2+1)).bind fun c11=>(cC p9.1 ((p9.2+1)+1)).bind fun c12=>(cC p9.1 (((p9.2+1)+1)+1)).bind fun c13=>(cB p9.1 ((((p9.2+1)+1)+1)+1)).bind fun b14=>(qdk qyo [.agg [Cell.str s10,c11,c12,c13,Cell.bool b14]] H6).bind fun r15=>cond (qab qzad r15.1) ((cS (qaa r15.1 0) 0).bind fun s16=>(cC (qaa r15.1 0) 1).bind fun c17=>(cC (qaa r15.1 0) 2).bind fun c18=>(cC (qaa r15.1 0) 3).bind fun c19=>(cB (qaa r15.1 0) 4).bind fun b20=>(idxA 5 (c4) i5).bind fun c21=>(qca r15.2 (c21) [Cell.str s16,c17,c18,c19,Cell.bool b20]).bind fun h22=>qetb k m n (c3) (c4) (IntKind.i64.wrap (i5+1)) h22) none) (some ([.one (c4)],H6))
def fdt (k m:Nat)(c1:Cell):Option Res:=(lenC c1).bind fun n2=>if 0≤(n2:Int)∧(n2:Int)≤(n2:Int)∧(n2:Int)*96≤bound∧(n2:Int)≤bound then (qetb k m m (c1) ((.vs 0 5 0 (n2:Int).toNat 0)) 0 [Entry.mk 5 (qcr (n2:Int).toNat [Cell.str (bs []),.lst true 1 [],.lst true 1 [],.lst true 1 [],Cell.bool false]) 0 false]) else none
abbrev qend (k m:Nat):TB:=evC qkuc qso (evF qkuc (k+1)) m (sub [1,1,0,1,2,3] qso.code) none
abbrev qjkd (k m:Nat):TK:=qav 0 (seqK (evC qkuc qso (evF qkuc (k+1)) m (sub [1,1,1] qso.code) none) (retK qkuc qso))
theorem qjkc (k m:Nat):∀ (n:Nat) (c3 c4:Cell) (i5:Int) (H6:List Entry),qbo (some [0,3,4]) (qend k m) (qjkd k m) n ⟨fT 23 0 [(0,.av (.one (c3))),(3,.av (.one (c4))),(4,.av (.one (Cell.int i5)))],fX 23 0 [],H6⟩=qetb (k+1) m n c3 c4 i5 H6:=by
 intro n
 induction n with
 | zero=>intros;rfl
 | succ n ih=>intros;simp only[qetb,← ih];kernel_rfl
theorem qagd (k m:Nat)(c1:Cell):evC qkuc qso (evF qkuc (k+1)) m qso.code none (retK qkuc qso) (enter qso [.one (c1)] [])=fdt (k+1) m c1:=by
 simp only[fdt,← qjkc k m]
 kernel_rfl
theorem qzhb {c1:Cell}{r:Res}(k:Nat)(h:fdt (k+1) (k+1) c1=some r):qmf [.one (c1)] []=some r:=qap (k:=k+2) (Eq.trans (Eq.trans (by kernel_rfl) (qagd k (k+1) c1)) h)
def qmzd:List (Nat×Run):=[]
def qbwe:Ctx:=ctx qbd qbe qmzd
def qdb:Run:=lim qbwe qiu
theorem qhqb:FnOk Tryz.prog OkT qiu qdb:=qan (l:=qmzd) qac tyTab_ok qad okT .nil qiu
def fbc (k m:Nat)(i1 i2 i3:Int):Option Res:=cond (decide (i1≥i2)) (some ([.one (Cell.bool (decide (i1≤i3)))],[])) (some ([.one (Cell.bool false)],[]))
theorem qzjc (k m:Nat)(i1 i2 i3:Int):evC qbwe qpbb (evF qbwe (k+1)) m qpbb.code none (retK qbwe qpbb) (enter qpbb [.one (Cell.int i1),.one (Cell.int i2),.one (Cell.int i3)] [])=fbc (k+1) m i1 i2 i3:=by
 kernel_rfl
theorem qbrc {i1 i2 i3:Int}{r:Res}(k:Nat)(h:fbc (k+1) (k+1) i1 i2 i3=some r):qdb [.one (Cell.int i1),.one (Cell.int i2),.one (Cell.int i3)] []=some r:=qap (k:=k+2) (Eq.trans (Eq.trans (by kernel_rfl) (qzjc k (k+1) i1 i2 i3)) h)
def qqpd:List (Nat×Run):=[]
def qcse:Ctx:=ctx qbd qbe qqpd
def qgs:Run:=lim qcse qrt
theorem qfic:FnOk Tryz.prog OkT qrt qgs:=qan (l:=qqpd) qac tyTab_ok qad okT .nil qrt
def fbi (k m:Nat)(i1:Int):Option Res:=cond (decide (i1≥97)) (some ([.one (Cell.bool (decide (i1≤122)))],[])) (some ([.one (Cell.bool false)],[]))
theorem qygc (k m:Nat)(i1:Int):evC qcse qpsb (evF qcse (k+1)) m qpsb.code none (retK qcse qpsb) (enter qpsb [.one (.sc (.int .u8 i1))] [])=fbi (k+1) m i1:=by
 kernel_rfl
theorem qvkb {i1:Int}{r:Res}(k:Nat)(h:fbi (k+1) (k+1) i1=some r):qgs [.one (.sc (.int .u8 i1))] []=some r:=qap (k:=k+2) (Eq.trans (Eq.trans (by kernel_rfl) (qygc k (k+1) i1)) h)
def qsbd:List (Nat×Run):=[]
def qdae:Ctx:=ctx qbd qbe qsbd
def qeg:Run:=lim qdae qks
theorem qskb:FnOk Tryz.prog OkT qks qeg:=qan (l:=qsbd) qac tyTab_ok qad okT .nil qks
def fbe (k m:Nat)(i1:Int):Option Res:=cond (decide (i1≥48)) (some ([.one (Cell.bool (decide (i1≤57)))],[])) (some ([.one (Cell.bool false)],[]))
theorem qhvd (k m:Nat)(i1:Int):evC qdae qprb (evF qdae (k+1)) m qprb.code none (retK qdae qprb) (enter qprb [.one (.sc (.int .u8 i1))] [])=fbe (k+1) m i1:=by
 kernel_rfl
theorem qzbb {i1:Int}{r:Res}(k:Nat)(h:fbe (k+1) (k+1) i1=some r):qeg [.one (.sc (.int .u8 i1))] []=some r:=qap (k:=k+2) (Eq.trans (Eq.trans (by kernel_rfl) (qhvd k (k+1) i1)) h)
def qqsd:List (Nat×Run):=[(qiu,qdb),(qrt,qgs),(qks,qeg)]
def qdfc:Ctx:=ctx qbd qbe qqsd
def qdl:Run:=lim qdfc qiz
theorem qhzb:FnOk Tryz.prog OkT qiz qdl:=qan (l:=qqsd) qac tyTab_ok qad okT (.cons qhqb (.cons qfic (.cons qskb .nil))) qiz
def qwn (k m:Nat):Nat→ByteArray→Int→Option Res | 0,_,_=>none | n+1,s2,i3=>cond (decide (i3 < (s2.size:Int))) ((bytS s2 i3).bind fun i4=>(qar qgs [.one (.sc (.int .u8 i4))] []).bind fun r5=>cond (qab qsib r5) ((cB (qaa r5 0) 0).bind fun b6=>cond (!b6) (cond (i3==0) (some ([.one (Cell.bool false)],[])) ((bytS s2 i3).bind fun i7=>(qar qeg [.one (.sc (.int .u8 i7))] []).bind fun r8=>cond (qab qvo r8) ((cB (qaa r8 0) 0).bind fun b9=>cond (!b9) ((bytS s2 i3).bind fun i10=>cond (i10 != 45) (some ([.one (Cell.bool false)],[])) (qwn k m n s2 (IntKind.i64.wrap (i3+1)))) (qwn k m n s2 (IntKind.i64.wrap (i3+1)))) none)) (qwn k m n s2 (IntKind.i64.wrap (i3+1)))) none) ((qar qdb [.one (Cell.int (s2.size:Int)),.one (Cell.int 1),.one (Cell.int 10)] []).bind fun r11=>cond (qab qlw r11) ((cB (qaa r11 0) 0).bind fun b12=>some ([.one (Cell.bool b12)],[])) none)
def fad (k m:Nat)(s1:ByteArray):Option Res:=qwn k m m s1 0
abbrev qzcc (k m:Nat):TB:=evC qdfc qoe (evF qdfc (k+1)) m (sub [1,0,1,2,3] qoe.code) none
abbrev qkhd (k m:Nat):TK:=qav 0 (seqK (evC qdfc qoe (evF qdfc (k+1)) m (sub [1,1] qoe.code) none) (retK qdfc qoe))
theorem qkmc (k m:Nat):∀ (n:Nat) (s2:ByteArray) (i3:Int),qbo (some [0,3]) (qzcc k m) (qkhd k m) n ⟨fT 35 0 [(0,.av (.one (Cell.str s2))),(3,.av (.one (Cell.int i3)))],fX 35 0 [],[]⟩=qwn (k+1) m n s2 i3:=by
 intro n
 induction n with
 | zero=>intros;rfl
 | succ n ih=>intros;simp only[qwn,← ih];kernel_rfl
theorem qhqd (k m:Nat)(s1:ByteArray):evC qdfc qoe (evF qdfc (k+1)) m qoe.code none (retK qdfc qoe) (enter qoe [.one (Cell.str s1)] [])=fad (k+1) m s1:=by
 simp only[fad,← qkmc k m]
 kernel_rfl
theorem qbcc {s1:ByteArray}{r:Res}(k:Nat)(h:fad (k+1) (k+1) s1=some r):qdl [.one (Cell.str s1)] []=some r:=qap (k:=k+2) (Eq.trans (Eq.trans (by kernel_rfl) (qhqd k (k+1) s1)) h)
def qyvd:List (Nat×Run):=[]
def qcve:Ctx:=ctx qbd qbe qyvd
def qdqb:Run:=lim qcve qoqb
theorem ok_fbh:FnOk Tryz.prog OkT qoqb qdqb:=qan (l:=qyvd) qac tyTab_ok qad okT .nil qoqb
def fbh (k m:Nat)(i1:Int):Option Res:=cond (decide (i1≥32)) (some ([.one (Cell.bool (decide (i1≤126)))],[])) (some ([.one (Cell.bool false)],[]))
theorem qild (k m:Nat)(i1:Int):evC qcve qsyb (evF qcve (k+1)) m qsyb.code none (retK qcve qsyb) (enter qsyb [.one (.sc (.int .u8 i1))] [])=fbh (k+1) m i1:=by
 kernel_rfl
theorem quyb {i1:Int}{r:Res}(k:Nat)(h:fbh (k+1) (k+1) i1=some r):qdqb [.one (.sc (.int .u8 i1))] []=some r:=qap (k:=k+2) (Eq.trans (Eq.trans (by kernel_rfl) (qild k (k+1) i1)) h)
def qave:List (Nat×Run):=[(qoqb,qdqb)]
def qrwc:Ctx:=ctx qbd qbe qave
def qtx:Run:=lim qrwc qiib
theorem ok_fam:FnOk Tryz.prog OkT qiib qtx:=qan (l:=qave) qac tyTab_ok qad okT (.cons ok_fbh .nil) qiib
def qesb (k m:Nat):Nat→ByteArray→Int→Int→Option Res | 0,_,_,_=>none | n+1,s3,i4,i5=>cond (decide (i5 < (s3.size:Int))) ((bytS s3 i5).bind fun i6=>(qar qdqb [.one (.sc (.int .u8 i6))] []).bind fun r7=>cond (qab qxwd r7) ((cB (qaa r7 0) 0).bind fun b8=>cond (!b8) (some ([.one (Cell.bool false)],[])) (qesb k m n s3 i4 (IntKind.i64.wrap (i5+1)))) none) (some ([.one (Cell.bool (decide ((s3.size:Int)≤i4)))],[]))
def fam (k m:Nat)(s1:ByteArray)(i2:Int):Option Res:=qesb k m m s1 i2 0
abbrev qlod (k m:Nat):TB:=evC qrwc qom (evF qrwc (k+1)) m (sub [1,0,1,2,3] qom.code) none
abbrev qvvc (k m:Nat):TK:=qav 0 (seqK (evC qrwc qom (evF qrwc (k+1)) m (sub [1,1] qom.code) none) (retK qrwc qom))
theorem qsgc (k m:Nat):∀ (n:Nat) (s3:ByteArray) (i4 i5:Int),qbo (some [0,1,5]) (qlod k m) (qvvc k m) n ⟨fT 21 0 [(0,.av (.one (Cell.str s3))),(1,.av (.one (Cell.int i4))),(5,.av (.one (Cell.int i5)))],fX 21 0 [],[]⟩=qesb (k+1) m n s3 i4 i5:=by
 intro n
 induction n with
 | zero=>intros;rfl
 | succ n ih=>intros;simp only[qesb,← ih];kernel_rfl
theorem qded (k m:Nat)(s1:ByteArray)(i2:Int):evC qrwc qom (evF qrwc (k+1)) m qom.code none (retK qrwc qom) (enter qom [.one (Cell.str s1),.one (Cell.int i2)] [])=fam (k+1) m s1 i2:=by
 simp only[fam,← qsgc k m]
 kernel_rfl
theorem qvpb {s1:ByteArray}{i2:Int}{r:Res}(k:Nat)(h:fam (k+1) (k+1) s1 i2=some r):qtx [.one (Cell.str s1),.one (Cell.int i2)] []=some r:=qap (k:=k+2) (Eq.trans (Eq.trans (by kernel_rfl) (qded k (k+1) s1 i2)) h)
def qqqd:List (Nat×Run):=[(qiz,qdl),(qiib,qtx),(qiu,qdb)]
def qqec:Ctx:=ctx qbd qbe qqqd
def qcob:Run:=lim qqec qnbb
theorem ok_fay:FnOk Tryz.prog OkT qnbb qcob:=qan (l:=qqqd) qac tyTab_ok qad okT (.cons qhzb (.cons ok_fam (.cons qhqb .nil))) qnbb
def qgob (k m:Nat):Nat→Cell→Int→Int→ByteArray→Cell→Option Res | 0,_,_,_,_,_=>none | n+1,c4,i5,i6,s7,c8=>cond (decide (i6 < i5)) ((idxA 1 (c4) i6).bind fun c9=>(deref [] (c9)).bind fun p10=>(cS p10.1 p10.2).bind fun s11=>(qar qtx [.one (Cell.str s11),.one (Cell.int 40)] []).bind fun r12=>cond (qab qydd r12) ((cB (qaa r12 0) 0).bind fun b13=>cond (!b13) (some ([.one (Cell.bool false)],[])) (qgob k m n (c4) i5 (IntKind.i64.wrap (i6+1)) s7 (c8))) none) ((qar qdl [.one (Cell.str s7)] []).bind fun r14=>cond (qab qqs r14) ((cB (qaa r14 0) 0).bind fun b15=>cond b15 ((lenC c8).bind fun n16=>(qar qdb [.one (Cell.int (n16:Int)),.one (Cell.int 1),.one (Cell.int 5)] []).bind fun r17=>cond (qab qlw r17) ((cB (qaa r17 0) 0).bind fun b18=>some ([.one (Cell.bool b18)],[])) none) (some ([.one (Cell.bool false)],[]))) none)
def fay (k m:Nat)(s1:ByteArray)(c2:Cell):Option Res:=(lenC c2).bind fun n3=>qgob k m m (c2) (n3:Int) 0 s1 (c2)
abbrev qfcd (k m:Nat):TB:=evC qqec qol (evF qqec (k+1)) m (sub [1,0,1,2,3] qol.code) none
abbrev qdud (k m:Nat):TK:=qav 0 (seqK (evC qqec qol (evF qqec (k+1)) m (sub [1,1] qol.code) none) (retK qqec qol))
theorem qgzc (k m:Nat):∀ (n:Nat) (c4:Cell) (i5 i6:Int) (s7:ByteArray) (c8:Cell),qbo (some [1,6,7,8]) (qfcd k m) (qdud k m) n ⟨fT 25 0 [(1,.loc 1 0),(6,.av (.one (c4))),(7,.av (.one (Cell.int i5))),(8,.av (.one (Cell.int i6)))],fX 25 0 [(1,[Cell.str s7,c8])],[]⟩=qgob (k+1) m n c4 i5 i6 s7 c8:=by
 intro n
 induction n with
 | zero=>intros;rfl
 | succ n ih=>intros;simp only[qgob,← ih];kernel_rfl
theorem qlhd (k m:Nat)(s1:ByteArray)(c2:Cell):evC qqec qol (evF qqec (k+1)) m qol.code none (retK qqec qol) (enter qol [.agg [Cell.str s1,c2]] [])=fay (k+1) m s1 c2:=by
 simp only[fay,← qgzc k m]
 kernel_rfl
theorem qwbb {s1:ByteArray}{c2:Cell}{r:Res}(k:Nat)(h:fay (k+1) (k+1) s1 c2=some r):qcob [.agg [Cell.str s1,c2]] []=some r:=qap (k:=k+2) (Eq.trans (Eq.trans (by kernel_rfl) (qlhd k (k+1) s1 c2)) h)
def qpqd:List (Nat×Run):=[(qiz,qdl)]
def qmcc:Ctx:=ctx qbd qbe qpqd
def qky:Run:=lim qmcc qbjb
theorem qzzd:FnOk Tryz.prog OkT qbjb qky:=qan (l:=qpqd) qac tyTab_ok qad okT (.cons qhzb .nil) qbjb
def qhcb (k m:Nat):Nat→Cell→Int→Cell→Int→Int→Option Res | 0,_,_,_,_,_=>none | n+1,c4,i5,c6,i7,i8=>cond (decide (i8 < i7)) ((idxA 1 (c6) i8).bind fun c9=>(deref [] (c9)).bind fun p10=>(cS p10.1 p10.2).bind fun s11=>(qar qdl [.one (Cell.str s11)] []).bind fun r12=>cond (qab qqs r12) ((cB (qaa r12 0) 0).bind fun b13=>cond (!b13) (some ([.one (Cell.bool false)],[])) (qhcb k m n (c4) i5 (c6) i7 (IntKind.i64.wrap (i8+1)))) none) ((lenC c4).bind fun n14=>some ([.one (Cell.bool (decide ((n14:Int)≤i5)))],[]))
def fbl (k m:Nat)(c1:Cell)(i2:Int):Option Res:=(lenC c1).bind fun n3=>qhcb k m m (c1) i2 (c1) (n3:Int) 0
abbrev qjmd (k m:Nat):TB:=evC qmcc qqo (evF qmcc (k+1)) m (sub [1,0,1,2,3] qqo.code) none
abbrev qvxc (k m:Nat):TK:=qav 0 (seqK (evC qmcc qqo (evF qmcc (k+1)) m (sub [1,1] qqo.code) none) (retK qmcc qqo))
theorem qddc (k m:Nat):∀ (n:Nat) (c4:Cell) (i5:Int) (c6:Cell) (i7 i8:Int),qbo (some [0,1,7,8,9]) (qjmd k m) (qvxc k m) n ⟨fT 21 0 [(0,.av (.one (c4))),(1,.av (.one (Cell.int i5))),(7,.av (.one (c6))),(8,.av (.one (Cell.int i7))),(9,.av (.one (Cell.int i8)))],fX 21 0 [],[]⟩=qhcb (k+1) m n c4 i5 c6 i7 i8:=by
 intro n
 induction n with
 | zero=>intros;rfl
 | succ n ih=>intros;simp only[qhcb,← ih];kernel_rfl
theorem qjqd (k m:Nat)(c1:Cell)(i2:Int):evC qmcc qqo (evF qmcc (k+1)) m qqo.code none (retK qmcc qqo) (enter qqo [.one (c1),.one (Cell.int i2)] [])=fbl (k+1) m c1 i2:=by
 simp only[fbl,← qddc k m]
 kernel_rfl
theorem qxib {c1:Cell}{i2:Int}{r:Res}(k:Nat)(h:fbl (k+1) (k+1) c1 i2=some r):qky [.one (c1),.one (Cell.int i2)] []=some r:=qap (k:=k+2) (Eq.trans (Eq.trans (by kernel_rfl) (qjqd k (k+1) c1 i2)) h)
def qvnd:List (Nat×Run):=[]
def qokc:Ctx:=ctx qbd qbe qvnd
def qcqb:Run:=lim qokc qjnb
theorem ok_fbd:FnOk Tryz.prog OkT qjnb qcqb:=qan (l:=qvnd) qac tyTab_ok qad okT .nil qjnb
def qarb (k m:Nat):Nat→Cell→Int→Option Res | 0,_,_=>none | n+1,c2,i3=>(lenC c2).bind fun n4=>cond (decide (i3 < (n4:Int))) ((idxA 1 (c2) i3).bind fun c5=>(deref [] (c5)).bind fun p6=>(cS p6.1 p6.2).bind fun s7=>(idxA 1 (c2) (IntKind.i64.wrap (i3 - 1))).bind fun c8=>(deref [] (c8)).bind fun p9=>(cS p9.1 p9.2).bind fun s10=>cond (Op.bytesLess s7.toList s10.toList||s7.toList==s10.toList) (some ([.one (Cell.bool false)],[])) (qarb k m n (c2) (IntKind.i64.wrap (i3+1)))) (some ([.one (Cell.bool true)],[]))
def fbd (k m:Nat)(c1:Cell):Option Res:=qarb k m m (c1) 1
abbrev qgod (k m:Nat):TB:=evC qokc qpq (evF qokc (k+1)) m (sub [1,0,1,2,3] qpq.code) none
abbrev qezd (k m:Nat):TK:=qav 0 (seqK (evC qokc qpq (evF qokc (k+1)) m (sub [1,1] qpq.code) none) (retK qokc qpq))
theorem qkzc (k m:Nat):∀ (n:Nat) (c2:Cell) (i3:Int),qbo (some [0,3]) (qgod k m) (qezd k m) n ⟨fT 20 0 [(0,.av (.one (c2))),(3,.av (.one (Cell.int i3)))],fX 20 0 [],[]⟩=qarb (k+1) m n c2 i3:=by
 intro n
 induction n with
 | zero=>intros;rfl
 | succ n ih=>intros;simp only[qarb,← ih];kernel_rfl
theorem qjhd (k m:Nat)(c1:Cell):evC qokc qpq (evF qokc (k+1)) m qpq.code none (retK qokc qpq) (enter qpq [.one (c1)] [])=fbd (k+1) m c1:=by
 simp only[fbd,← qkzc k m]
 kernel_rfl
theorem qynb {c1:Cell}{r:Res}(k:Nat)(h:fbd (k+1) (k+1) c1=some r):qcqb [.one (c1)] []=some r:=qap (k:=k+2) (Eq.trans (Eq.trans (by kernel_rfl) (qjhd k (k+1) c1)) h)
def qxsd:List (Nat×Run):=[]
def G_fgo:Ctx:=ctx qbd qbe qxsd
def qtkc:Run:=lim G_fgo qidb
theorem ok_fgo:FnOk Tryz.prog OkT qidb qtkc:=qan (l:=qxsd) qac tyTab_ok qad okT .nil qidb
def qxad:List (Nat×Run):=[]
def G_fgp:Ctx:=ctx qbd qbe qxad
def qtnc:Run:=lim G_fgp qmgb
theorem ok_fgp:FnOk Tryz.prog OkT qmgb qtnc:=qan (l:=qxad) qac tyTab_ok qad okT .nil qmgb
def qrud:List (Nat×Run):=[(qmgb,qtnc)]
def G_fgn:Ctx:=ctx qbd qbe qrud
def qtxc:Run:=lim G_fgn qlgb
theorem ok_fgn:FnOk Tryz.prog OkT qlgb qtxc:=qan (l:=qrud) qac tyTab_ok qad okT (.cons ok_fgp .nil) qlgb
def qurd:List (Nat×Run):=[(qidb,qtkc),(qlgb,qtxc)]
def G_fgl:Ctx:=ctx qbd qbe qurd
def qytb:Run:=lim G_fgl qomb
theorem ok_fgl:FnOk Tryz.prog OkT qomb qytb:=qan (l:=qurd) qac tyTab_ok qad okT (.cons ok_fgo (.cons ok_fgn .nil)) qomb
def qwtd:List (Nat×Run):=[(qomb,qytb),(qsxc,qbmb),(qswc,qbkb)]
def qfgc:Ctx:=ctx qbd qbe qwtd
def qru:Run:=lim qfgc qjlb
theorem ok_fgm:FnOk Tryz.prog OkT qjlb qru:=qan (l:=qwtd) qac tyTab_ok qad okT (.cons ok_fgl (.cons ok_fgc (.cons ok_fgg .nil))) qjlb
def qsa (k m:Nat):Nat→ByteArray→ByteArray→Int→Int→Cell→Int→List Entry→Option Res | 0,_,_,_,_,_,_,_=>none | n+1,s9,s10,i11,i12,c13,i14,H15=>cond (decide (i14 < i12)) ((qar qbkb [.one (Cell.str s9),.one (Cell.str s10)] H15).bind fun r16=>cond (qab qwnd r16) ((cI .i64 (qaa r16 0) 0).bind fun i17=>cond (decide (i17 < 0)) ((idxA 1 (c13) i14).bind fun c18=>(qca H15 (c18) [Cell.str s9]).bind fun h19=>(slcC 1 (c13) 0 (some (IntKind.i64.wrap (i14+1))) none).bind fun c20=>some ([.one (c20)],h19)) ((subS s9 0 (IntKind.i64.wrap (i17+i11))).bind fun s21=>(idxA 1 (c13) i14).bind fun c22=>(qca H15 (c22) [Cell.str s21]).bind fun h23=>(subS s9 (IntKind.i64.wrap (i17+(s10.size:Int))) (s9.size:Int)).bind fun s24=>qsa k m n s24 s10 i11 i12 (c13) (IntKind.i64.wrap (i14+1)) h23)) none) ((idxA 1 (c13) i14).bind fun c25=>(qca H15 (c25) [Cell.str s9]).bind fun h26=>(slcC 1 (c13) 0 (some (IntKind.i64.wrap (i14+1))) none).bind fun c27=>some ([.one (c27)],h26))
def fgm (k m:Nat)(s1 s2:ByteArray)(i3 i4:Int):Option Res:=cond (i4==0) (some ([.one (.lst true 1 [])],[])) (cond (s2.toList==(bs []).toList) ((callL qytb [.one (Cell.str s1),.one (Cell.int i4)] []).bind fun r5=>cond (qab qyqd r5.1) ((cC (qaa r5.1 0) 0).bind fun c6=>some ([.one (c6)],r5.2)) none) (cond (decide (i4 < 0)) ((qar qbmb [.one (Cell.str s1),.one (Cell.str s2)] []).bind fun r7=>cond (qab qame r7) ((cI .i64 (qaa r7 0) 0).bind fun i8=>if 0≤(if (IntKind.i64.wrap ((s1.size:Int)+1)) < (IntKind.i64.wrap (i8+1)) then (IntKind.i64.wrap ((s1.size:Int)+1)) else (IntKind.i64.wrap (i8+1)))∧(if (IntKind.i64.wrap ((s1.size:Int)+1)) < (IntKind.i64.wrap (i8+1)) then (IntKind.i64.wrap ((s1.size:Int)+1)) else (IntKind.i64.wrap (i8+1)))≤(if (IntKind.i64.wrap ((s1.size:Int)+1)) < (IntKind.i64.wrap (i8+1)) then (IntKind.i64.wrap ((s1.size:Int)+1)) else (IntKind.i64.wrap (i8+1)))∧(if (IntKind.i64.wrap ((s1.size:Int)+1)) < (IntKind.i64.wrap (i8+1)) then (IntKind.i64.wrap ((s1.size:Int)+1)) else (IntKind.i64.wrap (i8+1)))*16≤bound∧(if (IntKind.i64.wrap ((s1.size:Int)+1)) < (IntKind.i64.wrap (i8+1)) then (IntKind.i64.wrap ((s1.size:Int)+1)) else (IntKind.i64.wrap (i8+1)))≤bound then (qsa k m m s1 s2 i3 (IntKind.i64.wrap ((if (IntKind.i64.wrap ((s1.size:Int)+1)) < (IntKind.i64.wrap (i8+1)) then (IntKind.i64.wrap ((s1.size:Int)+1)) else (IntKind.i64.wrap (i8+1))) - 1)) ((.vs 0 1 0 (if (IntKind.i64.wrap ((s1.size:Int)+1)) < (IntKind.i64.wrap (i8+1)) then (IntKind.i64.wrap ((s1.size:Int)+1)) else (IntKind.i64.wrap (i8+1))).toNat 0)) 0 [Entry.mk 1 (qcr (if (IntKind.i64.wrap ((s1.size:Int)+1)) < (IntKind.i64.wrap (i8+1)) then (IntKind.i64.wrap ((s1.size:Int)+1)) else (IntKind.i64.wrap (i8+1))).toNat [Cell.str (bs [])]) 0 false]) else none) none) (if 0≤(if (IntKind.i64.wrap ((s1.size:Int)+1)) < i4 then (IntKind.i64.wrap ((s1.size:Int)+1)) else i4)∧(if (IntKind.i64.wrap ((s1.size:Int)+1)) < i4 then (IntKind.i64.wrap ((s1.size:Int)+1)) else i4)≤(if (IntKind.i64.wrap ((s1.size:Int)+1)) < i4 then (IntKind.i64.wrap ((s1.size:Int)+1)) else i4)∧(if (IntKind.i64.wrap ((s1.size:Int)+1)) < i4 then (IntKind.i64.wrap ((s1.size:Int)+1)) else i4)*16≤bound∧(if (IntKind.i64.wrap ((s1.size:Int)+1)) < i4 then (IntKind.i64.wrap ((s1.size:Int)+1)) else i4)≤bound then (qsa k m m s1 s2 i3 (IntKind.i64.wrap ((if (IntKind.i64.wrap ((s1.size:Int)+1)) < i4 then (IntKind.i64.wrap ((s1.size:Int)+1)) else i4) - 1)) ((.vs 0 1 0 (if (IntKind.i64.wrap ((s1.size:Int)+1)) < i4 then (IntKind.i64.wrap ((s1.size:Int)+1)) else i4).toNat 0)) 0 [Entry.mk 1 (qcr (if (IntKind.i64.wrap ((s1.size:Int)+1)) < i4 then (IntKind.i64.wrap ((s1.size:Int)+1)) else i4).toNat [Cell.str (bs [])]) 0 false]) else none)))
abbrev qegd (k m:Nat):TB:=evC qfgc qrg (evF qfgc (k+1)) m (sub [1,1,1,1,1,1,1,1,0,2,3] qrg.code) none
abbrev qfmd (k m:Nat):TK:=qav 0 (seqK (evC qfgc qrg (evF qfgc (k+1)) m (sub [1,1,1,1,1,1,1,1,1] qrg.code) none) (retK qfgc qrg))
theorem qqyc (k m:Nat):∀ (n:Nat) (s9 s10:ByteArray) (i11 i12:Int) (c13:Cell) (i14:Int) (H15:List Entry),qbo (some [0,1,2,3,9,10]) (qegd k m) (qfmd k m) n ⟨fT 66 0 [(0,.av (.one (Cell.str s9))),(1,.av (.one (Cell.str s10))),(2,.av (.one (Cell.int i11))),(3,.av (.one (Cell.int i12))),(9,.av (.one (c13))),(10,.av (.one (Cell.int i14)))],fX 66 0 [],H15⟩=qsa (k+1) m n s9 s10 i11 i12 c13 i14 H15:=by
 intro n
 induction n with
 | zero=>intros;rfl
 | succ n ih=>intros;simp only[qsa,← ih];kernel_rfl
theorem qbmd (k m:Nat)(s1 s2:ByteArray)(i3 i4:Int):evC qfgc qrg (evF qfgc (k+1)) m qrg.code none (retK qfgc qrg) (enter qrg [.one (Cell.str s1),.one (Cell.str s2),.one (Cell.int i3),.one (Cell.int i4)] [])=fgm (k+1) m s1 s2 i3 i4:=by
 simp only[fgm,← qqyc k m]
 kernel_rfl
theorem qcub {s1 s2:ByteArray}{i3 i4:Int}{r:Res}(k:Nat)(h:fgm (k+1) (k+1) s1 s2 i3 i4=some r):qru [.one (Cell.str s1),.one (Cell.str s2),.one (Cell.int i3),.one (Cell.int i4)] []=some r:=qap (k:=k+2) (Eq.trans (Eq.trans (by kernel_rfl) (qbmd k (k+1) s1 s2 i3 i4)) h)
def qvqd:List (Nat×Run):=[(qjlb,qru)]
def qbce:Ctx:=ctx qbd qbe qvqd
def qew:Run:=lim qbce qmm
theorem qwlb:FnOk Tryz.prog OkT qmm qew:=qan (l:=qvqd) qac tyTab_ok qad okT (.cons ok_fgm .nil) qmm
def fgi (k m:Nat)(s1 s2:ByteArray):Option Res:=(qdk qru [.one (Cell.str s1),.one (Cell.str s2),.one (Cell.int 0),.one (Cell.int (-1))] []).bind fun r3=>cond (qab qtyd r3.1) ((cC (qaa r3.1 0) 0).bind fun c4=>some ([.one (c4)],r3.2)) none
theorem qbbd (k m:Nat)(s1 s2:ByteArray):evC qbce qqeb (evF qbce (k+1)) m qqeb.code none (retK qbce qqeb) (enter qqeb [.one (Cell.str s1),.one (Cell.str s2)] [])=fgi (k+1) m s1 s2:=by
 kernel_rfl
theorem qbnb {s1 s2:ByteArray}{r:Res}(k:Nat)(h:fgi (k+1) (k+1) s1 s2=some r):qew [.one (Cell.str s1),.one (Cell.str s2)] []=some r:=qap (k:=k+2) (Eq.trans (Eq.trans (by kernel_rfl) (qbbd k (k+1) s1 s2)) h)
def qtld:List (Nat×Run):=[]
def G_fbx:Ctx:=ctx qbd qbe qtld
def qtrc:Run:=lim G_fbx qkjb
theorem ok_fbx:FnOk Tryz.prog OkT qkjb qtrc:=qan (l:=qtld) qac tyTab_ok qad okT .nil qkjb
def qtmd:List (Nat×Run):=[]
def G_fbz:Ctx:=ctx qbd qbe qtmd
def qstc:Run:=lim G_fbz qojb
theorem ok_fbz:FnOk Tryz.prog OkT qojb qstc:=qan (l:=qtmd) qac tyTab_ok qad okT .nil qojb
def qrld:List (Nat×Run):=[(qojb,qstc)]
def G_fby:Ctx:=ctx qbd qbe qrld
def qthc:Run:=lim G_fby qmib
theorem ok_fby:FnOk Tryz.prog OkT qmib qthc:=qan (l:=qrld) qac tyTab_ok qad okT (.cons ok_fbz .nil) qmib
def qssd:List (Nat×Run):=[(qtac,qut),(qkjb,qtrc),(qmib,qthc)]
def qbke:Ctx:=ctx qbd qbe qssd
def qcnb:Run:=lim qbke qjab
theorem ok_fcd:FnOk Tryz.prog OkT qjab qcnb:=qan (l:=qssd) qac tyTab_ok qad okT (.cons ok_fce (.cons ok_fbx (.cons ok_fby .nil))) qjab
def fcd (k m:Nat)(s1 s2:ByteArray):Option Res:=cond ((s2.size:Int)==0) (some ([.one (Cell.int 0)],[])) (cond (s2.toList==s1.toList) (some ([.one (Cell.int 0)],[])) (cond ((s2.size:Int)==1) ((bytS s2 0).bind fun i3=>(qar qut [.one (Cell.str s1),.one (.sc (.int .u8 i3))] []).bind fun r4=>cond (qab qvmd r4) ((cI .i64 (qaa r4 0) 0).bind fun i5=>some ([.one (Cell.int i5)],[])) none) (cond (decide ((s2.size:Int)≥(s1.size:Int))) (some ([.one (Cell.int (-1))],[])) (none))))
theorem qiid (k m:Nat)(s1 s2:ByteArray):evC qbke qpyb (evF qbke (k+1)) m qpyb.code none (retK qbke qpyb) (enter qpyb [.one (Cell.str s1),.one (Cell.str s2)] [])=fcd (k+1) m s1 s2:=by
 kernel_rfl
theorem qybb {s1 s2:ByteArray}{r:Res}(k:Nat)(h:fcd (k+1) (k+1) s1 s2=some r):qcnb [.one (Cell.str s1),.one (Cell.str s2)] []=some r:=qap (k:=k+2) (Eq.trans (Eq.trans (by kernel_rfl) (qiid k (k+1) s1 s2)) h)
def qugd:List (Nat×Run):=[(qjab,qcnb)]
def qdye:Ctx:=ctx qbd qbe qugd
def qwz:Run:=lim qdye qjmb
theorem ok_fca:FnOk Tryz.prog OkT qjmb qwz:=qan (l:=qugd) qac tyTab_ok qad okT (.cons ok_fcd .nil) qjmb
def fca (k m:Nat)(s1 s2:ByteArray):Option Res:=(qar qcnb [.one (Cell.str s1),.one (Cell.str s2)] []).bind fun r3=>cond (qab qppd r3) ((cI .i64 (qaa r3 0) 0).bind fun i4=>cond (decide (i4≥0)) ((subS s1 0 i4).bind fun s5=>(subS s1 (IntKind.i64.wrap (i4+(s2.size:Int))) (s1.size:Int)).bind fun s6=>some ([.one (Cell.str s5),.one (Cell.str s6),.one (Cell.bool true)],[])) (some ([.one (Cell.str s1),.one (Cell.str (bs [])),.one (Cell.bool false)],[]))) none
theorem qxxc (k m:Nat)(s1 s2:ByteArray):evC qdye qpzb (evF qdye (k+1)) m qpzb.code none (retK qdye qpzb) (enter qpzb [.one (Cell.str s1),.one (Cell.str s2)] [])=fca (k+1) m s1 s2:=by
 kernel_rfl
theorem qwmb {s1 s2:ByteArray}{r:Res}(k:Nat)(h:fca (k+1) (k+1) s1 s2=some r):qwz [.one (Cell.str s1),.one (Cell.str s2)] []=some r:=qap (k:=k+2) (Eq.trans (Eq.trans (by kernel_rfl) (qxxc k (k+1) s1 s2)) h)
end
end Go.Ev
