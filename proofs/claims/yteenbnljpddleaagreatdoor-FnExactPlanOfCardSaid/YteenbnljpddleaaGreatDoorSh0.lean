/- What the evaluator says of the functions, each as a Lean function over cells. Printed by a program of this claim. Conditions: none. -/
import Derived.Test.YteenbnljpddleaaGreatDoorEvPr
import Derived.KernelRfl
namespace Go.Ev
open Go Go.Proofs
noncomputable section
set_option maxRecDepth 100000
set_option linter.unusedVariables false
set_option linter.unusedSimpArgs false
def qukd:List (Nat×Run):=[]
def qhwc:Ctx:=ctx qbd qbe qukd
def qfv:Run:=lim qhwc qrf
theorem qnlc:FnOk Tryz.prog OkT qrf qfv:=qan (l:=qukd) qac tyTab_ok qad okT .nil qrf
def qflb (k m:Nat):Nat→Cell→Int→Int→Option Res | 0,_,_,_=>none | n+1,c4,i5,i6=>(lenC c4).bind fun n7=>cond (decide (i6 < (n7:Int))) ((idxA 1 (c4) i6).bind fun c8=>(deref [] (c8)).bind fun p9=>(cS p9.1 p9.2).bind fun s10=>cond (decide ((IntKind.i64.wrap (i5 - (s10.size:Int))) < 0)) (some ([.one (Cell.int (-1))],[])) (qflb k m n (c4) (IntKind.i64.wrap (i5 - (s10.size:Int))) (IntKind.i64.wrap (i6+1)))) (some ([.one (Cell.int i5)],[]))
def fdl (k m:Nat)(c1:Cell)(i2:Int):Option Res:=(lenC c1).bind fun n3=>cond (decide ((IntKind.i64.wrap (i2 - (n3:Int))) < 0)) (some ([.one (Cell.int (-1))],[])) (qflb k m m (c1) (IntKind.i64.wrap (i2 - (n3:Int))) 0)
abbrev qixd (k m:Nat):TB:=evC qhwc qnz (evF qhwc (k+1)) m (sub [1,1,1,0,1,2,3] qnz.code) none
abbrev qhpd (k m:Nat):TK:=qav 0 (seqK (evC qhwc qnz (evF qhwc (k+1)) m (sub [1,1,1,1] qnz.code) none) (retK qhwc qnz))
theorem qqgc (k m:Nat):∀ (n:Nat) (c4:Cell) (i5 i6:Int),qbo (some [0,1,5]) (qixd k m) (qhpd k m) n ⟨fT 28 0 [(0,.av (.one (c4))),(1,.av (.one (Cell.int i5))),(5,.av (.one (Cell.int i6)))],fX 28 0 [],[]⟩=qflb (k+1) m n c4 i5 i6:=by
 intro n
 induction n with
 | zero=>intros;rfl
 | succ n ih=>intros;simp only[qflb,← ih];kernel_rfl
theorem qugc (k m:Nat)(c1:Cell)(i2:Int):evC qhwc qnz (evF qhwc (k+1)) m qnz.code none (retK qhwc qnz) (enter qnz [.one (c1),.one (Cell.int i2)] [])=fdl (k+1) m c1 i2:=by
 simp only[fdl,← qqgc k m]
 kernel_rfl
theorem qcnc {c1:Cell}{i2:Int}{r:Res}(k:Nat)(h:fdl (k+1) (k+1) c1 i2=some r):qfv [.one (c1),.one (Cell.int i2)] []=some r:=qap (k:=k+2) (Eq.trans (Eq.trans (by kernel_rfl) (qugc k (k+1) c1 i2)) h)
def qnid:List (Nat×Run):=[]
def qcme:Ctx:=ctx qbd qbe qnid
def qccb:Run:=lim qcme qjqb
theorem ok_fdf:FnOk Tryz.prog OkT qjqb qccb:=qan (l:=qnid) qac tyTab_ok qad okT .nil qjqb
def fdf (k m:Nat)(s1 s2:ByteArray)(i3:Int):Option Res:=cond (decide ((IntKind.i64.wrap (i3 - (s1.size:Int))) < 0)) (some ([.one (Cell.int (-1))],[])) (cond (decide ((IntKind.i64.wrap ((IntKind.i64.wrap (i3 - (s1.size:Int))) - (s2.size:Int))) < 0)) (some ([.one (Cell.int (-1))],[])) (some ([.one (Cell.int (IntKind.i64.wrap ((IntKind.i64.wrap (i3 - (s1.size:Int))) - (s2.size:Int))))],[])))
theorem qazd (k m:Nat)(s1 s2:ByteArray)(i3:Int):evC qcme qplb (evF qcme (k+1)) m qplb.code none (retK qcme qplb) (enter qplb [.agg [Cell.str s1,Cell.str s2],.one (Cell.int i3)] [])=fdf (k+1) m s1 s2 i3:=by
 kernel_rfl
theorem qtpb {s1 s2:ByteArray}{i3:Int}{r:Res}(k:Nat)(h:fdf (k+1) (k+1) s1 s2 i3=some r):qccb [.agg [Cell.str s1,Cell.str s2],.one (Cell.int i3)] []=some r:=qap (k:=k+2) (Eq.trans (Eq.trans (by kernel_rfl) (qazd k (k+1) s1 s2 i3)) h)
def qucd:List (Nat×Run):=[(qjqb,qccb)]
def qezc:Ctx:=ctx qbd qbe qucd
def qbpb:Run:=lim qezc qnib
theorem ok_fdg:FnOk Tryz.prog OkT qnib qbpb:=qan (l:=qucd) qac tyTab_ok qad okT (.cons ok_fdf .nil) qnib
def qfnb (k m:Nat):Nat→Cell→Int→Int→Option Res | 0,_,_,_=>none | n+1,c4,i5,i6=>(lenC c4).bind fun n7=>cond (decide (i6 < (n7:Int))) ((idxA 2 (c4) i6).bind fun c8=>(deref [] (c8)).bind fun p9=>(cS p9.1 p9.2).bind fun s10=>(cS p9.1 (p9.2+1)).bind fun s11=>(qar qccb [.agg [Cell.str s10,Cell.str s11],.one (Cell.int i5)] []).bind fun r12=>cond (qab qohd r12) ((cI .i64 (qaa r12 0) 0).bind fun i13=>cond (decide (i13 < 0)) (some ([.one (Cell.int (-1))],[])) (qfnb k m n (c4) i13 (IntKind.i64.wrap (i6+1)))) none) (some ([.one (Cell.int i5)],[]))
def fdg (k m:Nat)(c1:Cell)(i2:Int):Option Res:=(lenC c1).bind fun n3=>cond (decide ((IntKind.i64.wrap (i2 - (n3:Int))) < 0)) (some ([.one (Cell.int (-1))],[])) (qfnb k m m (c1) (IntKind.i64.wrap (i2 - (n3:Int))) 0)
abbrev qzec (k m:Nat):TB:=evC qezc qqn (evF qezc (k+1)) m (sub [1,1,1,0,1,2,3] qqn.code) none
abbrev qiwd (k m:Nat):TK:=qav 0 (seqK (evC qezc qqn (evF qezc (k+1)) m (sub [1,1,1,1] qqn.code) none) (retK qezc qqn))
theorem qqzc (k m:Nat):∀ (n:Nat) (c4:Cell) (i5 i6:Int),qbo (some [0,1,5]) (qzec k m) (qiwd k m) n ⟨fT 27 0 [(0,.av (.one (c4))),(1,.av (.one (Cell.int i5))),(5,.av (.one (Cell.int i6)))],fX 27 0 [],[]⟩=qfnb (k+1) m n c4 i5 i6:=by
 intro n
 induction n with
 | zero=>intros;rfl
 | succ n ih=>intros;simp only[qfnb,← ih];kernel_rfl
theorem qxhc (k m:Nat)(c1:Cell)(i2:Int):evC qezc qqn (evF qezc (k+1)) m qqn.code none (retK qezc qqn) (enter qqn [.one (c1),.one (Cell.int i2)] [])=fdg (k+1) m c1 i2:=by
 simp only[fdg,← qqzc k m]
 kernel_rfl
theorem qtnb {c1:Cell}{i2:Int}{r:Res}(k:Nat)(h:fdg (k+1) (k+1) c1 i2=some r):qbpb [.one (c1),.one (Cell.int i2)] []=some r:=qap (k:=k+2) (Eq.trans (Eq.trans (by kernel_rfl) (qxhc k (k+1) c1 i2)) h)
def qzbd:List (Nat×Run):=[(qrf,qfv)]
def qdge:Ctx:=ctx qbd qbe qzbd
def qxe:Run:=lim qdge qicb
theorem ok_fdd:FnOk Tryz.prog OkT qicb qxe:=qan (l:=qzbd) qac tyTab_ok qad okT (.cons qnlc .nil) qicb
def fdd (k m:Nat)(s1:ByteArray)(c2:Cell)(i3:Int):Option Res:=cond (decide ((IntKind.i64.wrap (i3 - (s1.size:Int))) < 0)) (some ([.one (Cell.int (-1))],[])) ((qar qfv [.one (c2),.one (Cell.int (IntKind.i64.wrap (i3 - (s1.size:Int))))] []).bind fun r4=>cond (qab qfib r4) ((cI .i64 (qaa r4 0) 0).bind fun i5=>cond (decide (i5 < 0)) (some ([.one (Cell.int (-1))],[])) (some ([.one (Cell.int i5)],[]))) none)
theorem qejd (k m:Nat)(s1:ByteArray)(c2:Cell)(i3:Int):evC qdge qqdb (evF qdge (k+1)) m qqdb.code none (retK qdge qqdb) (enter qqdb [.agg [Cell.str s1,c2],.one (Cell.int i3)] [])=fdd (k+1) m s1 c2 i3:=by
 kernel_rfl
theorem qbac {s1:ByteArray}{c2:Cell}{i3:Int}{r:Res}(k:Nat)(h:fdd (k+1) (k+1) s1 c2 i3=some r):qxe [.agg [Cell.str s1,c2],.one (Cell.int i3)] []=some r:=qap (k:=k+2) (Eq.trans (Eq.trans (by kernel_rfl) (qejd k (k+1) s1 c2 i3)) h)
def qsyd:List (Nat×Run):=[(qicb,qxe)]
def qhtc:Ctx:=ctx qbd qbe qsyd
def qyh:Run:=lim qhtc qiwb
theorem ok_fde:FnOk Tryz.prog OkT qiwb qyh:=qan (l:=qsyd) qac tyTab_ok qad okT (.cons ok_fdd .nil) qiwb
def qgqb (k m:Nat):Nat→Cell→Int→Int→Option Res | 0,_,_,_=>none | n+1,c4,i5,i6=>(lenC c4).bind fun n7=>cond (decide (i6 < (n7:Int))) ((idxA 2 (c4) i6).bind fun c8=>(deref [] (c8)).bind fun p9=>(cS p9.1 p9.2).bind fun s10=>(cC p9.1 (p9.2+1)).bind fun c11=>(qar qxe [.agg [Cell.str s10,c11],.one (Cell.int i5)] []).bind fun r12=>cond (qab qace r12) ((cI .i64 (qaa r12 0) 0).bind fun i13=>cond (decide (i13 < 0)) (some ([.one (Cell.int (-1))],[])) (qgqb k m n (c4) i13 (IntKind.i64.wrap (i6+1)))) none) (some ([.one (Cell.int i5)],[]))
def fde (k m:Nat)(c1:Cell)(i2:Int):Option Res:=(lenC c1).bind fun n3=>cond (decide ((IntKind.i64.wrap (i2 - (n3:Int))) < 0)) (some ([.one (Cell.int (-1))],[])) (qgqb k m m (c1) (IntKind.i64.wrap (i2 - (n3:Int))) 0)
abbrev qzkc (k m:Nat):TB:=evC qhtc qrj (evF qhtc (k+1)) m (sub [1,1,1,0,1,2,3] qrj.code) none
abbrev qiyd (k m:Nat):TK:=qav 0 (seqK (evC qhtc qrj (evF qhtc (k+1)) m (sub [1,1,1,1] qrj.code) none) (retK qhtc qrj))
theorem qfac (k m:Nat):∀ (n:Nat) (c4:Cell) (i5 i6:Int),qbo (some [0,1,5]) (qzkc k m) (qiyd k m) n ⟨fT 27 0 [(0,.av (.one (c4))),(1,.av (.one (Cell.int i5))),(5,.av (.one (Cell.int i6)))],fX 27 0 [],[]⟩=qgqb (k+1) m n c4 i5 i6:=by
 intro n
 induction n with
 | zero=>intros;rfl
 | succ n ih=>intros;simp only[qgqb,← ih];kernel_rfl
theorem qgtd (k m:Nat)(c1:Cell)(i2:Int):evC qhtc qrj (evF qhtc (k+1)) m qrj.code none (retK qhtc qrj) (enter qrj [.one (c1),.one (Cell.int i2)] [])=fde (k+1) m c1 i2:=by
 simp only[fde,← qfac k m]
 kernel_rfl
theorem quxb {c1:Cell}{i2:Int}{r:Res}(k:Nat)(h:fde (k+1) (k+1) c1 i2=some r):qyh [.one (c1),.one (Cell.int i2)] []=some r:=qap (k:=k+2) (Eq.trans (Eq.trans (by kernel_rfl) (qgtd k (k+1) c1 i2)) h)
def qsvd:List (Nat×Run):=[(qrf,qfv),(qnib,qbpb),(qiwb,qyh)]
def qdue:Ctx:=ctx qbd qbe qsvd
def qxu:Run:=lim qdue qkkb
theorem ok_fdh:FnOk Tryz.prog OkT qkkb qxu:=qan (l:=qsvd) qac tyTab_ok qad okT (.cons qnlc (.cons ok_fdg (.cons ok_fde .nil))) qkkb
def fdh (k m:Nat)(s1:ByteArray)(c2 c3 c4:Cell)(i5:Int):Option Res:=cond (decide ((IntKind.i64.wrap (i5 - (s1.size:Int))) < 0)) (some ([.one (Cell.int (-1))],[])) ((qar qfv [.one (c2),.one (Cell.int (IntKind.i64.wrap (i5 - (s1.size:Int))))] []).bind fun r6=>cond (qab qfib r6) ((cI .i64 (qaa r6 0) 0).bind fun i7=>cond (decide (i7 < 0)) (some ([.one (Cell.int (-1))],[])) ((qar qbpb [.one (c3),.one (Cell.int i7)] []).bind fun r8=>cond (qab qood r8) ((cI .i64 (qaa r8 0) 0).bind fun i9=>cond (decide (i9 < 0)) (some ([.one (Cell.int (-1))],[])) ((qar qyh [.one (c4),.one (Cell.int i9)] []).bind fun r10=>cond (qab qqcd r10) ((cI .i64 (qaa r10 0) 0).bind fun i11=>cond (decide (i11 < 0)) (some ([.one (Cell.int (-1))],[])) (some ([.one (Cell.int i11)],[]))) none)) none)) none)
theorem qzyc (k m:Nat)(s1:ByteArray)(c2 c3 c4:Cell)(i5:Int):evC qdue qtdb (evF qdue (k+1)) m qtdb.code none (retK qdue qtdb) (enter qtdb [.agg [Cell.str s1,c2,c3,c4],.one (Cell.int i5)] [])=fdh (k+1) m s1 c2 c3 c4 i5:=by
 kernel_rfl
theorem qbkc {s1:ByteArray}{c2 c3 c4:Cell}{i5:Int}{r:Res}(k:Nat)(h:fdh (k+1) (k+1) s1 c2 c3 c4 i5=some r):qxu [.agg [Cell.str s1,c2,c3,c4],.one (Cell.int i5)] []=some r:=qap (k:=k+2) (Eq.trans (Eq.trans (by kernel_rfl) (qzyc k (k+1) s1 c2 c3 c4 i5)) h)
def qzld:List (Nat×Run):=[(qkkb,qxu)]
def qrbc:Ctx:=ctx qbd qbe qzld
def qzy:Run:=lim qrbc qndb
theorem ok_fdi:FnOk Tryz.prog OkT qndb qzy:=qan (l:=qzld) qac tyTab_ok qad okT (.cons ok_fdh .nil) qndb
def qeob (k m:Nat):Nat→Cell→Int→Int→Option Res | 0,_,_,_=>none | n+1,c4,i5,i6=>(lenC c4).bind fun n7=>cond (decide (i6 < (n7:Int))) ((idxA 4 (c4) i6).bind fun c8=>(deref [] (c8)).bind fun p9=>(cS p9.1 p9.2).bind fun s10=>(cC p9.1 (p9.2+1)).bind fun c11=>(cC p9.1 ((p9.2+1)+1)).bind fun c12=>(cC p9.1 (((p9.2+1)+1)+1)).bind fun c13=>(qar qxu [.agg [Cell.str s10,c11,c12,c13],.one (Cell.int i5)] []).bind fun r14=>cond (qab qywd r14) ((cI .i64 (qaa r14 0) 0).bind fun i15=>cond (decide (i15 < 0)) (some ([.one (Cell.int (-1))],[])) (qeob k m n (c4) i15 (IntKind.i64.wrap (i6+1)))) none) (some ([.one (Cell.int i5)],[]))
def fdi (k m:Nat)(c1:Cell)(i2:Int):Option Res:=(lenC c1).bind fun n3=>cond (decide ((IntKind.i64.wrap (i2 - (n3:Int))) < 0)) (some ([.one (Cell.int (-1))],[])) (qeob k m m (c1) (IntKind.i64.wrap (i2 - (n3:Int))) 0)
abbrev qxnc (k m:Nat):TB:=evC qrbc qph (evF qrbc (k+1)) m (sub [1,1,1,0,1,2,3] qph.code) none
abbrev qawd (k m:Nat):TK:=qav 0 (seqK (evC qrbc qph (evF qrbc (k+1)) m (sub [1,1,1,1] qph.code) none) (retK qrbc qph))
theorem qhlc (k m:Nat):∀ (n:Nat) (c4:Cell) (i5 i6:Int),qbo (some [0,1,5]) (qxnc k m) (qawd k m) n ⟨fT 27 0 [(0,.av (.one (c4))),(1,.av (.one (Cell.int i5))),(5,.av (.one (Cell.int i6)))],fX 27 0 [],[]⟩=qeob (k+1) m n c4 i5 i6:=by
 intro n
 induction n with
 | zero=>intros;rfl
 | succ n ih=>intros;simp only[qeob,← ih];kernel_rfl
theorem qhmd (k m:Nat)(c1:Cell)(i2:Int):evC qrbc qph (evF qrbc (k+1)) m qph.code none (retK qrbc qph) (enter qph [.one (c1),.one (Cell.int i2)] [])=fdi (k+1) m c1 i2:=by
 simp only[fdi,← qhlc k m]
 kernel_rfl
theorem qyvb {c1:Cell}{i2:Int}{r:Res}(k:Nat)(h:fdi (k+1) (k+1) c1 i2=some r):qzy [.one (c1),.one (Cell.int i2)] []=some r:=qap (k:=k+2) (Eq.trans (Eq.trans (by kernel_rfl) (qhmd k (k+1) c1 i2)) h)
def qxxd:List (Nat×Run):=[(qrf,qfv)]
def qcfe:Ctx:=ctx qbd qbe qxxd
def qddb:Run:=lim qcfe qnpb
theorem ok_fdj:FnOk Tryz.prog OkT qnpb qddb:=qan (l:=qxxd) qac tyTab_ok qad okT (.cons qnlc .nil) qnpb
def fdj (k m:Nat)(s1:ByteArray)(c2 c3 c4:Cell)(b5:Bool)(i6:Int):Option Res:=cond (decide ((IntKind.i64.wrap (i6 - (s1.size:Int))) < 0)) (some ([.one (Cell.int (-1))],[])) ((qar qfv [.one (c2),.one (Cell.int (IntKind.i64.wrap (i6 - (s1.size:Int))))] []).bind fun r7=>cond (qab qfib r7) ((cI .i64 (qaa r7 0) 0).bind fun i8=>cond (decide (i8 < 0)) (some ([.one (Cell.int (-1))],[])) ((qar qfv [.one (c3),.one (Cell.int i8)] []).bind fun r9=>cond (qab qfib r9) ((cI .i64 (qaa r9 0) 0).bind fun i10=>cond (decide (i10 < 0)) (some ([.one (Cell.int (-1))],[])) ((qar qfv [.one (c4),.one (Cell.int i10)] []).bind fun r11=>cond (qab qfib r11) ((cI .i64 (qaa r11 0) 0).bind fun i12=>cond (decide (i12 < 0)) (some ([.one (Cell.int (-1))],[])) (some ([.one (Cell.int i12)],[]))) none)) none)) none)
theorem qcod (k m:Nat)(s1:ByteArray)(c2 c3 c4:Cell)(b5:Bool)(i6:Int):evC qcfe qrib (evF qcfe (k+1)) m qrib.code none (retK qcfe qrib) (enter qrib [.agg [Cell.str s1,c2,c3,c4,Cell.bool b5],.one (Cell.int i6)] [])=fdj (k+1) m s1 c2 c3 c4 b5 i6:=by
 kernel_rfl
theorem qvtb {s1:ByteArray}{c2 c3 c4:Cell}{b5:Bool}{i6:Int}{r:Res}(k:Nat)(h:fdj (k+1) (k+1) s1 c2 c3 c4 b5 i6=some r):qddb [.agg [Cell.str s1,c2,c3,c4,Cell.bool b5],.one (Cell.int i6)] []=some r:=qap (k:=k+2) (Eq.trans (Eq.trans (by kernel_rfl) (qcod k (k+1) s1 c2 c3 c4 b5 i6)) h)
def qzed:List (Nat×Run):=[(qnpb,qddb)]
def qebc:Ctx:=ctx qbd qbe qzed
def qww:Run:=lim qebc qkbb
theorem ok_fdk:FnOk Tryz.prog OkT qkbb qww:=qan (l:=qzed) qac tyTab_ok qad okT (.cons ok_fdj .nil) qkbb
def qgvb (k m:Nat):Nat→Cell→Int→Int→Option Res | 0,_,_,_=>none | n+1,c4,i5,i6=>(lenC c4).bind fun n7=>cond (decide (i6 < (n7:Int))) ((idxA 5 (c4) i6).bind fun c8=>(deref [] (c8)).bind fun p9=>(cS p9.1 p9.2).bind fun s10=>(cC p9.1 (p9.2+1)).bind fun c11=>(cC p9.1 ((p9.2+1)+1)).bind fun c12=>(cC p9.1 (((p9.2+1)+1)+1)).bind fun c13=>(cB p9.1 ((((p9.2+1)+1)+1)+1)).bind fun b14=>(qar qddb [.agg [Cell.str s10,c11,c12,c13,Cell.bool b14],.one (Cell.int i5)] []).bind fun r15=>cond (qab qwod r15) ((cI .i64 (qaa r15 0) 0).bind fun i16=>cond (decide (i16 < 0)) (some ([.one (Cell.int (-1))],[])) (qgvb k m n (c4) i16 (IntKind.i64.wrap (i6+1)))) none) (some ([.one (Cell.int i5)],[]))
def fdk (k m:Nat)(c1:Cell)(i2:Int):Option Res:=(lenC c1).bind fun n3=>cond (decide ((IntKind.i64.wrap (i2 - (n3:Int))) < 0)) (some ([.one (Cell.int (-1))],[])) (qgvb k m m (c1) (IntKind.i64.wrap (i2 - (n3:Int))) 0)
abbrev qhjd (k m:Nat):TB:=evC qebc qsc (evF qebc (k+1)) m (sub [1,1,1,0,1,2,3] qsc.code) none
abbrev qyyc (k m:Nat):TK:=qav 0 (seqK (evC qebc qsc (evF qebc (k+1)) m (sub [1,1,1,1] qsc.code) none) (retK qebc qsc))
theorem qiec (k m:Nat):∀ (n:Nat) (c4:Cell) (i5 i6:Int),qbo (some [0,1,5]) (qhjd k m) (qyyc k m) n ⟨fT 27 0 [(0,.av (.one (c4))),(1,.av (.one (Cell.int i5))),(5,.av (.one (Cell.int i6)))],fX 27 0 [],[]⟩=qgvb (k+1) m n c4 i5 i6:=by
 intro n
 induction n with
 | zero=>intros;rfl
 | succ n ih=>intros;simp only[qgvb,← ih];kernel_rfl
theorem qwac (k m:Nat)(c1:Cell)(i2:Int):evC qebc qsc (evF qebc (k+1)) m qsc.code none (retK qebc qsc) (enter qsc [.one (c1),.one (Cell.int i2)] [])=fdk (k+1) m c1 i2:=by
 simp only[fdk,← qiec k m]
 kernel_rfl
theorem qxub {c1:Cell}{i2:Int}{r:Res}(k:Nat)(h:fdk (k+1) (k+1) c1 i2=some r):qww [.one (c1),.one (Cell.int i2)] []=some r:=qap (k:=k+2) (Eq.trans (Eq.trans (by kernel_rfl) (qwac k (k+1) c1 i2)) h)
def qrqd:List (Nat×Run):=[]
def qcce:Ctx:=ctx qbd qbe qrqd
def qcb:Run:=lim qcce qfc
theorem qnp:FnOk Tryz.prog OkT qfc qcb:=qan (l:=qrqd) qac tyTab_ok qad okT .nil qfc
def ffd (k m:Nat)(i1 i2 i3:Int):Option Res:=cond (decide (i1≥i2)) (some ([.one (Cell.bool (decide (i1≤i3)))],[])) (some ([.one (Cell.bool false)],[]))
theorem qxgc (k m:Nat)(i1 i2 i3:Int):evC qcce qqvb (evF qcce (k+1)) m qqvb.code none (retK qcce qqvb) (enter qqvb [.one (Cell.int i1),.one (Cell.int i2),.one (Cell.int i3)] [])=ffd (k+1) m i1 i2 i3:=by
 kernel_rfl
theorem qzob {i1 i2 i3:Int}{r:Res}(k:Nat)(h:ffd (k+1) (k+1) i1 i2 i3=some r):qcb [.one (Cell.int i1),.one (Cell.int i2),.one (Cell.int i3)] []=some r:=qap (k:=k+2) (Eq.trans (Eq.trans (by kernel_rfl) (qxgc k (k+1) i1 i2 i3)) h)
def qwld:List (Nat×Run):=[(qfc,qcb)]
def qebe:Ctx:=ctx qbd qbe qwld
def qhg:Run:=lim qebe qoq
theorem qdac:FnOk Tryz.prog OkT qoq qhg:=qan (l:=qwld) qac tyTab_ok qad okT (.cons qnp .nil) qoq
def ffe (k m:Nat)(i1:Int):Option Res:=(qar qcb [.one (Cell.int (IntKind.i64.wrap i1)),.one (Cell.int 97),.one (Cell.int 122)] []).bind fun r2=>cond (qab qgv r2) ((cB (qaa r2 0) 0).bind fun b3=>some ([.one (Cell.bool b3)],[])) none
theorem qdtd (k m:Nat)(i1:Int):evC qebe qpmb (evF qebe (k+1)) m qpmb.code none (retK qebe qpmb) (enter qpmb [.one (.sc (.int .u8 i1))] [])=ffe (k+1) m i1:=by
 kernel_rfl
theorem qurb {i1:Int}{r:Res}(k:Nat)(h:ffe (k+1) (k+1) i1=some r):qhg [.one (.sc (.int .u8 i1))] []=some r:=qap (k:=k+2) (Eq.trans (Eq.trans (by kernel_rfl) (qdtd k (k+1) i1)) h)
def qxrd:List (Nat×Run):=[(qfc,qcb)]
def qcde:Ctx:=ctx qbd qbe qxrd
def qet:Run:=lim qcde qkx
theorem qsxb:FnOk Tryz.prog OkT qkx qet:=qan (l:=qxrd) qac tyTab_ok qad okT (.cons qnp .nil) qkx
def ffb (k m:Nat)(i1:Int):Option Res:=(qar qcb [.one (Cell.int (IntKind.i64.wrap i1)),.one (Cell.int 48),.one (Cell.int 57)] []).bind fun r2=>cond (qab qgv r2) ((cB (qaa r2 0) 0).bind fun b3=>some ([.one (Cell.bool b3)],[])) none
theorem qepd (k m:Nat)(i1:Int):evC qcde qsfb (evF qcde (k+1)) m qsfb.code none (retK qcde qsfb) (enter qsfb [.one (.sc (.int .u8 i1))] [])=ffb (k+1) m i1:=by
 kernel_rfl
theorem qzxb {i1:Int}{r:Res}(k:Nat)(h:ffb (k+1) (k+1) i1=some r):qet [.one (.sc (.int .u8 i1))] []=some r:=qap (k:=k+2) (Eq.trans (Eq.trans (by kernel_rfl) (qepd k (k+1) i1)) h)
def qmkd:List (Nat×Run):=[(qoq,qhg),(qkx,qet),(qfc,qcb)]
def qpjc:Ctx:=ctx qbd qbe qmkd
def qcv:Run:=lim qpjc qit
theorem qhtb:FnOk Tryz.prog OkT qit qcv:=qan (l:=qmkd) qac tyTab_ok qad okT (.cons qdac (.cons qsxb (.cons qnp .nil))) qit
def qwi (k m:Nat):Nat→ByteArray→Int→Option Res | 0,_,_=>none | n+1,s2,i3=>cond (decide (i3 < (s2.size:Int))) ((bytS s2 i3).bind fun i4=>(qar qhg [.one (.sc (.int .u8 i4))] []).bind fun r5=>cond (qab qvwb r5) ((cB (qaa r5 0) 0).bind fun b6=>cond (!b6) (cond (i3==0) (some ([.one (Cell.bool false)],[])) ((bytS s2 i3).bind fun i7=>(qar qet [.one (.sc (.int .u8 i7))] []).bind fun r8=>cond (qab qfyb r8) ((cB (qaa r8 0) 0).bind fun b9=>cond (!b9) ((bytS s2 i3).bind fun i10=>cond (i10 != 45) (some ([.one (Cell.bool false)],[])) (qwi k m n s2 (IntKind.i64.wrap (i3+1)))) (qwi k m n s2 (IntKind.i64.wrap (i3+1)))) none)) (qwi k m n s2 (IntKind.i64.wrap (i3+1)))) none) ((qar qcb [.one (Cell.int (s2.size:Int)),.one (Cell.int 1),.one (Cell.int 10)] []).bind fun r11=>cond (qab qgv r11) ((cB (qaa r11 0) 0).bind fun b12=>some ([.one (Cell.bool b12)],[])) none)
def fee (k m:Nat)(s1:ByteArray):Option Res:=qwi k m m s1 0
abbrev qald (k m:Nat):TB:=evC qpjc qpg (evF qpjc (k+1)) m (sub [1,0,1,2,3] qpg.code) none
abbrev qhld (k m:Nat):TK:=qav 0 (seqK (evC qpjc qpg (evF qpjc (k+1)) m (sub [1,1] qpg.code) none) (retK qpjc qpg))
theorem qdnc (k m:Nat):∀ (n:Nat) (s2:ByteArray) (i3:Int),qbo (some [0,3]) (qald k m) (qhld k m) n ⟨fT 35 0 [(0,.av (.one (Cell.str s2))),(3,.av (.one (Cell.int i3)))],fX 35 0 [],[]⟩=qwi (k+1) m n s2 i3:=by
 intro n
 induction n with
 | zero=>intros;rfl
 | succ n ih=>intros;simp only[qwi,← ih];kernel_rfl
theorem qbdd (k m:Nat)(s1:ByteArray):evC qpjc qpg (evF qpjc (k+1)) m qpg.code none (retK qpjc qpg) (enter qpg [.one (Cell.str s1)] [])=fee (k+1) m s1:=by
 simp only[fee,← qdnc k m]
 kernel_rfl
theorem qzfb {s1:ByteArray}{r:Res}(k:Nat)(h:fee (k+1) (k+1) s1=some r):qcv [.one (Cell.str s1)] []=some r:=qap (k:=k+2) (Eq.trans (Eq.trans (by kernel_rfl) (qbdd k (k+1) s1)) h)
def qtdd:List (Nat×Run):=[(qit,qcv)]
def qijc:Ctx:=ctx qbd qbe qtdd
def qsd:Run:=lim qijc qxr
theorem qqmd:FnOk Tryz.prog OkT qxr qsd:=qan (l:=qtdd) qac tyTab_ok qad okT (.cons qhtb .nil) qxr
def qejb (k m:Nat):Nat→Cell→Int→Option Res | 0,_,_=>none | n+1,c2,i3=>(lenC c2).bind fun n4=>cond (decide (i3 < (n4:Int))) ((idxA 1 (c2) i3).bind fun c5=>(deref [] (c5)).bind fun p6=>(cS p6.1 p6.2).bind fun s7=>(qar qcv [.one (Cell.str s7)] []).bind fun r8=>cond (qab qjk r8) ((cB (qaa r8 0) 0).bind fun b9=>cond (!b9) (some ([.one (Cell.bool false)],[])) (qejb k m n (c2) (IntKind.i64.wrap (i3+1)))) none) (some ([.one (Cell.bool true)],[]))
def ffy (k m:Nat)(c1:Cell):Option Res:=qejb k m m (c1) 0
abbrev qldd (k m:Nat):TB:=evC qijc qsg (evF qijc (k+1)) m (sub [1,0,1,2,3] qsg.code) none
abbrev qexd (k m:Nat):TK:=qav 0 (seqK (evC qijc qsg (evF qijc (k+1)) m (sub [1,1] qsg.code) none) (retK qijc qsg))
theorem qrdc (k m:Nat):∀ (n:Nat) (c2:Cell) (i3:Int),qbo (some [0,3]) (qldd k m) (qexd k m) n ⟨fT 16 0 [(0,.av (.one (c2))),(3,.av (.one (Cell.int i3)))],fX 16 0 [],[]⟩=qejb (k+1) m n c2 i3:=by
 intro n
 induction n with
 | zero=>intros;rfl
 | succ n ih=>intros;simp only[qejb,← ih];kernel_rfl
theorem qzwc (k m:Nat)(c1:Cell):evC qijc qsg (evF qijc (k+1)) m qsg.code none (retK qijc qsg) (enter qsg [.one (c1)] [])=ffy (k+1) m c1:=by
 simp only[ffy,← qrdc k m]
 kernel_rfl
theorem qxpb {c1:Cell}{r:Res}(k:Nat)(h:ffy (k+1) (k+1) c1=some r):qsd [.one (c1)] []=some r:=qap (k:=k+2) (Eq.trans (Eq.trans (by kernel_rfl) (qzwc k (k+1) c1)) h)
def qzsd:List (Nat×Run):=[]
def qsic:Ctx:=ctx qbd qbe qzsd
def qdob:Run:=lim qsic qleb
theorem ok_ffw:FnOk Tryz.prog OkT qleb qdob:=qan (l:=qzsd) qac tyTab_ok qad okT .nil qleb
def qzg (k m:Nat):Nat→Cell→Int→Option Res | 0,_,_=>none | n+1,c2,i3=>(lenC c2).bind fun n4=>cond (decide (i3 < (n4:Int))) ((idxA 1 (c2) (IntKind.i64.wrap (i3 - 1))).bind fun c5=>(deref [] (c5)).bind fun p6=>(cS p6.1 p6.2).bind fun s7=>(idxA 1 (c2) i3).bind fun c8=>(deref [] (c8)).bind fun p9=>(cS p9.1 p9.2).bind fun s10=>cond (!Op.bytesLess s7.toList s10.toList) (some ([.one (Cell.bool false)],[])) (qzg k m n (c2) (IntKind.i64.wrap (i3+1)))) (some ([.one (Cell.bool true)],[]))
def ffw (k m:Nat)(c1:Cell):Option Res:=qzg k m m (c1) 1
abbrev qvsc (k m:Nat):TB:=evC qsic qot (evF qsic (k+1)) m (sub [1,0,1,2,3] qot.code) none
abbrev qdad (k m:Nat):TK:=qav 0 (seqK (evC qsic qot (evF qsic (k+1)) m (sub [1,1] qot.code) none) (retK qsic qot))
theorem qilc (k m:Nat):∀ (n:Nat) (c2:Cell) (i3:Int),qbo (some [0,3]) (qvsc k m) (qdad k m) n ⟨fT 20 0 [(0,.av (.one (c2))),(3,.av (.one (Cell.int i3)))],fX 20 0 [],[]⟩=qzg (k+1) m n c2 i3:=by
 intro n
 induction n with
 | zero=>intros;rfl
 | succ n ih=>intros;simp only[qzg,← ih];kernel_rfl
theorem qgkd (k m:Nat)(c1:Cell):evC qsic qot (evF qsic (k+1)) m qot.code none (retK qsic qot) (enter qot [.one (c1)] [])=ffw (k+1) m c1:=by
 simp only[ffw,← qilc k m]
 kernel_rfl
theorem qbic {c1:Cell}{r:Res}(k:Nat)(h:ffw (k+1) (k+1) c1=some r):qdob [.one (c1)] []=some r:=qap (k:=k+2) (Eq.trans (Eq.trans (by kernel_rfl) (qgkd k (k+1) c1)) h)
def qofd:List (Nat×Run):=[]
def qftc:Ctx:=ctx qbd qbe qofd
def qco:Run:=lim qftc qkp
theorem qrub:FnOk Tryz.prog OkT qkp qco:=qan (l:=qofd) qac tyTab_ok qad okT .nil qkp
def qwc (k m:Nat):Nat→ByteArray→Int→Cell→Int→Int→List Entry→Option Res | 0,_,_,_,_,_,_=>none | n+1,s3,i4,c5,i6,i7,H8=>cond (decide (i7≤(s3.size:Int))) (cond (i7==(s3.size:Int)) ((subS s3 i6 i7).bind fun s9=>(app H8 1 16 (c5) [[Cell.str s9]]).bind fun p10=>qwc k m n s3 i4 (p10.1) (IntKind.i64.wrap (i7+1)) (IntKind.i64.wrap (i7+1)) p10.2) ((bytS s3 i7).bind fun i11=>cond (i11==i4) ((subS s3 i6 i7).bind fun s12=>(app H8 1 16 (c5) [[Cell.str s12]]).bind fun p13=>qwc k m n s3 i4 (p13.1) (IntKind.i64.wrap (i7+1)) (IntKind.i64.wrap (i7+1)) p13.2) (qwc k m n s3 i4 (c5) i6 (IntKind.i64.wrap (i7+1)) H8))) (some ([.one (c5)],H8))
def fer (k m:Nat)(s1:ByteArray)(i2:Int):Option Res:=qwc k m m s1 i2 (.lst true 1 []) 0 0 []
abbrev qvkc (k m:Nat):TB:=evC qftc qof (evF qftc (k+1)) m (sub [1,1,1,0,1,2,3] qof.code) none
abbrev qunc (k m:Nat):TK:=qav 0 (seqK (evC qftc qof (evF qftc (k+1)) m (sub [1,1,1,1] qof.code) none) (retK qftc qof))
theorem qnnc (k m:Nat):∀ (n:Nat) (s3:ByteArray) (i4:Int) (c5:Cell) (i6 i7:Int) (H8:List Entry),qbo (some [0,1,5,6,7]) (qvkc k m) (qunc k m) n ⟨fT 36 0 [(0,.av (.one (Cell.str s3))),(1,.av (.one (.sc (.int .u8 i4)))),(5,.av (.one (c5))),(6,.av (.one (Cell.int i6))),(7,.av (.one (Cell.int i7)))],fX 36 0 [],H8⟩=qwc (k+1) m n s3 i4 c5 i6 i7 H8:=by
 intro n
 induction n with
 | zero=>intros;rfl
 | succ n ih=>intros;simp only[qwc,← ih];kernel_rfl
theorem qind (k m:Nat)(s1:ByteArray)(i2:Int):evC qftc qof (evF qftc (k+1)) m qof.code none (retK qftc qof) (enter qof [.one (Cell.str s1),.one (.sc (.int .u8 i2))] [])=fer (k+1) m s1 i2:=by
 simp only[fer,← qnnc k m]
 kernel_rfl
theorem qbsc {s1:ByteArray}{i2:Int}{r:Res}(k:Nat)(h:fer (k+1) (k+1) s1 i2=some r):qco [.one (Cell.str s1),.one (.sc (.int .u8 i2))] []=some r:=qap (k:=k+2) (Eq.trans (Eq.trans (by kernel_rfl) (qind k (k+1) s1 i2)) h)
def qrwd:List (Nat×Run):=[]
def qlgc:Ctx:=ctx qbd qbe qrwd
def qdlb:Run:=lim qlgc qmeb
theorem ok_ffp:FnOk Tryz.prog OkT qmeb qdlb:=qan (l:=qrwd) qac tyTab_ok qad okT .nil qmeb
def qlo (k m:Nat):Nat→ByteArray→Cell→Int→Int→List Entry→Option Res | 0,_,_,_,_,_=>none | n+1,s2,c3,i4,i5,H6=>cond (decide ((IntKind.i64.wrap (i5+1)) < (s2.size:Int))) ((bytS s2 i5).bind fun i7=>cond (i7==124) ((bytS s2 (IntKind.i64.wrap (i5+1))).bind fun i8=>cond (i8==124) ((subS s2 i4 i5).bind fun s9=>(app H6 1 16 (c3) [[Cell.str s9]]).bind fun p10=>qlo k m n s2 (p10.1) (IntKind.i64.wrap (i5+2)) (IntKind.i64.wrap ((IntKind.i64.wrap (i5+1))+1)) p10.2) (qlo k m n s2 (c3) i4 (IntKind.i64.wrap (i5+1)) H6)) (qlo k m n s2 (c3) i4 (IntKind.i64.wrap (i5+1)) H6)) ((subS s2 i4 (s2.size:Int)).bind fun s11=>(app H6 1 16 (c3) [[Cell.str s11]]).bind fun p12=>some ([.one (p12.1)],p12.2))
def ffp (k m:Nat)(s1:ByteArray):Option Res:=qlo k m m s1 (.lst true 1 []) 0 0 []
abbrev qxic (k m:Nat):TB:=evC qlgc qny (evF qlgc (k+1)) m (sub [1,1,1,0,1,2,3] qny.code) none
abbrev qdld (k m:Nat):TK:=qav 0 (seqK (evC qlgc qny (evF qlgc (k+1)) m (sub [1,1,1,1] qny.code) none) (retK qlgc qny))
theorem qjqc (k m:Nat):∀ (n:Nat) (s2:ByteArray) (c3:Cell) (i4 i5:Int) (H6:List Entry),qbo (some [0,3,4,5]) (qxic k m) (qdld k m) n ⟨fT 42 0 [(0,.av (.one (Cell.str s2))),(3,.av (.one (c3))),(4,.av (.one (Cell.int i4))),(5,.av (.one (Cell.int i5)))],fX 42 0 [],H6⟩=qlo (k+1) m n s2 c3 i4 i5 H6:=by
 intro n
 induction n with
 | zero=>intros;rfl
 | succ n ih=>intros;simp only[qlo,← ih];kernel_rfl
theorem qulc (k m:Nat)(s1:ByteArray):evC qlgc qny (evF qlgc (k+1)) m qny.code none (retK qlgc qny) (enter qny [.one (Cell.str s1)] [])=ffp (k+1) m s1:=by
 simp only[ffp,← qjqc k m]
 kernel_rfl
theorem qaqc {s1:ByteArray}{r:Res}(k:Nat)(h:ffp (k+1) (k+1) s1=some r):qdlb [.one (Cell.str s1)] []=some r:=qap (k:=k+2) (Eq.trans (Eq.trans (by kernel_rfl) (qulc k (k+1) s1)) h)
def qtgd:List (Nat×Run):=[(qkx,qet)]
def qjhc:Ctx:=ctx qbd qbe qtgd
def qxc:Run:=lim qjhc qjgb
theorem ok_fff:FnOk Tryz.prog OkT qjgb qxc:=qan (l:=qtgd) qac tyTab_ok qad okT (.cons qsxb .nil) qjgb
def qfab (k m:Nat):Nat→ByteArray→Int→Option Res | 0,_,_=>none | n+1,s2,i3=>cond (decide (i3 < (s2.size:Int))) ((bytS s2 i3).bind fun i4=>(qar qet [.one (.sc (.int .u8 i4))] []).bind fun r5=>cond (qab qfyb r5) ((cB (qaa r5 0) 0).bind fun b6=>cond (!b6) (some ([.one (Cell.bool false)],[])) (qfab k m n s2 (IntKind.i64.wrap (i3+1)))) none) (some ([.one (Cell.bool true)],[]))
def fff (k m:Nat)(s1:ByteArray):Option Res:=qfab k m m s1 0
abbrev qwvc (k m:Nat):TB:=evC qjhc qnu (evF qjhc (k+1)) m (sub [1,0,1,2,3] qnu.code) none
abbrev qvtc (k m:Nat):TK:=qav 0 (seqK (evC qjhc qnu (evF qjhc (k+1)) m (sub [1,1] qnu.code) none) (retK qjhc qnu))
theorem qrac (k m:Nat):∀ (n:Nat) (s2:ByteArray) (i3:Int),qbo (some [0,3]) (qwvc k m) (qvtc k m) n ⟨fT 15 0 [(0,.av (.one (Cell.str s2))),(3,.av (.one (Cell.int i3)))],fX 15 0 [],[]⟩=qfab (k+1) m n s2 i3:=by
 intro n
 induction n with
 | zero=>intros;rfl
 | succ n ih=>intros;simp only[qfab,← ih];kernel_rfl
theorem qwyc (k m:Nat)(s1:ByteArray):evC qjhc qnu (evF qjhc (k+1)) m qnu.code none (retK qjhc qnu) (enter qnu [.one (Cell.str s1)] [])=fff (k+1) m s1:=by
 simp only[fff,← qrac k m]
 kernel_rfl
theorem qwnb {s1:ByteArray}{r:Res}(k:Nat)(h:fff (k+1) (k+1) s1=some r):qxc [.one (Cell.str s1)] []=some r:=qap (k:=k+2) (Eq.trans (Eq.trans (by kernel_rfl) (qwyc k (k+1) s1)) h)
def qpzd:List (Nat×Run):=[(qoq,qhg),(qkx,qet),(qfc,qcb),(qjgb,qxc)]
def qkfc:Ctx:=ctx qbd qbe qpzd
def qyw:Run:=lim qkfc qlcb
theorem ok_ffg:FnOk Tryz.prog OkT qlcb qyw:=qan (l:=qpzd) qac tyTab_ok qad okT (.cons qdac (.cons qsxb (.cons qnp (.cons ok_fff .nil)))) qlcb
def qtc (k m:Nat):Nat→ByteArray→Int→Option Res | 0,_,_=>none | n+1,s2,i3=>cond (decide (i3 < (s2.size:Int))) ((bytS s2 i3).bind fun i4=>(qar qet [.one (.sc (.int .u8 i4))] []).bind fun r5=>cond (qab qfyb r5) ((cB (qaa r5 0) 0).bind fun b6=>cond (!b6) ((bytS s2 i3).bind fun i7=>(qar qhg [.one (.sc (.int .u8 i7))] []).bind fun r8=>cond (qab qvwb r8) ((cB (qaa r8 0) 0).bind fun b9=>cond (!b9) ((bytS s2 i3).bind fun i10=>(qar qcb [.one (Cell.int (IntKind.i64.wrap i10)),.one (Cell.int 65),.one (Cell.int 90)] []).bind fun r11=>cond (qab qgv r11) ((cB (qaa r11 0) 0).bind fun b12=>cond (!b12) ((bytS s2 i3).bind fun i13=>cond (i13 != 45) (some ([.one (Cell.bool false)],[])) (qtc k m n s2 (IntKind.i64.wrap (i3+1)))) (qtc k m n s2 (IntKind.i64.wrap (i3+1)))) none) (qtc k m n s2 (IntKind.i64.wrap (i3+1)))) none) (qtc k m n s2 (IntKind.i64.wrap (i3+1)))) none) ((qar qcb [.one (Cell.int (s2.size:Int)),.one (Cell.int 1),.one (Cell.int 8)] []).bind fun r14=>cond (qab qgv r14) ((cB (qaa r14 0) 0).bind fun b15=>cond b15 ((qar qxc [.one (Cell.str s2)] []).bind fun r16=>cond (qab qsxd r16) ((cB (qaa r16 0) 0).bind fun b17=>cond (!b17) (some ([.one (Cell.bool true)],[])) (cond ((s2.size:Int)==1) (some ([.one (Cell.bool true)],[])) ((bytS s2 0).bind fun i18=>some ([.one (Cell.bool (i18 != 48))],[])))) none) (some ([.one (Cell.bool false)],[]))) none)
def ffg (k m:Nat)(s1:ByteArray):Option Res:=qtc k m m s1 0
abbrev qlad (k m:Nat):TB:=evC qkfc qrm (evF qkfc (k+1)) m (sub [1,0,1,2,3] qrm.code) none
abbrev qasd (k m:Nat):TK:=qav 0 (seqK (evC qkfc qrm (evF qkfc (k+1)) m (sub [1,1] qrm.code) none) (retK qkfc qrm))
theorem qmhc (k m:Nat):∀ (n:Nat) (s2:ByteArray) (i3:Int),qbo (some [0,3]) (qlad k m) (qasd k m) n ⟨fT 54 0 [(0,.av (.one (Cell.str s2))),(3,.av (.one (Cell.int i3)))],fX 54 0 [],[]⟩=qtc (k+1) m n s2 i3:=by
 intro n
 induction n with
 | zero=>intros;rfl
 | succ n ih=>intros;simp only[qtc,← ih];kernel_rfl
theorem qimd (k m:Nat)(s1:ByteArray):evC qkfc qrm (evF qkfc (k+1)) m qrm.code none (retK qkfc qrm) (enter qrm [.one (Cell.str s1)] [])=ffg (k+1) m s1:=by
 simp only[ffg,← qmhc k m]
 kernel_rfl
theorem qxab {s1:ByteArray}{r:Res}(k:Nat)(h:ffg (k+1) (k+1) s1=some r):qyw [.one (Cell.str s1)] []=some r:=qap (k:=k+2) (Eq.trans (Eq.trans (by kernel_rfl) (qimd k (k+1) s1)) h)
def qrjd:List (Nat×Run):=[(qfc,qcb),(qlcb,qyw)]
def qecc:Ctx:=ctx qbd qbe qrjd
def qhm:Run:=lim qecc qbhb
theorem qrpd:FnOk Tryz.prog OkT qbhb qhm:=qan (l:=qrjd) qac tyTab_ok qad okT (.cons qnp (.cons ok_ffg .nil)) qbhb
def qhgb (k m:Nat):Nat→Int→Int→Int→Int→Cell→Option Res | 0,_,_,_,_,_=>none | n+1,i5,i6,i7,i8,c9=>(lenC c9).bind fun n10=>cond (decide (i5 < (n10:Int))) ((idxA 1 (c9) i5).bind fun c11=>(deref [] (c11)).bind fun p12=>(cS p12.1 p12.2).bind fun s13=>(qar qyw [.one (Cell.str s13)] []).bind fun r14=>cond (qab qrxd r14) ((cB (qaa r14 0) 0).bind fun b15=>cond (!b15) (some ([.one (Cell.bool false)],[])) (qhgb k m n (IntKind.i64.wrap (i5+1)) i6 i7 i8 (c9))) none) ((qar qcb [.one (Cell.int i6),.one (Cell.int 0),.one (Cell.int 9999)] []).bind fun r16=>cond (qab qgv r16) ((cB (qaa r16 0) 0).bind fun b17=>cond b17 ((qar qcb [.one (Cell.int i7),.one (Cell.int 0),.one (Cell.int 9999)] []).bind fun r18=>cond (qab qgv r18) ((cB (qaa r18 0) 0).bind fun b19=>cond b19 ((qar qcb [.one (Cell.int i8),.one (Cell.int 0),.one (Cell.int 9999)] []).bind fun r20=>cond (qab qgv r20) ((cB (qaa r20 0) 0).bind fun b21=>cond b21 ((lenC c9).bind fun n22=>some ([.one (Cell.bool (decide ((n22:Int)≤3)))],[])) (some ([.one (Cell.bool false)],[]))) none) (some ([.one (Cell.bool false)],[]))) none) (some ([.one (Cell.bool false)],[]))) none)
def fet (k m:Nat)(i1 i2 i3:Int)(c4:Cell):Option Res:=qhgb k m m 0 i1 i2 i3 (c4)
abbrev quoc (k m:Nat):TB:=evC qecc qqj (evF qecc (k+1)) m (sub [1,0,1,2,3] qqj.code) none
abbrev qfhd (k m:Nat):TK:=qav 0 (seqK (evC qecc qqj (evF qecc (k+1)) m (sub [1,1] qqj.code) none) (retK qecc qqj))
theorem qmuc (k m:Nat):∀ (n:Nat) (i5 i6 i7 i8:Int) (c9:Cell),qbo (some [1,3]) (quoc k m) (qfhd k m) n ⟨fT 37 0 [(1,.loc 1 0),(3,.av (.one (Cell.int i5)))],fX 37 0 [(1,[Cell.int i6,Cell.int i7,Cell.int i8,c9])],[]⟩=qhgb (k+1) m n i5 i6 i7 i8 c9:=by
 intro n
 induction n with
 | zero=>intros;rfl
 | succ n ih=>intros;simp only[qhgb,← ih];kernel_rfl
theorem qgjd (k m:Nat)(i1 i2 i3:Int)(c4:Cell):evC qecc qqj (evF qecc (k+1)) m qqj.code none (retK qecc qqj) (enter qqj [.agg [Cell.int i1,Cell.int i2,Cell.int i3,c4]] [])=fet (k+1) m i1 i2 i3 c4:=by
 simp only[fet,← qmuc k m]
 kernel_rfl
theorem qtsb {i1 i2 i3:Int}{c4:Cell}{r:Res}(k:Nat)(h:fet (k+1) (k+1) i1 i2 i3 c4=some r):qhm [.agg [Cell.int i1,Cell.int i2,Cell.int i3,c4]] []=some r:=qap (k:=k+2) (Eq.trans (Eq.trans (by kernel_rfl) (qgjd k (k+1) i1 i2 i3 c4)) h)
def qsjd:List (Nat×Run):=[(qkx,qet),(qfc,qcb)]
def qjmc:Ctx:=ctx qbd qbe qsjd
def qdj:Run:=lim qjmc qbib
theorem qyad:FnOk Tryz.prog OkT qbib qdj:=qan (l:=qsjd) qac tyTab_ok qad okT (.cons qsxb (.cons qnp .nil)) qbib
def qibb (k m:Nat):Nat→ByteArray→Int→Int→Int→Option Res | 0,_,_,_,_=>none | n+1,s3,i4,i5,i6=>cond (decide (i6 < (s3.size:Int))) (cond (decide (i6 < 8)) ((bytS s3 i6).bind fun i7=>(qar qet [.one (.sc (.int .u8 i7))] []).bind fun r8=>cond (qab qfyb r8) ((cB (qaa r8 0) 0).bind fun b9=>cond (!b9) (some ([.one (Cell.int 0),.one (Cell.bool false)],[])) ((bytS s3 i6).bind fun i10=>qibb k m n s3 i4 (IntKind.i64.wrap ((IntKind.i64.wrap (i5*10))+(IntKind.i64.wrap (IntKind.u8.wrap (i10 - 48))))) (IntKind.i64.wrap (i6+1)))) none) ((qar qcb [.one (Cell.int (s3.size:Int)),.one (Cell.int 1),.one (Cell.int 7)] []).bind fun r11=>cond (qab qgv r11) ((cB (qaa r11 0) 0).bind fun b12=>cond (!b12) (some ([.one (Cell.int 0),.one (Cell.bool false)],[])) (cond (decide ((s3.size:Int) > 1)) ((bytS s3 0).bind fun i13=>cond (i13==48) (some ([.one (Cell.int 0),.one (Cell.bool false)],[])) (cond (decide (i5 > i4)) (some ([.one (Cell.int 0),.one (Cell.bool false)],[])) (some ([.one (Cell.int i5),.one (Cell.bool true)],[])))) (cond (decide (i5 > i4)) (some ([.one (Cell.int 0),.one (Cell.bool false)],[])) (some ([.one (Cell.int i5),.one (Cell.bool true)],[]))))) none)) ((qar qcb [.one (Cell.int (s3.size:Int)),.one (Cell.int 1),.one (Cell.int 7)] []).bind fun r14=>cond (qab qgv r14) ((cB (qaa r14 0) 0).bind fun b15=>cond (!b15) (some ([.one (Cell.int 0),.one (Cell.bool false)],[])) (cond (decide ((s3.size:Int) > 1)) ((bytS s3 0).bind fun i16=>cond (i16==48) (some ([.one (Cell.int 0),.one (Cell.bool false)],[])) (cond (decide (i5 > i4)) (some ([.one (Cell.int 0),.one (Cell.bool false)],[])) (some ([.one (Cell.int i5),.one (Cell.bool true)],[])))) (cond (decide (i5 > i4)) (some ([.one (Cell.int 0),.one (Cell.bool false)],[])) (some ([.one (Cell.int i5),.one (Cell.bool true)],[]))))) none)
def fei (k m:Nat)(s1:ByteArray)(i2:Int):Option Res:=qibb k m m s1 i2 0 0
abbrev qccd (k m:Nat):TB:=evC qjmc qrn (evF qjmc (k+1)) m (sub [1,1,0,1,2,3] qrn.code) none
abbrev qwtc (k m:Nat):TK:=qav 0 (seqK (evC qjmc qrn (evF qjmc (k+1)) m (sub [1,1,1] qrn.code) none) (retK qjmc qrn))
theorem qhdc (k m:Nat):∀ (n:Nat) (s3:ByteArray) (i4 i5 i6:Int),qbo (some [0,1,6,7]) (qccd k m) (qwtc k m) n ⟨fT 51 0 [(0,.av (.one (Cell.str s3))),(1,.av (.one (Cell.int i4))),(6,.av (.one (Cell.int i5))),(7,.av (.one (Cell.int i6)))],fX 51 0 [],[]⟩=qibb (k+1) m n s3 i4 i5 i6:=by
 intro n
 induction n with
 | zero=>intros;rfl
 | succ n ih=>intros;simp only[qibb,← ih];kernel_rfl
theorem qcbd (k m:Nat)(s1:ByteArray)(i2:Int):evC qjmc qrn (evF qjmc (k+1)) m qrn.code none (retK qjmc qrn) (enter qrn [.one (Cell.str s1),.one (Cell.int i2)] [])=fei (k+1) m s1 i2:=by
 simp only[fei,← qhdc k m]
 kernel_rfl
theorem qzwb {s1:ByteArray}{i2:Int}{r:Res}(k:Nat)(h:fei (k+1) (k+1) s1 i2=some r):qdj [.one (Cell.str s1),.one (Cell.int i2)] []=some r:=qap (k:=k+2) (Eq.trans (Eq.trans (by kernel_rfl) (qcbd k (k+1) s1 i2)) h)
end
end Go.Ev
