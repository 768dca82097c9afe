/- What the evaluator says of the functions, each as a Lean function over cells. Printed by a program of this claim. Conditions: none. -/
import Derived.Test.YteenbnljpddleaaGreatDoorSh3
import Derived.KernelRfl
namespace Go.Ev
open Go Go.Proofs
noncomputable section
set_option maxRecDepth 100000
set_option linter.unusedVariables false
set_option linter.unusedSimpArgs false
def qwqc:List (Nat×Run):=[(qje,qdb),(qxw,qpn),(qnq,qfp)]
def quxb:Ctx:=ctx qbh qbg qwqc
def qga:Run:=lim quxb qme
theorem qygb:FnOk Tryz.prog OkT qme qga:=qaq (l:=qwqc) qac tyTab_ok qad okT (.cons qiyb (.cons qaed (.cons qwxb .nil))) qme
def qth (k m:Nat):Nat→ByteArray→Int→Option Res | 0,_,_=>none | n+1,s2,i3=>cond (decide (i3 < (s2.size:Int))) ((bytS s2 i3).bind fun i4=>(qak qpn [.one (.sc (.int .u8 i4))] []).bind fun r5=>cond (qab qqxc r5) ((cB (qaa r5 0) 0).bind fun b6=>cond (!b6) (cond (i3==0) (some ([.one (Cell.bool false)],[])) ((bytS s2 i3).bind fun i7=>(qak qfp [.one (.sc (.int .u8 i7))] []).bind fun r8=>cond (qab qieb r8) ((cB (qaa r8 0) 0).bind fun b9=>cond (!b9) ((bytS s2 i3).bind fun i10=>cond (i10 != 45) (some ([.one (Cell.bool false)],[])) (qth k m n s2 (IntKind.i64.wrap (i3+1)))) (qth k m n s2 (IntKind.i64.wrap (i3+1)))) none)) (qth k m n s2 (IntKind.i64.wrap (i3+1)))) none) ((qak qdb [.one (Cell.int (s2.size:Int)),.one (Cell.int 1),.one (Cell.int 10)] []).bind fun r11=>cond (qab qqg r11) ((cB (qaa r11 0) 0).bind fun b12=>some ([.one (Cell.bool b12)],[])) none)
def faa (k m:Nat)(s1:ByteArray):Option Res:=qth k m m s1 0
abbrev qrsc (k m:Nat):TB:=evC quxb qpb (evF quxb (k+1)) m (sub [1,0,1,2,3] qpb.code) none
abbrev qjnc (k m:Nat):TK:=qay 0 (seqK (evC quxb qpb (evF quxb (k+1)) m (sub [1,1] qpb.code) none) (retK quxb qpb))
theorem qzjb (k m:Nat):∀ (n:Nat) (s2:ByteArray) (i3:Int),qca (some [0,3]) (qrsc k m) (qjnc k m) n ⟨fT 35 0 [(0,.av (.one (Cell.str s2))),(3,.av (.one (Cell.int i3)))],fX 35 0 [],[]⟩=qth (k+1) m n s2 i3:=by
 intro n
 induction n with
 | zero=>intros;rfl
 | succ n ih=>intros;simp only[qth,← ih];kernel_rfl
theorem qljc (k m:Nat)(s1:ByteArray):evC quxb qpb (evF quxb (k+1)) m qpb.code none (retK quxb qpb) (enter qpb [.one (Cell.str s1)] [])=faa (k+1) m s1:=by
 simp only[faa,← qzjb k m]
 kernel_rfl
theorem qlib {s1:ByteArray}{r:Res}(k:Nat)(h:faa (k+1) (k+1) s1=some r):qga [.one (Cell.str s1)] []=some r:=qas (k:=k+2) (Eq.trans (Eq.trans (by kernel_rfl) (qljc k (k+1) s1)) h)
def qyjc:List (Nat×Run):=[(qtr,qkd)]
def qadc:Ctx:=ctx qbh qbg qyjc
def qra:Run:=lim qadc qcfb
theorem ok_fai:FnOk Tryz.prog OkT qcfb qra:=qaq (l:=qyjc) qac tyTab_ok qad okT (.cons qahd .nil) qcfb
def qzn (k m:Nat):Nat→ByteArray→Int→Int→Option Res | 0,_,_,_=>none | n+1,s3,i4,i5=>cond (decide (i5 < (s3.size:Int))) ((bytS s3 i5).bind fun i6=>(qak qkd [.one (.sc (.int .u8 i6))] []).bind fun r7=>cond (qab qktc r7) ((cB (qaa r7 0) 0).bind fun b8=>cond (!b8) (some ([.one (Cell.bool false)],[])) (qzn k m n s3 i4 (IntKind.i64.wrap (i5+1)))) none) (some ([.one (Cell.bool (decide ((s3.size:Int)≤i4)))],[]))
def fai (k m:Nat)(s1:ByteArray)(i2:Int):Option Res:=qzn k m m s1 i2 0
abbrev qhgc (k m:Nat):TB:=evC qadc qoc (evF qadc (k+1)) m (sub [1,0,1,2,3] qoc.code) none
abbrev qgvc (k m:Nat):TK:=qay 0 (seqK (evC qadc qoc (evF qadc (k+1)) m (sub [1,1] qoc.code) none) (retK qadc qoc))
theorem qxyb (k m:Nat):∀ (n:Nat) (s3:ByteArray) (i4 i5:Int),qca (some [0,1,5]) (qhgc k m) (qgvc k m) n ⟨fT 21 0 [(0,.av (.one (Cell.str s3))),(1,.av (.one (Cell.int i4))),(5,.av (.one (Cell.int i5)))],fX 21 0 [],[]⟩=qzn (k+1) m n s3 i4 i5:=by
 intro n
 induction n with
 | zero=>intros;rfl
 | succ n ih=>intros;simp only[qzn,← ih];kernel_rfl
theorem qmbc (k m:Nat)(s1:ByteArray)(i2:Int):evC qadc qoc (evF qadc (k+1)) m qoc.code none (retK qadc qoc) (enter qoc [.one (Cell.str s1),.one (Cell.int i2)] [])=fai (k+1) m s1 i2:=by
 simp only[fai,← qxyb k m]
 kernel_rfl
theorem qmmb {s1:ByteArray}{i2:Int}{r:Res}(k:Nat)(h:fai (k+1) (k+1) s1 i2=some r):qra [.one (Cell.str s1),.one (Cell.int i2)] []=some r:=qas (k:=k+2) (Eq.trans (Eq.trans (by kernel_rfl) (qmbc k (k+1) s1 i2)) h)
def qdid:List (Nat×Run):=[(qme,qga),(qcfb,qra),(qje,qdb)]
def qaec:Ctx:=ctx qbh qbg qdid
def qub:Run:=lim qaec qerb
theorem ok_far:FnOk Tryz.prog OkT qerb qub:=qaq (l:=qdid) qac tyTab_ok qad okT (.cons qygb (.cons ok_fai (.cons qiyb .nil))) qerb
def qbsb (k m:Nat):Nat→Cell→Int→Int→ByteArray→Cell→Option Res | 0,_,_,_,_,_=>none | n+1,c4,i5,i6,s7,c8=>cond (decide (i6 < i5)) ((idxA 1 (c4) i6).bind fun c9=>(deref [] (c9)).bind fun p10=>(cS p10.1 p10.2).bind fun s11=>(qak qra [.one (Cell.str s11),.one (Cell.int 40)] []).bind fun r12=>cond (qab qvxc r12) ((cB (qaa r12 0) 0).bind fun b13=>cond (!b13) (some ([.one (Cell.bool false)],[])) (qbsb k m n (c4) i5 (IntKind.i64.wrap (i6+1)) s7 (c8))) none) ((qak qga [.one (Cell.str s7)] []).bind fun r14=>cond (qab qnjb r14) ((cB (qaa r14 0) 0).bind fun b15=>cond b15 ((lenC c8).bind fun n16=>(qak qdb [.one (Cell.int (n16:Int)),.one (Cell.int 1),.one (Cell.int 5)] []).bind fun r17=>cond (qab qqg r17) ((cB (qaa r17 0) 0).bind fun b18=>some ([.one (Cell.bool b18)],[])) none) (some ([.one (Cell.bool false)],[]))) none)
def far (k m:Nat)(s1:ByteArray)(c2:Cell):Option Res:=(lenC c2).bind fun n3=>qbsb k m m (c2) (n3:Int) 0 s1 (c2)
abbrev qjbc (k m:Nat):TB:=evC qaec qlr (evF qaec (k+1)) m (sub [1,0,1,2,3] qlr.code) none
abbrev qfwc (k m:Nat):TK:=qay 0 (seqK (evC qaec qlr (evF qaec (k+1)) m (sub [1,1] qlr.code) none) (retK qaec qlr))
theorem qvkb (k m:Nat):∀ (n:Nat) (c4:Cell) (i5 i6:Int) (s7:ByteArray) (c8:Cell),qca (some [1,6,7,8]) (qjbc k m) (qfwc k m) n ⟨fT 25 0 [(1,.loc 1 0),(6,.av (.one (c4))),(7,.av (.one (Cell.int i5))),(8,.av (.one (Cell.int i6)))],fX 25 0 [(1,[Cell.str s7,c8])],[]⟩=qbsb (k+1) m n c4 i5 i6 s7 c8:=by
 intro n
 induction n with
 | zero=>intros;rfl
 | succ n ih=>intros;simp only[qbsb,← ih];kernel_rfl
theorem qmyc (k m:Nat)(s1:ByteArray)(c2:Cell):evC qaec qlr (evF qaec (k+1)) m qlr.code none (retK qaec qlr) (enter qlr [.agg [Cell.str s1,c2]] [])=far (k+1) m s1 c2:=by
 simp only[far,← qvkb k m]
 kernel_rfl
theorem qmib {s1:ByteArray}{c2:Cell}{r:Res}(k:Nat)(h:far (k+1) (k+1) s1 c2=some r):qub [.agg [Cell.str s1,c2]] []=some r:=qas (k:=k+2) (Eq.trans (Eq.trans (by kernel_rfl) (qmyc k (k+1) s1 c2)) h)
def qyuc:List (Nat×Run):=[(qme,qga)]
def qxfb:Ctx:=ctx qbh qbg qyuc
def qrt:Run:=lim qxfb qfdb
theorem ok_fbd:FnOk Tryz.prog OkT qfdb qrt:=qaq (l:=qyuc) qac tyTab_ok qad okT (.cons qygb .nil) qfdb
def qahb (k m:Nat):Nat→Cell→Int→Cell→Int→Int→Option Res | 0,_,_,_,_,_=>none | n+1,c4,i5,c6,i7,i8=>cond (decide (i8 < i7)) ((idxA 1 (c6) i8).bind fun c9=>(deref [] (c9)).bind fun p10=>(cS p10.1 p10.2).bind fun s11=>(qak qga [.one (Cell.str s11)] []).bind fun r12=>cond (qab qnjb r12) ((cB (qaa r12 0) 0).bind fun b13=>cond (!b13) (some ([.one (Cell.bool false)],[])) (qahb k m n (c4) i5 (c6) i7 (IntKind.i64.wrap (i8+1)))) none) ((lenC c4).bind fun n14=>some ([.one (Cell.bool (decide ((n14:Int)≤i5)))],[]))
def fbd (k m:Nat)(c1:Cell)(i2:Int):Option Res:=(lenC c1).bind fun n3=>qahb k m m (c1) i2 (c1) (n3:Int) 0
abbrev qnyc (k m:Nat):TB:=evC qxfb qlk (evF qxfb (k+1)) m (sub [1,0,1,2,3] qlk.code) none
abbrev qlhc (k m:Nat):TK:=qay 0 (seqK (evC qxfb qlk (evF qxfb (k+1)) m (sub [1,1] qlk.code) none) (retK qxfb qlk))
theorem qxgb (k m:Nat):∀ (n:Nat) (c4:Cell) (i5:Int) (c6:Cell) (i7 i8:Int),qca (some [0,1,7,8,9]) (qnyc k m) (qlhc k m) n ⟨fT 21 0 [(0,.av (.one (c4))),(1,.av (.one (Cell.int i5))),(7,.av (.one (c6))),(8,.av (.one (Cell.int i7))),(9,.av (.one (Cell.int i8)))],fX 21 0 [],[]⟩=qahb (k+1) m n c4 i5 c6 i7 i8:=by
 intro n
 induction n with
 | zero=>intros;rfl
 | succ n ih=>intros;simp only[qahb,← ih];kernel_rfl
theorem qsgc (k m:Nat)(c1:Cell)(i2:Int):evC qxfb qlk (evF qxfb (k+1)) m qlk.code none (retK qxfb qlk) (enter qlk [.one (c1),.one (Cell.int i2)] [])=fbd (k+1) m c1 i2:=by
 simp only[fbd,← qxgb k m]
 kernel_rfl
theorem qmfb {c1:Cell}{i2:Int}{r:Res}(k:Nat)(h:fbd (k+1) (k+1) c1 i2=some r):qrt [.one (c1),.one (Cell.int i2)] []=some r:=qas (k:=k+2) (Eq.trans (Eq.trans (by kernel_rfl) (qsgc k (k+1) c1 i2)) h)
def quuc:List (Nat×Run):=[]
def G_fet:Ctx:=ctx qbh qbg quuc
def qemc:Run:=lim G_fet qflb
theorem ok_fet:FnOk Tryz.prog OkT qflb qemc:=qaq (l:=quuc) qac tyTab_ok qad okT .nil qflb
def qzhc:List (Nat×Run):=[]
def G_feu:Ctx:=ctx qbh qbg qzhc
def qfac:Run:=lim G_feu qdib
theorem ok_feu:FnOk Tryz.prog OkT qdib qfac:=qaq (l:=qzhc) qac tyTab_ok qad okT .nil qdib
def qdsd:List (Nat×Run):=[(qdib,qfac)]
def G_fes:Ctx:=ctx qbh qbg qdsd
def qdwc:Run:=lim G_fes qgxb
theorem ok_fes:FnOk Tryz.prog OkT qgxb qdwc:=qaq (l:=qdsd) qac tyTab_ok qad okT (.cons ok_feu .nil) qgxb
def qdzd:List (Nat×Run):=[(qflb,qemc),(qgxb,qdwc)]
def G_feq:Ctx:=ctx qbh qbg qdzd
def qlzb:Run:=lim G_feq qcxb
theorem ok_feq:FnOk Tryz.prog OkT qcxb qlzb:=qaq (l:=qdzd) qac tyTab_ok qad okT (.cons ok_fet (.cons ok_fes .nil)) qcxb
def qdld:List (Nat×Run):=[(qcxb,qlzb),(qetc,quh),(qfbc,qya)]
def qcpc:Ctx:=ctx qbh qbg qdld
def qnr:Run:=lim qcpc qeob
theorem ok_fer:FnOk Tryz.prog OkT qeob qnr:=qaq (l:=qdld) qac tyTab_ok qad okT (.cons ok_feq (.cons ok_fej (.cons ok_fem .nil))) qeob
def qnd (k m:Nat):Nat→ByteArray→ByteArray→Int→Int→Cell→Int→List Entry→Option Res | 0,_,_,_,_,_,_,_=>none | n+1,s9,s10,i11,i12,c13,i14,H15=>cond (decide (i14 < i12)) ((qak qya [.one (Cell.str s9),.one (Cell.str s10)] H15).bind fun r16=>cond (qab qzjc r16) ((cI .i64 (qaa r16 0) 0).bind fun i17=>cond (decide (i17 < 0)) ((idxA 1 (c13) i14).bind fun c18=>(qbm H15 (c18) [Cell.str s9]).bind fun h19=>(slcC 1 (c13) 0 (some (IntKind.i64.wrap (i14+1))) none).bind fun c20=>some ([.one (c20)],h19)) ((subS s9 0 (IntKind.i64.wrap (i17+i11))).bind fun s21=>(idxA 1 (c13) i14).bind fun c22=>(qbm H15 (c22) [Cell.str s21]).bind fun h23=>(subS s9 (IntKind.i64.wrap (i17+(s10.size:Int))) (s9.size:Int)).bind fun s24=>qnd k m n s24 s10 i11 i12 (c13) (IntKind.i64.wrap (i14+1)) h23)) none) ((idxA 1 (c13) i14).bind fun c25=>(qbm H15 (c25) [Cell.str s9]).bind fun h26=>(slcC 1 (c13) 0 (some (IntKind.i64.wrap (i14+1))) none).bind fun c27=>some ([.one (c27)],h26))
def fer (k m:Nat)(s1 s2:ByteArray)(i3 i4:Int):Option Res:=cond (i4==0) (some ([.one (.lst true 1 [])],[])) (cond (s2.toList==(bs []).toList) ((callL qlzb [.one (Cell.str s1),.one (Cell.int i4)] []).bind fun r5=>cond (qab qbpd r5.1) ((cC (qaa r5.1 0) 0).bind fun c6=>some ([.one (c6)],r5.2)) none) (cond (decide (i4 < 0)) ((qak quh [.one (Cell.str s1),.one (Cell.str s2)] []).bind fun r7=>cond (qab qwpc r7) ((cI .i64 (qaa r7 0) 0).bind fun i8=>if 0≤(if (IntKind.i64.wrap ((s1.size:Int)+1)) < (IntKind.i64.wrap (i8+1)) then (IntKind.i64.wrap ((s1.size:Int)+1)) else (IntKind.i64.wrap (i8+1)))∧(if (IntKind.i64.wrap ((s1.size:Int)+1)) < (IntKind.i64.wrap (i8+1)) then (IntKind.i64.wrap ((s1.size:Int)+1)) else (IntKind.i64.wrap (i8+1)))≤(if (IntKind.i64.wrap ((s1.size:Int)+1)) < (IntKind.i64.wrap (i8+1)) then (IntKind.i64.wrap ((s1.size:Int)+1)) else (IntKind.i64.wrap (i8+1)))∧(if (IntKind.i64.wrap ((s1.size:Int)+1)) < (IntKind.i64.wrap (i8+1)) then (IntKind.i64.wrap ((s1.size:Int)+1)) else (IntKind.i64.wrap (i8+1)))*16≤bound∧(if (IntKind.i64.wrap ((s1.size:Int)+1)) < (IntKind.i64.wrap (i8+1)) then (IntKind.i64.wrap ((s1.size:Int)+1)) else (IntKind.i64.wrap (i8+1)))≤bound then (qnd k m m s1 s2 i3 (IntKind.i64.wrap ((if (IntKind.i64.wrap ((s1.size:Int)+1)) < (IntKind.i64.wrap (i8+1)) then (IntKind.i64.wrap ((s1.size:Int)+1)) else (IntKind.i64.wrap (i8+1))) - 1)) ((.vs 0 1 0 (if (IntKind.i64.wrap ((s1.size:Int)+1)) < (IntKind.i64.wrap (i8+1)) then (IntKind.i64.wrap ((s1.size:Int)+1)) else (IntKind.i64.wrap (i8+1))).toNat 0)) 0 [Entry.mk 1 (qce (if (IntKind.i64.wrap ((s1.size:Int)+1)) < (IntKind.i64.wrap (i8+1)) then (IntKind.i64.wrap ((s1.size:Int)+1)) else (IntKind.i64.wrap (i8+1))).toNat [Cell.str (bs [])]) 0 false]) else none) none) (if 0≤(if (IntKind.i64.wrap ((s1.size:Int)+1)) < i4 then (IntKind.i64.wrap ((s1.size:Int)+1)) else i4)∧(if (IntKind.i64.wrap ((s1.size:Int)+1)) < i4 then (IntKind.i64.wrap ((s1.size:Int)+1)) else i4)≤(if (IntKind.i64.wrap ((s1.size:Int)+1)) < i4 then (IntKind.i64.wrap ((s1.size:Int)+1)) else i4)∧(if (IntKind.i64.wrap ((s1.size:Int)+1)) < i4 then (IntKind.i64.wrap ((s1.size:Int)+1)) else i4)*16≤bound∧(if (IntKind.i64.wrap ((s1.size:Int)+1)) < i4 then (IntKind.i64.wrap ((s1.size:Int)+1)) else i4)≤bound then (qnd k m m s1 s2 i3 (IntKind.i64.wrap ((if (IntKind.i64.wrap ((s1.size:Int)+1)) < i4 then (IntKind.i64.wrap ((s1.size:Int)+1)) else i4) - 1)) ((.vs 0 1 0 (if (IntKind.i64.wrap ((s1.size:Int)+1)) < i4 then (IntKind.i64.wrap ((s1.size:Int)+1)) else i4).toNat 0)) 0 [Entry.mk 1 (qce (if (IntKind.i64.wrap ((s1.size:Int)+1)) < i4 then (IntKind.i64.wrap ((s1.size:Int)+1)) else i4).toNat [Cell.str (bs [])]) 0 false]) else none)))
abbrev qnfc (k m:Nat):TB:=evC qcpc qnf (evF qcpc (k+1)) m (sub [1,1,1,1,1,1,1,1,0,2,3] qnf.code) none
abbrev qnoc (k m:Nat):TK:=qay 0 (seqK (evC qcpc qnf (evF qcpc (k+1)) m (sub [1,1,1,1,1,1,1,1,1] qnf.code) none) (retK qcpc qnf))
theorem qbzc (k m:Nat):∀ (n:Nat) (s9 s10:ByteArray) (i11 i12:Int) (c13:Cell) (i14:Int) (H15:List Entry),qca (some [0,1,2,3,9,10]) (qnfc k m) (qnoc k m) n ⟨fT 66 0 [(0,.av (.one (Cell.str s9))),(1,.av (.one (Cell.str s10))),(2,.av (.one (Cell.int i11))),(3,.av (.one (Cell.int i12))),(9,.av (.one (c13))),(10,.av (.one (Cell.int i14)))],fX 66 0 [],H15⟩=qnd (k+1) m n s9 s10 i11 i12 c13 i14 H15:=by
 intro n
 induction n with
 | zero=>intros;rfl
 | succ n ih=>intros;simp only[qnd,← ih];kernel_rfl
theorem qntc (k m:Nat)(s1 s2:ByteArray)(i3 i4:Int):evC qcpc qnf (evF qcpc (k+1)) m qnf.code none (retK qcpc qnf) (enter qnf [.one (Cell.str s1),.one (Cell.str s2),.one (Cell.int i3),.one (Cell.int i4)] [])=fer (k+1) m s1 s2 i3 i4:=by
 simp only[fer,← qbzc k m]
 kernel_rfl
theorem qxj {s1 s2:ByteArray}{i3 i4:Int}{r:Res}(k:Nat)(h:fer (k+1) (k+1) s1 s2 i3 i4=some r):qnr [.one (Cell.str s1),.one (Cell.str s2),.one (Cell.int i3),.one (Cell.int i4)] []=some r:=qas (k:=k+2) (Eq.trans (Eq.trans (by kernel_rfl) (qntc k (k+1) s1 s2 i3 i4)) h)
def qbud:List (Nat×Run):=[(qeob,qnr)]
def qeyd:Ctx:=ctx qbh qbg qbud
def qex:Run:=lim qeyd qlx
theorem qsxb:FnOk Tryz.prog OkT qlx qex:=qaq (l:=qbud) qac tyTab_ok qad okT (.cons ok_fer .nil) qlx
def feo (k m:Nat)(s1 s2:ByteArray):Option Res:=(qek qnr [.one (Cell.str s1),.one (Cell.str s2),.one (Cell.int 0),.one (Cell.int (-1))] []).bind fun r3=>cond (qab qddd r3.1) ((cC (qaa r3.1 0) 0).bind fun c4=>some ([.one (c4)],r3.2)) none
theorem qiqc (k m:Nat)(s1 s2:ByteArray):evC qeyd qkvb (evF qeyd (k+1)) m qkvb.code none (retK qeyd qkvb) (enter qkvb [.one (Cell.str s1),.one (Cell.str s2)] [])=feo (k+1) m s1 s2:=by
 kernel_rfl
theorem qvp {s1 s2:ByteArray}{r:Res}(k:Nat)(h:feo (k+1) (k+1) s1 s2=some r):qex [.one (Cell.str s1),.one (Cell.str s2)] []=some r:=qas (k:=k+2) (Eq.trans (Eq.trans (by kernel_rfl) (qiqc k (k+1) s1 s2)) h)
def qxrc:List (Nat×Run):=[]
def G_fbn:Ctx:=ctx qbh qbg qxrc
def qevc:Run:=lim G_fbn qelb
theorem ok_fbn:FnOk Tryz.prog OkT qelb qevc:=qaq (l:=qxrc) qac tyTab_ok qad okT .nil qelb
def qzmc:List (Nat×Run):=[]
def G_fbp:Ctx:=ctx qbh qbg qzmc
def qfgc:Run:=lim G_fbp qgub
theorem ok_fbp:FnOk Tryz.prog OkT qgub qfgc:=qaq (l:=qzmc) qac tyTab_ok qad okT .nil qgub
def qupc:List (Nat×Run):=[(qgub,qfgc)]
def G_fbo:Ctx:=ctx qbh qbg qupc
def qekc:Run:=lim G_fbo qfab
theorem ok_fbo:FnOk Tryz.prog OkT qfab qekc:=qaq (l:=qupc) qac tyTab_ok qad okT (.cons ok_fbp .nil) qfab
def qzsc:List (Nat×Run):=[(qdzc,qrh),(qelb,qevc),(qfab,qekc)]
def qfmd:Ctx:=ctx qbh qbg qzsc
def qxi:Run:=lim qfmd qdxb
theorem ok_fbt:FnOk Tryz.prog OkT qdxb qxi:=qaq (l:=qzsc) qac tyTab_ok qad okT (.cons ok_fbu (.cons ok_fbn (.cons ok_fbo .nil))) qdxb
def fbt (k m:Nat)(s1 s2:ByteArray):Option Res:=cond ((s2.size:Int)==0) (some ([.one (Cell.int 0)],[])) (cond (s2.toList==s1.toList) (some ([.one (Cell.int 0)],[])) (cond ((s2.size:Int)==1) ((bytS s2 0).bind fun i3=>(qak qrh [.one (Cell.str s1),.one (.sc (.int .u8 i3))] []).bind fun r4=>cond (qab qxac r4) ((cI .i64 (qaa r4 0) 0).bind fun i5=>some ([.one (Cell.int i5)],[])) none) (cond (decide ((s2.size:Int)≥(s1.size:Int))) (some ([.one (Cell.int (-1))],[])) (none))))
theorem qrvc (k m:Nat)(s1 s2:ByteArray):evC qfmd qjub (evF qfmd (k+1)) m qjub.code none (retK qfmd qjub) (enter qjub [.one (Cell.str s1),.one (Cell.str s2)] [])=fbt (k+1) m s1 s2:=by
 kernel_rfl
theorem qmkb {s1 s2:ByteArray}{r:Res}(k:Nat)(h:fbt (k+1) (k+1) s1 s2=some r):qxi [.one (Cell.str s1),.one (Cell.str s2)] []=some r:=qas (k:=k+2) (Eq.trans (Eq.trans (by kernel_rfl) (qrvc k (k+1) s1 s2)) h)
def qtwc:List (Nat×Run):=[(qdxb,qxi)]
def qfgd:Ctx:=ctx qbh qbg qtwc
def qvz:Run:=lim qfgd qeqb
theorem ok_fbq:FnOk Tryz.prog OkT qeqb qvz:=qaq (l:=qtwc) qac tyTab_ok qad okT (.cons ok_fbt .nil) qeqb
def fbq (k m:Nat)(s1 s2:ByteArray):Option Res:=(qak qxi [.one (Cell.str s1),.one (Cell.str s2)] []).bind fun r3=>cond (qab qagd r3) ((cI .i64 (qaa r3 0) 0).bind fun i4=>cond (decide (i4≥0)) ((subS s1 0 i4).bind fun s5=>(subS s1 (IntKind.i64.wrap (i4+(s2.size:Int))) (s1.size:Int)).bind fun s6=>some ([.one (Cell.str s5),.one (Cell.str s6),.one (Cell.bool true)],[])) (some ([.one (Cell.str s1),.one (Cell.str (bs [])),.one (Cell.bool false)],[]))) none
theorem qrbc (k m:Nat)(s1 s2:ByteArray):evC qfgd qigb (evF qfgd (k+1)) m qigb.code none (retK qfgd qigb) (enter qigb [.one (Cell.str s1),.one (Cell.str s2)] [])=fbq (k+1) m s1 s2:=by
 kernel_rfl
theorem qmvb {s1 s2:ByteArray}{r:Res}(k:Nat)(h:fbq (k+1) (k+1) s1 s2=some r):qvz [.one (Cell.str s1),.one (Cell.str s2)] []=some r:=qas (k:=k+2) (Eq.trans (Eq.trans (by kernel_rfl) (qrbc k (k+1) s1 s2)) h)
def qbxd:List (Nat×Run):=[(qeqb,qvz)]
def qfzd:Ctx:=ctx qbh qbg qbxd
def qrj:Run:=lim qfzd qcqb
theorem ok_fek:FnOk Tryz.prog OkT qcqb qrj:=qaq (l:=qbxd) qac tyTab_ok qad okT (.cons ok_fbq .nil) qcqb
def fek (k m:Nat)(s1 s2:ByteArray):Option Res:=(qak qvz [.one (Cell.str s1),.one (Cell.str s2)] []).bind fun r3=>cond (qab quac r3) ((cS (qaa r3 0) 0).bind fun s4=>(cS (qaa r3 1) 0).bind fun s5=>(cB (qaa r3 2) 0).bind fun b6=>some ([.one (Cell.str s4),.one (Cell.str s5),.one (Cell.bool b6)],[])) none
theorem qgic (k m:Nat)(s1 s2:ByteArray):evC qfzd qhpb (evF qfzd (k+1)) m qhpb.code none (retK qfzd qhpb) (enter qhpb [.one (Cell.str s1),.one (Cell.str s2)] [])=fek (k+1) m s1 s2:=by
 kernel_rfl
theorem qpeb {s1 s2:ByteArray}{r:Res}(k:Nat)(h:fek (k+1) (k+1) s1 s2=some r):qrj [.one (Cell.str s1),.one (Cell.str s2)] []=some r:=qas (k:=k+2) (Eq.trans (Eq.trans (by kernel_rfl) (qgic k (k+1) s1 s2)) h)
def qujc:List (Nat×Run):=[(qdyc,qhfb)]
def qgld:Ctx:=ctx qbh qbg qujc
def qix:Run:=lim qgld qye
theorem qdud:FnOk Tryz.prog OkT qye qix:=qaq (l:=qujc) qac tyTab_ok qad okT (.cons ok_fei .nil) qye
def fab (k m:Nat)(i1:Int):Option Res:=(qak qhfb [.one (Cell.int (if i1 < 0 then 0 else i1))] []).bind fun r2=>cond (qab qucc r2) ((cS (qaa r2 0) 0).bind fun s3=>some ([.one (Cell.str s3)],[])) none
theorem qlic (k m:Nat)(i1:Int):evC qgld qhmb (evF qgld (k+1)) m qhmb.code none (retK qgld qhmb) (enter qhmb [.one (Cell.int i1)] [])=fab (k+1) m i1:=by
 kernel_rfl
theorem qqsb {i1:Int}{r:Res}(k:Nat)(h:fab (k+1) (k+1) i1=some r):qix [.one (Cell.int i1)] []=some r:=qas (k:=k+2) (Eq.trans (Eq.trans (by kernel_rfl) (qlic k (k+1) i1)) h)
def qdyd:List (Nat×Run):=[(qje,qdb),(qnq,qfp),(qye,qix)]
def qwdb:Ctx:=ctx qbh qbg qdyd
def qio:Run:=lim qwdb qvu
theorem qvac:FnOk Tryz.prog OkT qvu qio:=qaq (l:=qdyd) qac tyTab_ok qad okT (.cons qiyb (.cons qwxb (.cons qdud .nil))) qvu
def qafb (k m:Nat):Nat→ByteArray→Int→Int→Int→Option Res | 0,_,_,_,_=>none | n+1,s5,i6,i7,i8=>cond (decide (i8 < (s5.size:Int))) ((bytS s5 i8).bind fun i9=>(qak qfp [.one (.sc (.int .u8 i9))] []).bind fun r10=>cond (qab qieb r10) ((cB (qaa r10 0) 0).bind fun b11=>cond (!b11) (some ([.one (Cell.int 0),.one (Cell.bool false)],[])) ((bytS s5 i8).bind fun i12=>qafb k m n s5 i6 (IntKind.i64.wrap ((IntKind.i64.wrap (i7*10))+(IntKind.i64.wrap (IntKind.u8.wrap (i12 - 48))))) (IntKind.i64.wrap (i8+1)))) none) ((qak qix [.one (Cell.int i7)] []).bind fun r13=>cond (qab qnmb r13) ((cS (qaa r13 0) 0).bind fun s14=>cond (!(s14.toList==s5.toList)) (some ([.one (Cell.int 0),.one (Cell.bool false)],[])) (cond (decide (i7 > i6)) (some ([.one (Cell.int 0),.one (Cell.bool false)],[])) (some ([.one (Cell.int i7),.one (Cell.bool true)],[])))) none)
def faf (k m:Nat)(s1:ByteArray)(i2:Int):Option Res:=(qak qdb [.one (Cell.int (s1.size:Int)),.one (Cell.int 1),.one (Cell.int 7)] []).bind fun r3=>cond (qab qqg r3) ((cB (qaa r3 0) 0).bind fun b4=>cond (!b4) (some ([.one (Cell.int 0),.one (Cell.bool false)],[])) (qafb k m m s1 i2 0 0)) none
abbrev qqgc (k m:Nat):TB:=evC qwdb qnz (evF qwdb (k+1)) m (sub [1,1,1,0,1,2,3] qnz.code) none
abbrev qhnc (k m:Nat):TK:=qay 0 (seqK (evC qwdb qnz (evF qwdb (k+1)) m (sub [1,1,1,1] qnz.code) none) (retK qwdb qnz))
theorem qckc (k m:Nat):∀ (n:Nat) (s5:ByteArray) (i6 i7 i8:Int),qca (some [0,1,6,7]) (qqgc k m) (qhnc k m) n ⟨fT 41 0 [(0,.av (.one (Cell.str s5))),(1,.av (.one (Cell.int i6))),(6,.av (.one (Cell.int i7))),(7,.av (.one (Cell.int i8)))],fX 41 0 [],[]⟩=qafb (k+1) m n s5 i6 i7 i8:=by
 intro n
 induction n with
 | zero=>intros;rfl
 | succ n ih=>intros;simp only[qafb,← ih];kernel_rfl
theorem qpzc (k m:Nat)(s1:ByteArray)(i2:Int):evC qwdb qnz (evF qwdb (k+1)) m qnz.code none (retK qwdb qnz) (enter qnz [.one (Cell.str s1),.one (Cell.int i2)] [])=faf (k+1) m s1 i2:=by
 simp only[faf,← qckc k m]
 kernel_rfl
theorem qwz {s1:ByteArray}{i2:Int}{r:Res}(k:Nat)(h:faf (k+1) (k+1) s1 i2=some r):qio [.one (Cell.str s1),.one (Cell.int i2)] []=some r:=qas (k:=k+2) (Eq.trans (Eq.trans (by kernel_rfl) (qpzc k (k+1) s1 i2)) h)
def qawd:List (Nat×Run):=[(qnq,qfp)]
def qvbb:Ctx:=ctx qbh qbg qawd
def qyh:Run:=lim qvbb qefb
theorem ok_fax:FnOk Tryz.prog OkT qefb qyh:=qaq (l:=qawd) qac tyTab_ok qad okT (.cons qwxb .nil) qefb
def qzl (k m:Nat):Nat→ByteArray→Int→Option Res | 0,_,_=>none | n+1,s2,i3=>cond (decide (i3 < (s2.size:Int))) ((bytS s2 i3).bind fun i4=>(qak qfp [.one (.sc (.int .u8 i4))] []).bind fun r5=>cond (qab qieb r5) ((cB (qaa r5 0) 0).bind fun b6=>cond (!b6) (some ([.one (Cell.bool false)],[])) (qzl k m n s2 (IntKind.i64.wrap (i3+1)))) none) (some ([.one (Cell.bool (!(s2.toList==(bs []).toList)))],[]))
def fax (k m:Nat)(s1:ByteArray):Option Res:=qzl k m m s1 0
abbrev qgyc (k m:Nat):TB:=evC qvbb qmm (evF qvbb (k+1)) m (sub [1,0,1,2,3] qmm.code) none
abbrev qnkc (k m:Nat):TK:=qay 0 (seqK (evC qvbb qmm (evF qvbb (k+1)) m (sub [1,1] qmm.code) none) (retK qvbb qmm))
theorem quqb (k m:Nat):∀ (n:Nat) (s2:ByteArray) (i3:Int),qca (some [0,3]) (qgyc k m) (qnkc k m) n ⟨fT 17 0 [(0,.av (.one (Cell.str s2))),(3,.av (.one (Cell.int i3)))],fX 17 0 [],[]⟩=qzl (k+1) m n s2 i3:=by
 intro n
 induction n with
 | zero=>intros;rfl
 | succ n ih=>intros;simp only[qzl,← ih];kernel_rfl
theorem qkyc (k m:Nat)(s1:ByteArray):evC qvbb qmm (evF qvbb (k+1)) m qmm.code none (retK qvbb qmm) (enter qmm [.one (Cell.str s1)] [])=fax (k+1) m s1:=by
 simp only[fax,← quqb k m]
 kernel_rfl
theorem qpwb {s1:ByteArray}{r:Res}(k:Nat)(h:fax (k+1) (k+1) s1=some r):qyh [.one (Cell.str s1)] []=some r:=qas (k:=k+2) (Eq.trans (Eq.trans (by kernel_rfl) (qkyc k (k+1) s1)) h)
end
end Go.Ev
