/- What the evaluator says of the functions, each as a Lean function over cells. Printed by a program of this claim. Conditions: none. -/
import Derived.Test.YteofbfalngmmeaaGreatDoorEvPr
import Derived.KernelRfl
namespace Go.Ev
open Go Go.Proofs
noncomputable section
set_option maxRecDepth 100000
set_option linter.unusedVariables false
set_option linter.unusedSimpArgs false
def qocc:List (Nat×Run):=[]
def qvzc:Ctx:=ctx qbg qbh qocc
def qsm:Run:=lim qvzc qcxb
theorem ok_fbo:FnOk Tryz.prog OkT qcxb qsm:=qan (l:=qocc) qad tyTab_ok qae okT .nil qcxb
def fbo (k m:Nat)(c1:Cell):Option Res:=(lenC c1).bind fun n2=>some ([.one (Cell.bool (decide ((n2:Int) > 1048576)))],[])
theorem qchc (k m:Nat)(c1:Cell):evC qvzc qejb (evF qvzc (k+1)) m qejb.code none (retK qvzc qejb) (enter qejb [.one (c1)] [])=fbo (k+1) m c1:=by
 kernel_rfl
theorem qkbb {c1:Cell}{r:Res}(k:Nat)(h:fbo (k+1) (k+1) c1=some r):qsm [.one (c1)] []=some r:=qap (k:=k+2) (Eq.trans (Eq.trans (by kernel_rfl) (qchc k (k+1) c1)) h)
def qpkc:List (Nat×Run):=[]
def qnob:Ctx:=ctx qbg qbh qpkc
def qfn:Run:=lim qnob qmq
theorem qxib:FnOk Tryz.prog OkT qmq qfn:=qan (l:=qpkc) qad tyTab_ok qae okT .nil qmq
def qwj (k m:Nat):Nat→Cell→Int→Int→List Entry→Option Res | 0,_,_,_,_=>none | n+1,c3,i4,i5,H6=>(lenC c3).bind fun n7=>cond (decide (i5 < (n7:Int))) (cond (decide (i5 < 4000)) ((idxA 1 (c3) i5).bind fun c8=>(deref H6 (c8)).bind fun p9=>(cI .u8 p9.1 p9.2).bind fun i10=>qwj k m n (c3) (andI .i64 (IntKind.i64.wrap ((IntKind.i64.wrap ((IntKind.i64.wrap (i4*137))+(IntKind.i64.wrap i10)))+11)) 1073741823) (IntKind.i64.wrap (i5+1)) H6) (some ([.one (.ptr H6.length 3 0 0 0)],(H6++[Entry.mk 3 [[c3,Cell.int 0,Cell.int i4]] 0 false])))) (some ([.one (.ptr H6.length 3 0 0 0)],(H6++[Entry.mk 3 [[c3,Cell.int 0,Cell.int i4]] 0 false])))
def fcm (k m:Nat)(c1:Cell)(H:List Entry):Option Res:=(lenC c1).bind fun n2=>qwj k m m (c1) (IntKind.i64.wrap (778778+(n2:Int))) 0 H
abbrev qfgc (k m:Nat):TB:=evC qnob qkj (evF qnob (k+1)) m (sub [1,1,0,1,2,3] qkj.code) none
abbrev qhfc (k m:Nat):TK:=qav 0 (seqK (evC qnob qkj (evF qnob (k+1)) m (sub [1,1,1] qkj.code) none) (retK qnob qkj))
theorem qxcb (k m:Nat):∀ (n:Nat) (c3:Cell) (i4 i5:Int) (H6:List Entry),qbo (some [0,3,4]) (qfgc k m) (qhfc k m) n ⟨fT 32 0 [(0,.av (.one (c3))),(3,.av (.one (Cell.int i4))),(4,.av (.one (Cell.int i5)))],fX 32 0 [],H6⟩=qwj (k+1) m n c3 i4 i5 H6:=by
 intro n
 induction n with
 | zero=>intros;rfl
 | succ n ih=>intros;simp only[qwj,← ih];kernel_rfl
theorem qhbc (k m:Nat)(c1:Cell)(H:List Entry):evC qnob qkj (evF qnob (k+1)) m qkj.code none (retK qnob qkj) (enter qkj [.one (c1)] H)=fcm (k+1) m c1 H:=by
 simp only[fcm,← qxcb k m]
 kernel_rfl
theorem qgvb {c1:Cell}{H:List Entry}{r:Res}(k:Nat)(h:fcm (k+1) (k+1) c1 H=some r):qfn [.one (c1)] H=some r:=qap (k:=k+2) (Eq.trans (Eq.trans (by kernel_rfl) (qhbc k (k+1) c1 H)) h)
def qpjc:List (Nat×Run):=[]
def qwrc:Ctx:=ctx qbg qbh qpjc
def qiy:Run:=lim qwrc qcfb
theorem ok_fci:FnOk Tryz.prog OkT qcfb qiy:=qan (l:=qpjc) qad tyTab_ok qae okT .nil qcfb
def fci (k m:Nat)(c1:Cell)(H:List Entry):Option Res:=(ptrC c1).bind fun c2=>(fldA c2 2).bind fun c3=>(deref H (c3)).bind fun p4=>(cI .i64 p4.1 p4.2).bind fun i5=>(ptrC c1).bind fun c6=>(fldA c6 2).bind fun c7=>(qbt H (c7) [Cell.int (IntKind.i64.wrap ((IntKind.i64.wrap (i5*6364136223846793005))+1442695040888963407))]).bind fun h8=>(ptrC c1).bind fun c9=>(fldA c9 2).bind fun c10=>(deref h8 (c10)).bind fun p11=>(cI .i64 p11.1 p11.2).bind fun i12=>(ptrC c1).bind fun c13=>(fldA c13 2).bind fun c14=>(deref h8 (c14)).bind fun p15=>(cI .i64 p15.1 p15.2).bind fun i16=>(ptrC c1).bind fun c17=>(fldA c17 1).bind fun c18=>(deref h8 (c18)).bind fun p19=>(cI .i64 p19.1 p19.2).bind fun i20=>(ptrC c1).bind fun c21=>(fldA c21 0).bind fun c22=>(deref h8 (c22)).bind fun p23=>(cC p23.1 p23.2).bind fun c24=>(lenC c24).bind fun n25=>cond (decide (i20 < (n25:Int))) ((ptrC c1).bind fun c26=>(fldA c26 0).bind fun c27=>(deref h8 (c27)).bind fun p28=>(cC p28.1 p28.2).bind fun c29=>(ptrC c1).bind fun c30=>(fldA c30 1).bind fun c31=>(deref h8 (c31)).bind fun p32=>(cI .i64 p32.1 p32.2).bind fun i33=>(idxA 1 (c29) i33).bind fun c34=>(deref h8 (c34)).bind fun p35=>(cI .u8 p35.1 p35.2).bind fun i36=>(ptrC c1).bind fun c37=>(fldA c37 1).bind fun c38=>(deref h8 (c38)).bind fun p39=>(cI .i64 p39.1 p39.2).bind fun i40=>(ptrC c1).bind fun c41=>(fldA c41 1).bind fun c42=>(qbt h8 (c42) [Cell.int (IntKind.i64.wrap (i40+1))]).bind fun h43=>some ([.one (Cell.int (andI .i64 (IntKind.i64.wrap ((andI .i64 (xorI .i64 (shrI .i64 i12 33) (shrI .i64 i16 47)) 255)+(IntKind.i64.wrap i36))) 255))],h43)) (some ([.one (Cell.int (andI .i64 (xorI .i64 (shrI .i64 i12 33) (shrI .i64 i16 47)) 255))],h8))
theorem qjwc (k m:Nat)(c1:Cell)(H:List Entry):evC qwrc qdgb (evF qwrc (k+1)) m qdgb.code none (retK qwrc qdgb) (enter qdgb [.one (c1)] H)=fci (k+1) m c1 H:=by
 kernel_rfl
theorem qrv {c1:Cell}{H:List Entry}{r:Res}(k:Nat)(h:fci (k+1) (k+1) c1 H=some r):qiy [.one (c1)] H=some r:=qap (k:=k+2) (Eq.trans (Eq.trans (by kernel_rfl) (qjwc k (k+1) c1 H)) h)
def qlwc:List (Nat×Run):=[(qcfb,qiy)]
def qvlc:Ctx:=ctx qbg qbh qlwc
def qce:Run:=lim qvlc qff
theorem qvc:FnOk Tryz.prog OkT qff qce:=qan (l:=qlwc) qad tyTab_ok qae okT (.cons ok_fci .nil) qff
def fch (k m:Nat)(c1:Cell)(i2:Int)(H:List Entry):Option Res:=cond (decide (i2≤0)) (some ([.one (Cell.int 0)],H)) (cond (decide (i2≤256)) ((qiy [.one (c1)] H).bind fun r3=>cond (qab qlkb r3.1) ((cI .i64 (qaa r3.1 0) 0).bind fun i4=>if i2=0 then none else some ([.one (Cell.int (i4.tmod i2))],r3.2)) none) ((qiy [.one (c1)] H).bind fun r5=>cond (qab qlkb r5.1) ((cI .i64 (qaa r5.1 0) 0).bind fun i6=>(qiy [.one (c1)] r5.2).bind fun r7=>cond (qab qlkb r7.1) ((cI .i64 (qaa r7.1 0) 0).bind fun i8=>(qiy [.one (c1)] r7.2).bind fun r9=>cond (qab qlkb r9.1) ((cI .i64 (qaa r9.1 0) 0).bind fun i10=>if i2=0 then none else some ([.one (Cell.int ((IntKind.i64.wrap ((IntKind.i64.wrap ((IntKind.i64.wrap (i6*65536))+(IntKind.i64.wrap (i8*256))))+i10)).tmod i2))],r9.2)) none) none) none))
theorem qhpc (k m:Nat)(c1:Cell)(i2:Int)(H:List Entry):evC qvlc qdib (evF qvlc (k+1)) m qdib.code none (retK qvlc qdib) (enter qdib [.one (c1),.one (Cell.int i2)] H)=fch (k+1) m c1 i2 H:=by
 kernel_rfl
theorem qsl {c1:Cell}{i2:Int}{H:List Entry}{r:Res}(k:Nat)(h:fch (k+1) (k+1) c1 i2 H=some r):qce [.one (c1),.one (Cell.int i2)] H=some r:=qap (k:=k+2) (Eq.trans (Eq.trans (by kernel_rfl) (qhpc k (k+1) c1 i2 H)) h)
def qldc:List (Nat×Run):=[(qff,qce)]
def qvbc:Ctx:=ctx qbg qbh qldc
def qbw:Run:=lim qvbc qhw
theorem qebb:FnOk Tryz.prog OkT qhw qbw:=qan (l:=qldc) qad tyTab_ok qae okT (.cons qvc .nil) qhw
def fcp (k m:Nat)(c1 c2:Cell)(H:List Entry):Option Res:=(lenC c2).bind fun n3=>(qce [.one (c1),.one (Cell.int (n3:Int))] H).bind fun r4=>cond (qab qnq r4.1) ((cI .i64 (qaa r4.1 0) 0).bind fun i5=>(idxA 1 (c2) i5).bind fun c6=>(deref r4.2 (c6)).bind fun p7=>(cS p7.1 p7.2).bind fun s8=>some ([.one (Cell.str s8)],r4.2)) none
theorem qbac (k m:Nat)(c1 c2:Cell)(H:List Entry):evC qvbc qehb (evF qvbc (k+1)) m qehb.code none (retK qvbc qehb) (enter qehb [.one (c1),.one (c2)] H)=fcp (k+1) m c1 c2 H:=by
 kernel_rfl
theorem qrx {c1 c2:Cell}{H:List Entry}{r:Res}(k:Nat)(h:fcp (k+1) (k+1) c1 c2 H=some r):qbw [.one (c1),.one (c2)] H=some r:=qap (k:=k+2) (Eq.trans (Eq.trans (by kernel_rfl) (qbac k (k+1) c1 c2 H)) h)
def qozc:List (Nat×Run):=[(qff,qce)]
def qwqc:Ctx:=ctx qbg qbh qozc
def qfi:Run:=lim qwqc qol
theorem qfxc:FnOk Tryz.prog OkT qol qfi:=qan (l:=qozc) qad tyTab_ok qae okT (.cons qvc .nil) qol
def fcn (k m:Nat)(c1:Cell)(i2:Int)(H:List Entry):Option Res:=(qce [.one (c1),.one (Cell.int i2)] H).bind fun r3=>cond (qab qnq r3.1) ((cI .i64 (qaa r3.1 0) 0).bind fun i4=>some ([.one (Cell.bool (i4==0))],r3.2)) none
theorem qdrc (k m:Nat)(c1:Cell)(i2:Int)(H:List Entry):evC qwqc qeib (evF qwqc (k+1)) m qeib.code none (retK qwqc qeib) (enter qeib [.one (c1),.one (Cell.int i2)] H)=fcn (k+1) m c1 i2 H:=by
 kernel_rfl
theorem qimb {c1:Cell}{i2:Int}{H:List Entry}{r:Res}(k:Nat)(h:fcn (k+1) (k+1) c1 i2 H=some r):qfi [.one (c1),.one (Cell.int i2)] H=some r:=qap (k:=k+2) (Eq.trans (Eq.trans (by kernel_rfl) (qdrc k (k+1) c1 i2 H)) h)
def qkzc:List (Nat×Run):=[(qhw,qbw)]
def qvdc:Ctx:=ctx qbg qbh qkzc
def qrz:Run:=lim qvdc qahb
theorem ok_fdp:FnOk Tryz.prog OkT qahb qrz:=qan (l:=qkzc) qad tyTab_ok qae okT (.cons qebb .nil) qahb
def fdp (k m:Nat)(c1:Cell)(H:List Entry):Option Res:=(qbw [.one (c1),.one (.lst true 1 [[Cell.str (bs [108,105,98])],[Cell.str (bs [108,111,103])],[Cell.str (bs [110,101,116])],[Cell.str (bs [122,105,112])]])] H).bind fun r2=>cond (qab qhi r2.1) ((cS (qaa r2.1 0) 0).bind fun s3=>(qbw [.one (c1),.one (.lst true 1 [[Cell.str (bs [42])],[Cell.str (bs [94,49,46,48,46,48])],[Cell.str (bs [126,49,46,49])],[Cell.str (bs [62,61,49])],[Cell.str (bs [60,50])],[Cell.str (bs [49,46,120])],[Cell.str (bs [48,46,120,32,124,124,32,50,46,120])],[Cell.str (bs [94,48,46,49,46,48])]])] r2.2).bind fun r4=>cond (qab qhi r4.1) ((cS (qaa r4.1 0) 0).bind fun s5=>some ([.agg [Cell.str s3,Cell.str s5]],r4.2)) none) none
theorem qfqc (k m:Nat)(c1:Cell)(H:List Entry):evC qvdc qefb (evF qvdc (k+1)) m qefb.code none (retK qvdc qefb) (enter qefb [.one (c1)] H)=fdp (k+1) m c1 H:=by
 kernel_rfl
theorem qlib {c1:Cell}{H:List Entry}{r:Res}(k:Nat)(h:fdp (k+1) (k+1) c1 H=some r):qrz [.one (c1)] H=some r:=qap (k:=k+2) (Eq.trans (Eq.trans (by kernel_rfl) (qfqc k (k+1) c1 H)) h)
def qusc:List (Nat×Run):=[(qff,qce),(qahb,qrz)]
def qyd:Ctx:=ctx qbg qbh qusc
def qti:Run:=lim qyd qzp
theorem ok_fdl:FnOk Tryz.prog OkT qzp qti:=qan (l:=qusc) qad tyTab_ok qae okT (.cons qvc (.cons ok_fdp .nil)) qzp
def qxu (k m:Nat)(b_l0:Cell→Cell→Int→List Entry→Option Res):Nat→Cell→Cell→Int→Int→ByteArray→ByteArray→List Entry→Option Res | 0,_,_,_,_,_,_,_=>none | n+1,c11,c12,i13,i14,s15,s16,H17=>(lenC c12).bind fun n18=>cond (decide (i14 < (n18:Int))) ((idxA 2 (c12) i14).bind fun c19=>(fldA c19 0).bind fun c20=>(deref H17 (c20)).bind fun p21=>(cS p21.1 p21.2).bind fun s22=>cond (Op.bytesLess s22.toList s15.toList) (qxu k m b_l0 n (c11) (c12) i13 (IntKind.i64.wrap (i14+1)) s15 s16 H17) ((lenC c12).bind fun n23=>cond (i14==(n23:Int)) ((slcC 2 (c12) i14 none none).bind fun c24=>(qal H17 2 c24).bind fun r25=>(app H17 2 32 (.lst true 2 []) r25).bind fun p26=>(slcC 2 (c12) 0 (some i14) none).bind fun c27=>(qal p26.2 2 c27).bind fun r28=>(app p26.2 2 32 (.lst true 2 []) r28).bind fun p29=>(app p29.2 2 32 (p29.1) [[Cell.str s15,Cell.str s16]]).bind fun p30=>(qal p30.2 2 p26.1).bind fun r31=>(app p30.2 2 32 (p30.1) r31).bind fun p32=>b_l0 (c11) (p32.1) (IntKind.i64.wrap (i13 - 1)) p32.2) ((idxA 2 (c12) i14).bind fun c33=>(fldA c33 0).bind fun c34=>(deref H17 (c34)).bind fun p35=>(cS p35.1 p35.2).bind fun s36=>cond (!(s36.toList==s15.toList)) ((slcC 2 (c12) i14 none none).bind fun c37=>(qal H17 2 c37).bind fun r38=>(app H17 2 32 (.lst true 2 []) r38).bind fun p39=>(slcC 2 (c12) 0 (some i14) none).bind fun c40=>(qal p39.2 2 c40).bind fun r41=>(app p39.2 2 32 (.lst true 2 []) r41).bind fun p42=>(app p42.2 2 32 (p42.1) [[Cell.str s15,Cell.str s16]]).bind fun p43=>(qal p43.2 2 p39.1).bind fun r44=>(app p43.2 2 32 (p43.1) r44).bind fun p45=>b_l0 (c11) (p45.1) (IntKind.i64.wrap (i13 - 1)) p45.2) (b_l0 (c11) (c12) (IntKind.i64.wrap (i13 - 1)) H17)))) ((lenC c12).bind fun n46=>cond (i14==(n46:Int)) ((slcC 2 (c12) i14 none none).bind fun c47=>(qal H17 2 c47).bind fun r48=>(app H17 2 32 (.lst true 2 []) r48).bind fun p49=>(slcC 2 (c12) 0 (some i14) none).bind fun c50=>(qal p49.2 2 c50).bind fun r51=>(app p49.2 2 32 (.lst true 2 []) r51).bind fun p52=>(app p52.2 2 32 (p52.1) [[Cell.str s15,Cell.str s16]]).bind fun p53=>(qal p53.2 2 p49.1).bind fun r54=>(app p53.2 2 32 (p53.1) r54).bind fun p55=>b_l0 (c11) (p55.1) (IntKind.i64.wrap (i13 - 1)) p55.2) ((idxA 2 (c12) i14).bind fun c56=>(fldA c56 0).bind fun c57=>(deref H17 (c57)).bind fun p58=>(cS p58.1 p58.2).bind fun s59=>cond (!(s59.toList==s15.toList)) ((slcC 2 (c12) i14 none none).bind fun c60=>(qal H17 2 c60).bind fun r61=>(app H17 2 32 (.lst true 2 []) r61).bind fun p62=>(slcC 2 (c12) 0 (some i14) none).bind fun c63=>(qal p62.2 2 c63).bind fun r64=>(app p62.2 2 32 (.lst true 2 []) r64).bind fun p65=>(app p65.2 2 32 (p65.1) [[Cell.str s15,Cell.str s16]]).bind fun p66=>(qal p66.2 2 p62.1).bind fun r67=>(app p66.2 2 32 (p66.1) r67).bind fun p68=>b_l0 (c11) (p68.1) (IntKind.i64.wrap (i13 - 1)) p68.2) (b_l0 (c11) (c12) (IntKind.i64.wrap (i13 - 1)) H17)))
def qsj (k m:Nat):Nat→Cell→Cell→Int→List Entry→Option Res | 0,_,_,_,_=>none | n+1,c4,c5,i6,H7=>cond (decide (i6 > 0)) ((qrz [.one (c4)] H7).bind fun r8=>cond (qab qmqc r8.1) ((cS (qaa r8.1 0) 0).bind fun s9=>(cS (qaa r8.1 0) 1).bind fun s10=>qxu k m (qsj k m n) m (c4) (c5) i6 0 s9 s10 r8.2) none) (some ([.one (c5)],H7))
def fdl (k m:Nat)(c1:Cell)(H:List Entry):Option Res:=(qce [.one (c1),.one (Cell.int 3)] H).bind fun r2=>cond (qab qnq r2.1) ((cI .i64 (qaa r2.1 0) 0).bind fun i3=>qsj k m m (c1) (.lst true 2 []) i3 r2.2) none
abbrev qxt (k m:Nat):TB:=evC qyd qfe (evF qyd (k+1)) m (sub [1,1,0,1,2,3] qfe.code) none
abbrev qpy (k m:Nat):TK:=qav 0 (seqK (evC qyd qfe (evF qyd (k+1)) m (sub [1,1,1] qfe.code) none) (retK qyd qfe))
abbrev qehc (k m:Nat):TB:=evC qyd qfe (evF qyd (k+1)) m (sub [1,1,0,1,2,3,1,0,2,1,1,0,2,3] qfe.code) none
abbrev qbhc (k m:Nat)(n_l0:Nat):TK:=qav 2 (seqK (evC qyd qfe (evF qyd (k+1)) m (sub [1,1,0,1,2,3,1,0,2,1,1,1] qfe.code) none) (qav 1 (seqK (evC qyd qfe (evF qyd (k+1)) m (sub [1,1,0,1,2,3,1,1] qfe.code) none) (qktc (fun s=>qbo (some [0,3,4]) (qxt k m) (qpy k m) n_l0 (qvy (some [0,3,4]) s)) (qpy k m)))))
theorem qnhb (k m:Nat)(b_l0:Cell→Cell→Int→List Entry→Option Res)(n_l0:Nat)(h_l0:∀ (c4 c5:Cell) (i6:Int) (H7:List Entry),qbo (some [0,3,4]) (qxt k m) (qpy k m) n_l0 ⟨fT 63 0 [(0,.av (.one (c4))),(3,.av (.one (c5))),(4,.av (.one (Cell.int i6)))],fX 63 0 [],H7⟩=b_l0 c4 c5 i6 H7):∀ (n:Nat) (c11 c12:Cell) (i13 i14:Int) (s15 s16:ByteArray) (H17:List Entry),qbo (some [0,3,4,5,6]) (qehc k m) (qbhc k m n_l0) n ⟨fT 63 0 [(0,.av (.one (c11))),(3,.av (.one (c12))),(4,.av (.one (Cell.int i13))),(5,.loc 5 0),(6,.av (.one (Cell.int i14)))],fX 63 0 [(5,[Cell.str s15,Cell.str s16])],H17⟩=qxu (k+1) m b_l0 n c11 c12 i13 i14 s15 s16 H17:=by
 intro n
 induction n with
 | zero=>intros;rfl
 | succ n ih=>intros;simp only[qxu,← h_l0,← ih];kernel_rfl
theorem qrkb (k m:Nat):∀ (n:Nat) (c4 c5:Cell) (i6:Int) (H7:List Entry),qbo (some [0,3,4]) (qxt k m) (qpy k m) n ⟨fT 63 0 [(0,.av (.one (c4))),(3,.av (.one (c5))),(4,.av (.one (Cell.int i6)))],fX 63 0 [],H7⟩=qsj (k+1) m n c4 c5 i6 H7:=by
 intro n
 induction n with
 | zero=>intros;rfl
 | succ n ih=>intros;simp only[qsj,← qnhb k m _ _ (ih)];kernel_rfl
theorem qjtc (k m:Nat)(c1:Cell)(H:List Entry):evC qyd qfe (evF qyd (k+1)) m qfe.code none (retK qyd qfe) (enter qfe [.one (c1)] H)=fdl (k+1) m c1 H:=by
 simp only[fdl,← qrkb k m]
 kernel_rfl
theorem qjcb {c1:Cell}{H:List Entry}{r:Res}(k:Nat)(h:fdl (k+1) (k+1) c1 H=some r):qti [.one (c1)] H=some r:=qap (k:=k+2) (Eq.trans (Eq.trans (by kernel_rfl) (qjtc k (k+1) c1 H)) h)
def qtjc:List (Nat×Run):=[(qhw,qbw)]
def qvhc:Ctx:=ctx qbg qbh qtjc
def qsh:Run:=lim qvhc qbeb
theorem ok_fdf:FnOk Tryz.prog OkT qbeb qsh:=qan (l:=qtjc) qad tyTab_ok qae okT (.cons qebb .nil) qbeb
def fdf (k m:Nat)(c1:Cell)(s2:ByteArray)(H:List Entry):Option Res:=(catS (bs [99,97,116,32]) s2).bind fun s3=>(catS s3 (bs [47,120,32,62,32,111])).bind fun s4=>(catS (bs [99,97,116,32]) s2).bind fun s5=>(catS s5 (bs [47,120,32])).bind fun s6=>(catS s6 s2).bind fun s7=>(catS s7 (bs [47,121,32,62,32,112])).bind fun s8=>(qbw [.one (c1),.one (.lst true 1 [[Cell.str (bs [112,117,116,32,104,105,32,62,32,111])],[Cell.str s4],[Cell.str s8],[Cell.str (bs [101,110,118,32,109,111,100,101,32,62,32,101])],[Cell.str (bs [117,115,101,32,97,35,98,117,105,108,100,32,111,32,62,32,113])],[Cell.str (bs [117,115,101,32,98,35,98,117,105,108,100,32,111,32,62,32,113])],[Cell.str (bs [108,111,103,32,100,111,110,101])],[Cell.str (bs [108,111,103,32,120,32,121])],[Cell.str (bs [102,97,105,108])],[Cell.str (bs [119,104,97,116])],[Cell.str (bs [112,117,116,32,62,32,114])]])] H).bind fun r9=>cond (qab qhi r9.1) ((cS (qaa r9.1 0) 0).bind fun s10=>some ([.one (Cell.str s10)],r9.2)) none
theorem qarc (k m:Nat)(c1:Cell)(s2:ByteArray)(H:List Entry):evC qvhc qdvb (evF qvhc (k+1)) m qdvb.code none (retK qvhc qdvb) (enter qdvb [.one (c1),.one (Cell.str s2)] H)=fdf (k+1) m c1 s2 H:=by
 kernel_rfl
theorem qmvb {c1:Cell}{s2:ByteArray}{H:List Entry}{r:Res}(k:Nat)(h:fdf (k+1) (k+1) c1 s2 H=some r):qsh [.one (c1),.one (Cell.str s2)] H=some r:=qap (k:=k+2) (Eq.trans (Eq.trans (by kernel_rfl) (qarc k (k+1) c1 s2 H)) h)
def qoic:List (Nat×Run):=[(qhw,qbw),(qff,qce),(qbeb,qsh)]
def qqtb:Ctx:=ctx qbg qbh qoic
def qmy:Run:=lim qqtb qakb
theorem ok_fdi:FnOk Tryz.prog OkT qakb qmy:=qan (l:=qoic) qad tyTab_ok qae okT (.cons qebb (.cons qvc (.cons ok_fdf .nil))) qakb
def qyc (k m:Nat):Nat→Cell→ByteArray→Int→ByteArray→Cell→List Entry→Option Res | 0,_,_,_,_,_,_=>none | n+1,c11,s12,i13,s14,c15,H16=>cond (decide (i13 > 0)) ((qsh [.one (c11),.one (Cell.str s12)] H16).bind fun r17=>cond (qab qovc r17.1) ((cS (qaa r17.1 0) 0).bind fun s18=>(qal (r17.2++[Entry.mk 1 [[Cell.str s18]] 0 false]) 1 (.vs r17.2.length 1 0 1 0)).bind fun r19=>(app (r17.2++[Entry.mk 1 [[Cell.str s18]] 0 false]) 1 16 (c15) r19).bind fun p20=>qyc k m n (c11) s12 (IntKind.i64.wrap (i13 - 1)) s14 (p20.1) p20.2) none) (some ([.agg [Cell.str s14,c15]],H16))
def fdi (k m:Nat)(c1:Cell)(s2 s3:ByteArray)(H:List Entry):Option Res:=(catS (bs [99,97,116,32]) s2).bind fun s4=>(catS s4 (bs [47,120,32,62,32,111])).bind fun s5=>(catS (bs [108,111,103,32]) s3).bind fun s6=>(qbw [.one (c1),.one ((.vs H.length 1 0 3 0))] (H++[Entry.mk 1 [[Cell.str (bs [112,117,116,32,104,105,32,62,32,111])],[Cell.str s5],[Cell.str s6]] 0 false])).bind fun r7=>cond (qab qhi r7.1) ((cS (qaa r7.1 0) 0).bind fun s8=>(qce [.one (c1),.one (Cell.int 3)] (r7.2++[Entry.mk 1 [[Cell.str s8]] 0 false])).bind fun r9=>cond (qab qnq r9.1) ((cI .i64 (qaa r9.1 0) 0).bind fun i10=>qyc k m m (c1) s2 i10 s3 ((.vs r7.2.length 1 0 1 0)) r9.2) none) none
abbrev qjec (k m:Nat):TB:=evC qqtb qkd (evF qqtb (k+1)) m (sub [1,1,0,1,2,3] qkd.code) none
abbrev qbrc (k m:Nat):TK:=qav 0 (seqK (evC qqtb qkd (evF qqtb (k+1)) m (sub [1,1,1] qkd.code) none) (retK qqtb qkd))
theorem qxdb (k m:Nat):∀ (n:Nat) (c11:Cell) (s12:ByteArray) (i13:Int) (s14:ByteArray) (c15:Cell) (H16:List Entry),qbo (some [0,1,6,7,8]) (qjec k m) (qbrc k m) n ⟨fT 35 0 [(0,.av (.one (c11))),(1,.av (.one (Cell.str s12))),(6,.loc 6 0),(7,.loc 7 0),(8,.av (.one (Cell.int i13)))],fX 35 0 [(6,[Cell.str (bs []),.lst true 1 []]),(7,[Cell.str s14,c15])],H16⟩=qyc (k+1) m n c11 s12 i13 s14 c15 H16:=by
 intro n
 induction n with
 | zero=>intros;rfl
 | succ n ih=>intros;simp only[qyc,← ih];kernel_rfl
theorem qzyb (k m:Nat)(c1:Cell)(s2 s3:ByteArray)(H:List Entry):evC qqtb qkd (evF qqtb (k+1)) m qkd.code none (retK qqtb qkd) (enter qkd [.one (c1),.one (Cell.str s2),.one (Cell.str s3)] H)=fdi (k+1) m c1 s2 s3 H:=by
 simp only[fdi,← qxdb k m]
 kernel_rfl
theorem qiyb {c1:Cell}{s2 s3:ByteArray}{H:List Entry}{r:Res}(k:Nat)(h:fdi (k+1) (k+1) c1 s2 s3 H=some r):qmy [.one (c1),.one (Cell.str s2),.one (Cell.str s3)] H=some r:=qap (k:=k+2) (Eq.trans (Eq.trans (by kernel_rfl) (qzyb k (k+1) c1 s2 s3 H)) h)
def qprc:List (Nat×Run):=[(qol,qfi),(qzp,qti),(qakb,qmy)]
def qrwb:Ctx:=ctx qbg qbh qprc
def qne:Run:=lim qrwb qtm
theorem qptc:FnOk Tryz.prog OkT qtm qne:=qan (l:=qprc) qad tyTab_ok qae okT (.cons qfxc (.cons ok_fdl (.cons ok_fdi .nil))) qtm
def qjk (k m:Nat):Nat→Cell→ByteArray→Int→ByteArray→Cell→Cell→List Entry→Option Res | 0,_,_,_,_,_,_,_=>none | n+1,c5,s6,i7,s8,c9,c10,H11=>cond (decide (i7 < 3)) ((idxA 1 (.lst true 1 [[Cell.str (bs [98,117,105,108,100])],[Cell.str (bs [108,105,110,116])],[Cell.str (bs [116,101,115,116])]]) i7).bind fun c12=>(deref H11 (c12)).bind fun p13=>(cS p13.1 p13.2).bind fun s14=>(qfi [.one (c5),.one (Cell.int 2)] H11).bind fun r15=>cond (qab qfob r15.1) ((cB (qaa r15.1 0) 0).bind fun b16=>cond b16 ((qmy [.one (c5),.one (Cell.str s6),.one (Cell.str s14)] r15.2).bind fun r17=>cond (qab qseb r17.1) ((cS (qaa r17.1 0) 0).bind fun s18=>(cC (qaa r17.1 0) 1).bind fun c19=>(qal (r17.2++[Entry.mk 2 [[Cell.str s18,c19]] 0 false]) 2 (.vs r17.2.length 2 0 1 0)).bind fun r20=>(app (r17.2++[Entry.mk 2 [[Cell.str s18,c19]] 0 false]) 2 40 (c10) r20).bind fun p21=>qjk k m n (c5) s6 (IntKind.i64.wrap (i7+1)) s8 (c9) (p21.1) p21.2) none) (cond (i7==0) ((qmy [.one (c5),.one (Cell.str s6),.one (Cell.str s14)] r15.2).bind fun r22=>cond (qab qseb r22.1) ((cS (qaa r22.1 0) 0).bind fun s23=>(cC (qaa r22.1 0) 1).bind fun c24=>(qal (r22.2++[Entry.mk 2 [[Cell.str s23,c24]] 0 false]) 2 (.vs r22.2.length 2 0 1 0)).bind fun r25=>(app (r22.2++[Entry.mk 2 [[Cell.str s23,c24]] 0 false]) 2 40 (c10) r25).bind fun p26=>qjk k m n (c5) s6 (IntKind.i64.wrap (i7+1)) s8 (c9) (p26.1) p26.2) none) (qjk k m n (c5) s6 (IntKind.i64.wrap (i7+1)) s8 (c9) (c10) r15.2))) none) (some ([.agg [Cell.str s8,.lst true 1 [],c9,c10]],H11))
def fdq (k m:Nat)(c1:Cell)(s2:ByteArray)(H:List Entry):Option Res:=(qti [.one (c1)] H).bind fun r3=>cond (qab qpvc r3.1) ((cC (qaa r3.1 0) 0).bind fun c4=>qjk k m m (c1) s2 0 s2 (c4) (.lst true 2 []) r3.2) none
abbrev qecc (k m:Nat):TB:=evC qrwb qkz (evF qrwb (k+1)) m (sub [1,1,0,1,2,3] qkz.code) none
abbrev qivc (k m:Nat):TK:=qav 0 (seqK (evC qrwb qkz (evF qrwb (k+1)) m (sub [1,1,1] qkz.code) none) (retK qrwb qkz))
theorem qqab (k m:Nat):∀ (n:Nat) (c5:Cell) (s6:ByteArray) (i7:Int) (s8:ByteArray) (c9 c10:Cell) (H11:List Entry),qbo (some [0,1,4,5,6]) (qecc k m) (qivc k m) n ⟨fT 36 0 [(0,.av (.one (c5))),(1,.av (.one (Cell.str s6))),(4,.loc 4 0),(5,.loc 5 0),(6,.av (.one (Cell.int i7)))],fX 36 0 [(4,[Cell.str (bs []),.lst true 1 [],.lst true 2 [],.lst true 2 []]),(5,[Cell.str s8,.lst true 1 [],c9,c10])],H11⟩=qjk (k+1) m n c5 s6 i7 s8 c9 c10 H11:=by
 intro n
 induction n with
 | zero=>intros;rfl
 | succ n ih=>intros;simp only[qjk,← ih];kernel_rfl
theorem qemc (k m:Nat)(c1:Cell)(s2:ByteArray)(H:List Entry):evC qrwb qkz (evF qrwb (k+1)) m qkz.code none (retK qrwb qkz) (enter qkz [.one (c1),.one (Cell.str s2)] H)=fdq (k+1) m c1 s2 H:=by
 simp only[fdq,← qqab k m]
 kernel_rfl
theorem qmub {c1:Cell}{s2:ByteArray}{H:List Entry}{r:Res}(k:Nat)(h:fdq (k+1) (k+1) c1 s2 H=some r):qne [.one (c1),.one (Cell.str s2)] H=some r:=qap (k:=k+2) (Eq.trans (Eq.trans (by kernel_rfl) (qemc k (k+1) c1 s2 H)) h)
def qlsc:List (Nat×Run):=[]
def qsyb:Ctx:=ctx qbg qbh qlsc
def qiv:Run:=lim qsyb qarb
theorem ok_fdk:FnOk Tryz.prog OkT qarb qiv:=qan (l:=qlsc) qad tyTab_ok qae okT .nil qarb
def qxq (k m:Nat):Nat→Int→ByteArray→Cell→Cell→Cell→ByteArray→Cell→Cell→Cell→List Entry→Option Res | 0,_,_,_,_,_,_,_,_,_,_=>none | n+1,i9,s10,c11,c12,c13,s14,c15,c16,c17,H18=>(lenC c13).bind fun n19=>cond (decide (i9 < (n19:Int))) ((idxA 2 (c13) i9).bind fun c20=>(fldA c20 0).bind fun c21=>(deref [] (c21)).bind fun p22=>(cS p22.1 p22.2).bind fun s23=>(idxA 2 (c13) i9).bind fun c24=>(fldA c24 1).bind fun c25=>(deref H18 (c25)).bind fun p26=>(cC p26.1 p26.2).bind fun c27=>(qal H18 1 c27).bind fun r28=>(app H18 1 16 (.lst true 1 []) r28).bind fun p29=>(qal (p29.2++[Entry.mk 2 [[Cell.str s23,p29.1]] 0 false]) 2 (.vs p29.2.length 2 0 1 0)).bind fun r30=>(app (p29.2++[Entry.mk 2 [[Cell.str s23,p29.1]] 0 false]) 2 40 (c17) r30).bind fun p31=>qxq k m n (IntKind.i64.wrap (i9+1)) s10 (c11) (c12) (c13) s14 (c15) (c16) (p31.1) p31.2) (some ([.agg [Cell.str s14,c15,c16,c17]],H18))
def fdk (k m:Nat)(s1:ByteArray)(c2 c3 c4:Cell):Option Res:=(qal [] 1 c2).bind fun r5=>(app [] 1 16 (.lst true 1 []) r5).bind fun p6=>(qal p6.2 2 c3).bind fun r7=>(app p6.2 2 32 (.lst true 2 []) r7).bind fun p8=>qxq k m m 0 s1 (c2) (c3) (c4) s1 (p6.1) (p8.1) (.lst true 2 []) p8.2
abbrev qgqc (k m:Nat):TB:=evC qsyb qmn (evF qsyb (k+1)) m (sub [1,1,0,1,2,3] qmn.code) none
abbrev qggc (k m:Nat):TK:=qav 0 (seqK (evC qsyb qmn (evF qsyb (k+1)) m (sub [1,1,1] qmn.code) none) (retK qsyb qmn))
theorem qphb (k m:Nat):∀ (n:Nat) (i9:Int) (s10:ByteArray) (c11 c12 c13:Cell) (s14:ByteArray) (c15 c16 c17:Cell) (H18:List Entry),qbo (some [1,2,3,4]) (qgqc k m) (qggc k m) n ⟨fT 44 0 [(1,.loc 1 0),(2,.loc 2 0),(3,.loc 3 0),(4,.av (.one (Cell.int i9)))],fX 44 0 [(1,[Cell.str s10,c11,c12,c13]),(2,[Cell.str (bs []),.lst true 1 [],.lst true 2 [],.lst true 2 []]),(3,[Cell.str s14,c15,c16,c17])],H18⟩=qxq (k+1) m n i9 s10 c11 c12 c13 s14 c15 c16 c17 H18:=by
 intro n
 induction n with
 | zero=>intros;rfl
 | succ n ih=>intros;simp only[qxq,← ih];kernel_rfl
theorem qfdc (k m:Nat)(s1:ByteArray)(c2 c3 c4:Cell):evC qsyb qmn (evF qsyb (k+1)) m qmn.code none (retK qsyb qmn) (enter qmn [.agg [Cell.str s1,c2,c3,c4]] [])=fdk (k+1) m s1 c2 c3 c4:=by
 simp only[fdk,← qphb k m]
 kernel_rfl
theorem qhkb {s1:ByteArray}{c2 c3 c4:Cell}{r:Res}(k:Nat)(h:fdk (k+1) (k+1) s1 c2 c3 c4=some r):qiv [.agg [Cell.str s1,c2,c3,c4]] []=some r:=qap (k:=k+2) (Eq.trans (Eq.trans (by kernel_rfl) (qfdc k (k+1) s1 c2 c3 c4)) h)
def qmhc:List (Nat×Run):=[(qhw,qbw)]
def qwfc:Ctx:=ctx qbg qbh qmhc
def qqx:Run:=lim qwfc qaob
theorem ok_fcq:FnOk Tryz.prog OkT qaob qqx:=qan (l:=qmhc) qad tyTab_ok qae okT (.cons qebb .nil) qaob
def fcq (k m:Nat)(c1:Cell)(H:List Entry):Option Res:=(qbw [.one (c1),.one (.lst true 1 [[Cell.str (bs [])],[Cell.str (bs [97])],[Cell.str (bs [98])],[Cell.str (bs [97,98])],[Cell.str (bs [97,45,98])],[Cell.str (bs [65,98])],[Cell.str (bs [120,49])],[Cell.str (bs [101,108,101,118,101,110,98,121,116,101,115])],[Cell.str (bs [116,101,110,45,98,121,116,101,115,49])],[Cell.str (bs [97,32,98])],[Cell.str (bs [9])],[Cell.str (bs [127])],[Cell.str (bs [49,97])],[Cell.str (bs [45,97])],[Cell.str (bs [122])],[Cell.str (bs [104,101,108,108,111])]])] H).bind fun r2=>cond (qab qhi r2.1) ((cS (qaa r2.1 0) 0).bind fun s3=>some ([.one (Cell.str s3)],r2.2)) none
theorem qgbc (k m:Nat)(c1:Cell)(H:List Entry):evC qwfc qerb (evF qwfc (k+1)) m qerb.code none (retK qwfc qerb) (enter qerb [.one (c1)] H)=fcq (k+1) m c1 H:=by
 kernel_rfl
theorem qiqb {c1:Cell}{H:List Entry}{r:Res}(k:Nat)(h:fcq (k+1) (k+1) c1 H=some r):qqx [.one (c1)] H=some r:=qap (k:=k+2) (Eq.trans (Eq.trans (by kernel_rfl) (qgbc k (k+1) c1 H)) h)
def qkvc:List (Nat×Run):=[(qff,qce),(qaob,qqx)]
def qvtb:Ctx:=ctx qbg qbh qkvc
def qus:Run:=lim qvtb qbbb
theorem ok_fcl:FnOk Tryz.prog OkT qbbb qus:=qan (l:=qkvc) qad tyTab_ok qae okT (.cons qvc (.cons ok_fcq .nil)) qbbb
def qxv (k m:Nat):Nat→Cell→Cell→Int→List Entry→Option Res | 0,_,_,_,_=>none | n+1,c4,c5,i6,H7=>cond (decide (i6 > 0)) ((qqx [.one (c4)] H7).bind fun r8=>cond (qab qpqc r8.1) ((cS (qaa r8.1 0) 0).bind fun s9=>(app r8.2 1 16 (c5) [[Cell.str s9]]).bind fun p10=>qxv k m n (c4) (p10.1) (IntKind.i64.wrap (i6 - 1)) p10.2) none) (some ([.one (c5)],H7))
def fcl (k m:Nat)(c1:Cell)(H:List Entry):Option Res:=(qce [.one (c1),.one (Cell.int 6)] H).bind fun r2=>cond (qab qnq r2.1) ((cI .i64 (qaa r2.1 0) 0).bind fun i3=>qxv k m m (c1) (.lst true 1 []) i3 r2.2) none
abbrev qflc (k m:Nat):TB:=evC qvtb qmi (evF qvtb (k+1)) m (sub [1,1,0,1,2,3] qmi.code) none
abbrev qhcc (k m:Nat):TK:=qav 0 (seqK (evC qvtb qmi (evF qvtb (k+1)) m (sub [1,1,1] qmi.code) none) (retK qvtb qmi))
theorem qoxb (k m:Nat):∀ (n:Nat) (c4 c5:Cell) (i6:Int) (H7:List Entry),qbo (some [0,3,4]) (qflc k m) (qhcc k m) n ⟨fT 18 0 [(0,.av (.one (c4))),(3,.av (.one (c5))),(4,.av (.one (Cell.int i6)))],fX 18 0 [],H7⟩=qxv (k+1) m n c4 c5 i6 H7:=by
 intro n
 induction n with
 | zero=>intros;rfl
 | succ n ih=>intros;simp only[qxv,← ih];kernel_rfl
theorem qzlb (k m:Nat)(c1:Cell)(H:List Entry):evC qvtb qmi (evF qvtb (k+1)) m qmi.code none (retK qvtb qmi) (enter qmi [.one (c1)] H)=fcl (k+1) m c1 H:=by
 simp only[fcl,← qoxb k m]
 kernel_rfl
theorem qjtb {c1:Cell}{H:List Entry}{r:Res}(k:Nat)(h:fcl (k+1) (k+1) c1 H=some r):qus [.one (c1)] H=some r:=qap (k:=k+2) (Eq.trans (Eq.trans (by kernel_rfl) (qzlb k (k+1) c1 H)) h)
def qrtc:List (Nat×Run):=[(qhw,qbw),(qff,qce),(qtm,qne),(qarb,qiv),(qbbb,qus)]
def qwdc:Ctx:=ctx qbg qbh qrtc
def qjb:Run:=lim qwdc qso
theorem qmbc:FnOk Tryz.prog OkT qso qjb:=qan (l:=qrtc) qad tyTab_ok qae okT (.cons qebb (.cons qvc (.cons qptc (.cons ok_fdk (.cons ok_fcl .nil))))) qso
def fdg (k m:Nat)(c1:Cell)(H:List Entry):Option Res:=(qbw [.one (c1),.one (.lst true 1 [[Cell.str (bs [97])],[Cell.str (bs [98])]])] H).bind fun r2=>cond (qab qhi r2.1) ((cS (qaa r2.1 0) 0).bind fun s3=>(qne [.one (c1),.one (Cell.str s3)] r2.2).bind fun r4=>cond (qab qgoc r4.1) ((cS (qaa r4.1 0) 0).bind fun s5=>(cC (qaa r4.1 0) 1).bind fun c6=>(cC (qaa r4.1 0) 2).bind fun c7=>(cC (qaa r4.1 0) 3).bind fun c8=>(qce [.one (c1),.one (Cell.int 4)] r4.2).bind fun r9=>cond (qab qnq r9.1) ((cI .i64 (qaa r9.1 0) 0).bind fun i10=>(slcC 1 (.lst true 1 [[Cell.str (bs [97])],[Cell.str (bs [98])],[Cell.str (bs [99])]]) 0 (some i10) none).bind fun c11=>(qgu qiv [.agg [Cell.str s5,c11,c7,c8]] r9.2).bind fun r12=>cond (qab qtlc r12.1) ((cS (qaa r12.1 0) 0).bind fun s13=>(cC (qaa r12.1 0) 1).bind fun c14=>(cC (qaa r12.1 0) 2).bind fun c15=>(cC (qaa r12.1 0) 3).bind fun c16=>(qce [.one (c1),.one (Cell.int 12)] r12.2).bind fun r17=>cond (qab qnq r17.1) ((cI .i64 (qaa r17.1 0) 0).bind fun i18=>cond (i18==0) ((qbw [.one (c1),.one (.lst true 1 [[Cell.str (bs [])],[Cell.str (bs [65])],[Cell.str (bs [101,108,101,118,101,110,98,121,116,101,115])]])] r17.2).bind fun r19=>cond (qab qhi r19.1) ((cS (qaa r19.1 0) 0).bind fun s20=>some ([.agg [Cell.str s20,c14,c15,c16]],r19.2)) none) (cond (i18==1) ((qbw [.one (c1),.one (.lst true 1 [[Cell.str (bs [97])],[Cell.str (bs [122])],[Cell.str (bs [65])]])] r17.2).bind fun r21=>cond (qab qhi r21.1) ((cS (qaa r21.1 0) 0).bind fun s22=>(qal (r21.2++[Entry.mk 1 [[Cell.str s22]] 0 false]) 1 (.vs r21.2.length 1 0 1 0)).bind fun r23=>(app (r21.2++[Entry.mk 1 [[Cell.str s22]] 0 false]) 1 16 (c14) r23).bind fun p24=>some ([.agg [Cell.str s13,p24.1,c15,c16]],p24.2)) none) (cond (i18==2) ((qbw [.one (c1),.one (.lst true 1 [[Cell.str (bs [97])],[Cell.str (bs [122,122])]])] r17.2).bind fun r25=>cond (qab qhi r25.1) ((cS (qaa r25.1 0) 0).bind fun s26=>(qbw [.one (c1),.one (.lst true 1 [[Cell.str (bs [120])],[Cell.str (bs [42])],[Cell.str (bs [])],[Cell.str (bs [62,61,49,46,48,46,48,32,60,50,46,48,46,48,32,124,124,32,51,46,120])]])] r25.2).bind fun r27=>cond (qab qhi r27.1) ((cS (qaa r27.1 0) 0).bind fun s28=>(qal (r27.2++[Entry.mk 2 [[Cell.str s26,Cell.str s28]] 0 false]) 2 (.vs r27.2.length 2 0 1 0)).bind fun r29=>(app (r27.2++[Entry.mk 2 [[Cell.str s26,Cell.str s28]] 0 false]) 2 32 (c15) r29).bind fun p30=>some ([.agg [Cell.str s13,c14,p30.1,c16]],p30.2)) none) none) (cond (i18==3) ((qbw [.one (c1),.one (.lst true 1 [[Cell.str (bs [97])],[Cell.str (bs [122,122])]])] r17.2).bind fun r31=>cond (qab qhi r31.1) ((cS (qaa r31.1 0) 0).bind fun s32=>(qus [.one (c1)] r31.2).bind fun r33=>cond (qab qtzc r33.1) ((cC (qaa r33.1 0) 0).bind fun c34=>(qal (r33.2++[Entry.mk 2 [[Cell.str s32,c34]] 0 false]) 2 (.vs r33.2.length 2 0 1 0)).bind fun r35=>(app (r33.2++[Entry.mk 2 [[Cell.str s32,c34]] 0 false]) 2 40 (c16) r35).bind fun p36=>some ([.agg [Cell.str s13,c14,c15,p36.1]],p36.2)) none) none) (cond (i18==4) ((idxA 2 (c16) 0).bind fun c37=>(fldA c37 1).bind fun c38=>(deref r17.2 (c38)).bind fun p39=>(cC p39.1 p39.2).bind fun c40=>(qbw [.one (c1),.one (.lst true 1 [[Cell.str (bs [10])],[Cell.str (bs [97,32,116,101,120,116,32,111,102,32,109,111,114,101,32,116,104,97,110,32,102,111,114,116,121,32,98,121,116,101,115,44,32,97,115,32,105,116,32,115,101,101,109,115])]])] r17.2).bind fun r41=>cond (qab qhi r41.1) ((cS (qaa r41.1 0) 0).bind fun s42=>(qal (r41.2++[Entry.mk 1 [[Cell.str s42]] 0 false]) 1 (.vs r41.2.length 1 0 1 0)).bind fun r43=>(app (r41.2++[Entry.mk 1 [[Cell.str s42]] 0 false]) 1 16 (c40) r43).bind fun p44=>(idxA 2 (c16) 0).bind fun c45=>(fldA c45 1).bind fun c46=>(qbt p44.2 (c46) [p44.1]).bind fun h47=>(deref (r41.2++[Entry.mk 1 [[Cell.str s42]] 0 false]) (c38)).bind fun p48=>(cC p48.1 p48.2).bind fun c49=>cond (eqC c40 c49) ((deref r41.2 (c38)).bind fun p50=>(cC p50.1 p50.2).bind fun c51=>cond (eqC c40 c51) (some ([.agg [Cell.str s13,c14,c15,c16]],h47)) (none)) (none)) none) (some ([.agg [Cell.str s13,c14,c15,c16]],r17.2))))))) none) none) none) none) none
theorem qzhb (k m:Nat)(c1:Cell)(H:List Entry):evC qwdc qdwb (evF qwdc (k+1)) m qdwb.code none (retK qwdc qdwb) (enter qdwb [.one (c1)] H)=fdg (k+1) m c1 H:=by
 kernel_rfl
theorem qec {c1:Cell}{H:List Entry}{r:Res}(k:Nat)(h:fdg (k+1) (k+1) c1 H=some r):qjb [.one (c1)] H=some r:=qap (k:=k+2) (Eq.trans (Eq.trans (by kernel_rfl) (qzhb k (k+1) c1 H)) h)
def qnlc:List (Nat×Run):=[(qol,qfi),(qff,qce),(qtm,qne)]
def qxw:Ctx:=ctx qbg qbh qnlc
def qsz:Run:=lim qxw qbvb
theorem ok_fdr:FnOk Tryz.prog OkT qbvb qsz:=qan (l:=qnlc) qad tyTab_ok qae okT (.cons qfxc (.cons qvc (.cons qptc .nil))) qbvb
def qgs (k m:Nat)(b_l0:Cell→Bool→Cell→Cell→Int→List Entry→Option Res):Nat→Cell→Bool→Cell→Cell→Int→Int→ByteArray→Cell→Cell→Cell→List Entry→Option Res | 0,_,_,_,_,_,_,_,_,_,_,_=>none | n+1,c21,b22,c23,c24,i25,i26,s27,c28,c29,c30,H31=>(lenC c23).bind fun n32=>cond (decide (i26 < (n32:Int))) (cond (decide (i26 < i25)) ((qfi [.one (c21),.one (Cell.int 2)] H31).bind fun r33=>cond (qab qfob r33.1) ((cB (qaa r33.1 0) 0).bind fun b34=>cond b34 ((idxA 1 (c23) i26).bind fun c35=>(deref r33.2 (c35)).bind fun p36=>(cS p36.1 p36.2).bind fun s37=>(qal (r33.2++[Entry.mk 1 [[Cell.str s37]] 0 false]) 1 (.vs r33.2.length 1 0 1 0)).bind fun r38=>(app (r33.2++[Entry.mk 1 [[Cell.str s37]] 0 false]) 1 16 (c28) r38).bind fun p39=>qgs k m b_l0 n (c21) b22 (c23) (c24) i25 (IntKind.i64.wrap (i26+1)) s27 (p39.1) (c29) (c30) p39.2) (qgs k m b_l0 n (c21) b22 (c23) (c24) i25 (IntKind.i64.wrap (i26+1)) s27 (c28) (c29) (c30) r33.2)) none) (cond b22 (cond (decide (i26 > i25)) ((qfi [.one (c21),.one (Cell.int 3)] H31).bind fun r40=>cond (qab qfob r40.1) ((cB (qaa r40.1 0) 0).bind fun b41=>cond b41 ((qfi [.one (c21),.one (Cell.int 2)] r40.2).bind fun r42=>cond (qab qfob r42.1) ((cB (qaa r42.1 0) 0).bind fun b43=>cond b43 ((idxA 1 (c23) i26).bind fun c44=>(deref r42.2 (c44)).bind fun p45=>(cS p45.1 p45.2).bind fun s46=>(qal (r42.2++[Entry.mk 1 [[Cell.str s46]] 0 false]) 1 (.vs r42.2.length 1 0 1 0)).bind fun r47=>(app (r42.2++[Entry.mk 1 [[Cell.str s46]] 0 false]) 1 16 (c28) r47).bind fun p48=>qgs k m b_l0 n (c21) b22 (c23) (c24) i25 (IntKind.i64.wrap (i26+1)) s27 (p48.1) (c29) (c30) p48.2) (qgs k m b_l0 n (c21) b22 (c23) (c24) i25 (IntKind.i64.wrap (i26+1)) s27 (c28) (c29) (c30) r42.2)) none) (qgs k m b_l0 n (c21) b22 (c23) (c24) i25 (IntKind.i64.wrap (i26+1)) s27 (c28) (c29) (c30) r40.2)) none) (qgs k m b_l0 n (c21) b22 (c23) (c24) i25 (IntKind.i64.wrap (i26+1)) s27 (c28) (c29) (c30) H31)) (qgs k m b_l0 n (c21) b22 (c23) (c24) i25 (IntKind.i64.wrap (i26+1)) s27 (c28) (c29) (c30) H31))) ((qal (H31++[Entry.mk 4 [[Cell.str s27,c28,c29,c30]] 0 false]) 4 (.vs H31.length 4 0 1 0)).bind fun r49=>(app (H31++[Entry.mk 4 [[Cell.str s27,c28,c29,c30]] 0 false]) 4 88 (c24) r49).bind fun p50=>b_l0 (c21) b22 (c23) (p50.1) (IntKind.i64.wrap (i25+1)) p50.2)
def qqz (k m:Nat):Nat→Cell→Bool→Cell→Cell→Int→List Entry→Option Res | 0,_,_,_,_,_,_=>none | n+1,c6,b7,c8,c9,i10,H11=>(lenC c8).bind fun n12=>cond (decide (i10 < (n12:Int))) ((idxA 1 (c8) i10).bind fun c13=>(deref H11 (c13)).bind fun p14=>(cS p14.1 p14.2).bind fun s15=>(qne [.one (c6),.one (Cell.str s15)] H11).bind fun r16=>cond (qab qgoc r16.1) ((cS (qaa r16.1 0) 0).bind fun s17=>(cC (qaa r16.1 0) 1).bind fun c18=>(cC (qaa r16.1 0) 2).bind fun c19=>(cC (qaa r16.1 0) 3).bind fun c20=>qgs k m (qqz k m n) m (c6) b7 (c8) (c9) i10 0 s17 (c18) (c19) (c20) r16.2) none) (some ([.one (c9)],H11))
def fdr (k m:Nat)(c1:Cell)(b2:Bool)(H:List Entry):Option Res:=(qce [.one (c1),.one (Cell.int 4)] H).bind fun r3=>cond (qab qnq r3.1) ((cI .i64 (qaa r3.1 0) 0).bind fun i4=>(slcC 1 (.lst true 1 [[Cell.str (bs [97])],[Cell.str (bs [98])],[Cell.str (bs [99])],[Cell.str (bs [100])]]) 0 (some (IntKind.i64.wrap (1+i4))) none).bind fun c5=>qqz k m m (c1) b2 (c5) ((.vs r3.2.length 4 0 0 0)) 0 (r3.2++[Entry.mk 4 [] 0 false])) none
abbrev qwl (k m:Nat):TB:=evC qxw qfr (evF qxw (k+1)) m (sub [1,1,1,0,1,2,3] qfr.code) none
abbrev qqg (k m:Nat):TK:=qav 0 (seqK (evC qxw qfr (evF qxw (k+1)) m (sub [1,1,1,1] qfr.code) none) (retK qxw qfr))
abbrev qjjc (k m:Nat):TB:=evC qxw qfr (evF qxw (k+1)) m (sub [1,1,1,0,1,2,3,1,0,2,1,0,1,2,3] qfr.code) none
abbrev qiwc (k m:Nat)(n_l0:Nat):TK:=qav 2 (seqK (evC qxw qfr (evF qxw (k+1)) m (sub [1,1,1,0,1,2,3,1,0,2,1,1] qfr.code) none) (qav 1 (seqK (evC qxw qfr (evF qxw (k+1)) m (sub [1,1,1,0,1,2,3,1,1] qfr.code) none) (qktc (fun s=>qbo (some [0,1,5,6,7]) (qwl k m) (qqg k m) n_l0 (qvy (some [0,1,5,6,7]) s)) (qqg k m)))))
theorem qqqb (k m:Nat)(b_l0:Cell→Bool→Cell→Cell→Int→List Entry→Option Res)(n_l0:Nat)(h_l0:∀ (c6:Cell) (b7:Bool) (c8 c9:Cell) (i10:Int) (H11:List Entry),qbo (some [0,1,5,6,7]) (qwl k m) (qqg k m) n_l0 ⟨fT 67 0 [(0,.av (.one (c6))),(1,.av (.one (Cell.bool b7))),(5,.av (.one (c8))),(6,.av (.one (c9))),(7,.av (.one (Cell.int i10)))],fX 67 0 [],H11⟩=b_l0 c6 b7 c8 c9 i10 H11):∀ (n:Nat) (c21:Cell) (b22:Bool) (c23 c24:Cell) (i25 i26:Int) (s27:ByteArray) (c28 c29 c30:Cell) (H31:List Entry),qbo (some [0,1,5,6,7,8,9]) (qjjc k m) (qiwc k m n_l0) n ⟨fT 67 0 [(0,.av (.one (c21))),(1,.av (.one (Cell.bool b22))),(5,.av (.one (c23))),(6,.av (.one (c24))),(7,.av (.one (Cell.int i25))),(8,.loc 8 0),(9,.av (.one (Cell.int i26)))],fX 67 0 [(8,[Cell.str s27,c28,c29,c30])],H31⟩=qgs (k+1) m b_l0 n c21 b22 c23 c24 i25 i26 s27 c28 c29 c30 H31:=by
 intro n
 induction n with
 | zero=>intros;rfl
 | succ n ih=>intros;simp only[qgs,← h_l0,← ih];kernel_rfl
theorem qnub (k m:Nat):∀ (n:Nat) (c6:Cell) (b7:Bool) (c8 c9:Cell) (i10:Int) (H11:List Entry),qbo (some [0,1,5,6,7]) (qwl k m) (qqg k m) n ⟨fT 67 0 [(0,.av (.one (c6))),(1,.av (.one (Cell.bool b7))),(5,.av (.one (c8))),(6,.av (.one (c9))),(7,.av (.one (Cell.int i10)))],fX 67 0 [],H11⟩=qqz (k+1) m n c6 b7 c8 c9 i10 H11:=by
 intro n
 induction n with
 | zero=>intros;rfl
 | succ n ih=>intros;simp only[qqz,← qqqb k m _ _ (ih)];kernel_rfl
theorem qajc (k m:Nat)(c1:Cell)(b2:Bool)(H:List Entry):evC qxw qfr (evF qxw (k+1)) m qfr.code none (retK qxw qfr) (enter qfr [.one (c1),.one (Cell.bool b2)] H)=fdr (k+1) m c1 b2 H:=by
 simp only[fdr,← qnub k m]
 kernel_rfl
theorem qjsb {c1:Cell}{b2:Bool}{H:List Entry}{r:Res}(k:Nat)(h:fdr (k+1) (k+1) c1 b2 H=some r):qsz [.one (c1),.one (Cell.bool b2)] H=some r:=qap (k:=k+2) (Eq.trans (Eq.trans (by kernel_rfl) (qajc k (k+1) c1 b2 H)) h)
def qlbc:List (Nat×Run):=[]
def qweb:Ctx:=ctx qbg qbh qlbc
def qvd:Run:=lim qweb qzj
theorem ok_fbx:FnOk Tryz.prog OkT qzj qvd:=qan (l:=qlbc) qad tyTab_ok qae okT .nil qzj
def qevb (k m:Nat):Nat→Int→ByteArray→Option Res | 0,_,_=>none | n+1,i5,s6=>cond (decide (i5 > 9)) ((bytesOf [] (.lst true 1 [[.sc (.int .u8 (IntKind.u8.wrap (IntKind.i64.wrap (48+((IntKind.i64.wrap (i5.tdiv 10)).tmod 10)))))]])).bind fun s7=>(catS s7 s6).bind fun s8=>qevb k m n (IntKind.i64.wrap (i5.tdiv 10)) s8) (some ([.one (Cell.str s6)],[]))
def qhuc (k m:Nat):Nat→ByteArray→Option Res | 0,_=>none | n+1,s3=>some ([.one (Cell.str s3)],[])
def fbx (k m:Nat)(i1:Int):Option Res:=cond (decide (i1 < 0)) ((bytesOf [] (.lst true 1 [[.sc (.int .u8 (IntKind.u8.wrap (IntKind.i64.wrap (48+((0:Int).tmod 10)))))]])).bind fun s2=>qhuc k m m s2) ((bytesOf [] (.lst true 1 [[.sc (.int .u8 (IntKind.u8.wrap (IntKind.i64.wrap (48+(i1.tmod 10)))))]])).bind fun s4=>qevb k m m i1 s4)
abbrev qhbb (k m:Nat):TB:=evC qweb qmt (evF qweb (k+1)) m (sub [1,1,1,0,2,3] qmt.code) none
abbrev qjyb (k m:Nat):TK:=qav 0 (seqK (evC qweb qmt (evF qweb (k+1)) m (sub [1,1,1,1] qmt.code) none) (retK qweb qmt))
theorem qtrb (k m:Nat):∀ (n:Nat) (i5:Int) (s6:ByteArray),qbo (some [0,3]) (qhbb k m) (qjyb k m) n ⟨fT 25 0 [(0,.av (.one (Cell.int i5))),(3,.av (.one (Cell.str s6)))],fX 25 0 [],[]⟩=qevb (k+1) m n i5 s6:=by
 intro n
 induction n with
 | zero=>intros;rfl
 | succ n ih=>intros;simp only[qevb,← ih];kernel_rfl
theorem qnxb (k m:Nat):∀ (n:Nat) (s3:ByteArray),qbo (some [0,3]) (qhbb k m) (qjyb k m) n ⟨fT 25 0 [(0,.av (.one (Cell.int 0))),(3,.av (.one (Cell.str s3)))],fX 25 0 [],[]⟩=qhuc (k+1) m n s3:=by
 intro n
 induction n with
 | zero=>intros;rfl
 | succ n ih=>intros;simp only[qhuc];kernel_rfl
theorem qazc (k m:Nat)(i1:Int):evC qweb qmt (evF qweb (k+1)) m qmt.code none (retK qweb qmt) (enter qmt [.one (Cell.int i1)] [])=fbx (k+1) m i1:=by
 simp only[fbx,← qnxb k m,← qtrb k m]
 kernel_rfl
theorem qhgb {i1:Int}{r:Res}(k:Nat)(h:fbx (k+1) (k+1) i1=some r):qvd [.one (Cell.int i1)] []=some r:=qap (k:=k+2) (Eq.trans (Eq.trans (by kernel_rfl) (qazc k (k+1) i1)) h)
end
end Go.Ev
