/- What the evaluator says of the functions, each as a Lean function over cells. Printed by a program of this claim. Conditions: none. -/
import Derived.Test.YtfaiahlpefmgmaaEvPr
import Derived.KernelRfl
namespace Go.Ev
open Go Go.Proofs
noncomputable section
set_option maxRecDepth 100000
set_option linter.unusedVariables false
set_option linter.unusedSimpArgs false
def qmrb:List (Nat×Run):=[]
def qrbb:Ctx:=ctx qdy qdq qmrb
def qna:Run:=lim qrbb qrw
theorem ok_fau:FnOk Try.prog OkT qrw qna:=qbi (l:=qmrb) qam tyTab_ok qag okT .nil qrw
def fau (k m:Nat)(c1:Cell):Option Res:=(lenC c1).bind fun n2=>some ([.one (Cell.bool (decide ((n2:Int) > 1048576)))],[])
theorem qjeb (k m:Nat)(c1:Cell):evC qrbb qtx (evF qrbb (k+1)) m qtx.code none (retK qrbb qtx) (enter qtx [.one (c1)] [])=fau (k+1) m c1:=by
 kernel_rfl
theorem qxk {c1:Cell}{r:Res}(k:Nat)(h:fau (k+1) (k+1) c1=some r):qna [.one (c1)] []=some r:=qbh (k:=k+2) (Eq.trans (Eq.trans (by kernel_rfl) (qjeb k (k+1) c1)) h)
def qpvb:List (Nat×Run):=[]
def qbcb:Ctx:=ctx qdy qdq qpvb
def qpn:Run:=lim qbcb qsq
theorem ok_fbh:FnOk Try.prog OkT qsq qpn:=qbi (l:=qpvb) qam tyTab_ok qag okT .nil qsq
def qqk (k m:Nat):Nat→Cell→Int→Int→List Entry→Option Res | 0,_,_,_,_=>none | n+1,c3,i4,i5,H6=>(lenC c3).bind fun n7=>cond (decide (i5 < (n7:Int))) (cond (decide (i5 < 4000)) ((idxA 1 (c3) i5).bind fun c8=>(deref H6 (c8)).bind fun p9=>(cI .u8 p9.1 p9.2).bind fun i10=>qqk k m n (c3) (andI .i64 (IntKind.i64.wrap ((IntKind.i64.wrap ((IntKind.i64.wrap (i4*137))+(IntKind.i64.wrap i10)))+11)) 1073741823) (IntKind.i64.wrap (i5+1)) H6) (some ([.one (.ptr H6.length 3 0 0 0)],(H6++[Entry.mk 3 [[c3,Cell.int 0,Cell.int i4]] 0 false])))) (some ([.one (.ptr H6.length 3 0 0 0)],(H6++[Entry.mk 3 [[c3,Cell.int 0,Cell.int i4]] 0 false])))
def fbh (k m:Nat)(c1:Cell)(H:List Entry):Option Res:=(lenC c1).bind fun n2=>qqk k m m (c1) (IntKind.i64.wrap (778778+(n2:Int))) 0 H
abbrev qhvb (k m:Nat):TB:=evC qbcb qjs (evF qbcb (k+1)) m (sub [1,1,0,1,2,3] qjs.code) none
abbrev qiyb (k m:Nat):TK:=qbb 0 (seqK (evC qbcb qjs (evF qbcb (k+1)) m (sub [1,1,1] qjs.code) none) (retK qbcb qjs))
theorem qbhb (k m:Nat):∀ (n:Nat) (c3:Cell) (i4 i5:Int) (H6:List Entry),qbz (some [0,3,4]) (qhvb k m) (qiyb k m) n ⟨fT 32 0 [(0,.av (.one (c3))),(3,.av (.one (Cell.int i4))),(4,.av (.one (Cell.int i5)))],fX 32 0 [],H6⟩=qqk (k+1) m n c3 i4 i5 H6:=by
 intro n
 induction n with
 | zero=>intros;rfl
 | succ n ih=>intros;simp only[qqk,← ih];kernel_rfl
theorem qggb (k m:Nat)(c1:Cell)(H:List Entry):evC qbcb qjs (evF qbcb (k+1)) m qjs.code none (retK qbcb qjs) (enter qjs [.one (c1)] H)=fbh (k+1) m c1 H:=by
 simp only[fbh,← qbhb k m]
 kernel_rfl
theorem qwy {c1:Cell}{H:List Entry}{r:Res}(k:Nat)(h:fbh (k+1) (k+1) c1 H=some r):qpn [.one (c1)] H=some r:=qbh (k:=k+2) (Eq.trans (Eq.trans (by kernel_rfl) (qggb k (k+1) c1 H)) h)
def qpob:List (Nat×Run):=[]
def qqxb:Ctx:=ctx qdy qdq qpob
def qhs:Run:=lim qqxb qst
theorem ok_fbg:FnOk Try.prog OkT qst qhs:=qbi (l:=qpob) qam tyTab_ok qag okT .nil qst
def fbg (k m:Nat)(c1:Cell)(H:List Entry):Option Res:=(ptrC c1).bind fun c2=>(fldA c2 2).bind fun c3=>(deref H (c3)).bind fun p4=>(cI .i64 p4.1 p4.2).bind fun i5=>(ptrC c1).bind fun c6=>(fldA c6 2).bind fun c7=>(qeg H (c7) [Cell.int (IntKind.i64.wrap ((IntKind.i64.wrap (i5*6364136223846793005))+1442695040888963407))]).bind fun h8=>(ptrC c1).bind fun c9=>(fldA c9 2).bind fun c10=>(deref h8 (c10)).bind fun p11=>(cI .i64 p11.1 p11.2).bind fun i12=>(ptrC c1).bind fun c13=>(fldA c13 2).bind fun c14=>(deref h8 (c14)).bind fun p15=>(cI .i64 p15.1 p15.2).bind fun i16=>(ptrC c1).bind fun c17=>(fldA c17 1).bind fun c18=>(deref h8 (c18)).bind fun p19=>(cI .i64 p19.1 p19.2).bind fun i20=>(ptrC c1).bind fun c21=>(fldA c21 0).bind fun c22=>(deref h8 (c22)).bind fun p23=>(cC p23.1 p23.2).bind fun c24=>(lenC c24).bind fun n25=>cond (decide (i20 < (n25:Int))) ((ptrC c1).bind fun c26=>(fldA c26 0).bind fun c27=>(deref h8 (c27)).bind fun p28=>(cC p28.1 p28.2).bind fun c29=>(ptrC c1).bind fun c30=>(fldA c30 1).bind fun c31=>(deref h8 (c31)).bind fun p32=>(cI .i64 p32.1 p32.2).bind fun i33=>(idxA 1 (c29) i33).bind fun c34=>(deref h8 (c34)).bind fun p35=>(cI .u8 p35.1 p35.2).bind fun i36=>(ptrC c1).bind fun c37=>(fldA c37 1).bind fun c38=>(deref h8 (c38)).bind fun p39=>(cI .i64 p39.1 p39.2).bind fun i40=>(ptrC c1).bind fun c41=>(fldA c41 1).bind fun c42=>(qeg h8 (c42) [Cell.int (IntKind.i64.wrap (i40+1))]).bind fun h43=>some ([.one (Cell.int (andI .i64 (IntKind.i64.wrap ((andI .i64 (xorI .i64 (shrI .i64 i12 33) (shrI .i64 i16 47)) 255)+(IntKind.i64.wrap i36))) 255))],h43)) (some ([.one (Cell.int (andI .i64 (xorI .i64 (shrI .i64 i12 33) (shrI .i64 i16 47)) 255))],h8))
theorem qhlb (k m:Nat)(c1:Cell)(H:List Entry):evC qqxb qui (evF qqxb (k+1)) m qui.code none (retK qqxb qui) (enter qui [.one (c1)] H)=fbg (k+1) m c1 H:=by
 kernel_rfl
theorem qoh {c1:Cell}{H:List Entry}{r:Res}(k:Nat)(h:fbg (k+1) (k+1) c1 H=some r):qhs [.one (c1)] H=some r:=qbh (k:=k+2) (Eq.trans (Eq.trans (by kernel_rfl) (qhlb k (k+1) c1 H)) h)
def qpab:List (Nat×Run):=[(qst,qhs)]
def qqnb:Ctx:=ctx qdy qdq qpab
def qdx:Run:=lim qqnb qhv
theorem qwm:FnOk Try.prog OkT qhv qdx:=qbi (l:=qpab) qam tyTab_ok qag okT (.cons ok_fbg .nil) qhv
def fbf (k m:Nat)(c1:Cell)(i2:Int)(H:List Entry):Option Res:=cond (decide (i2≤0)) (some ([.one (Cell.int 0)],H)) (cond (decide (i2≤256)) ((qhs [.one (c1)] H).bind fun r3=>cond (qaa qyw r3.1) ((cI .i64 (qab r3.1 0) 0).bind fun i4=>if i2=0 then none else some ([.one (Cell.int (i4.tmod i2))],r3.2)) none) ((qhs [.one (c1)] H).bind fun r5=>cond (qaa qyw r5.1) ((cI .i64 (qab r5.1 0) 0).bind fun i6=>(qhs [.one (c1)] r5.2).bind fun r7=>cond (qaa qyw r7.1) ((cI .i64 (qab r7.1 0) 0).bind fun i8=>(qhs [.one (c1)] r7.2).bind fun r9=>cond (qaa qyw r9.1) ((cI .i64 (qab r9.1 0) 0).bind fun i10=>if i2=0 then none else some ([.one (Cell.int ((IntKind.i64.wrap ((IntKind.i64.wrap ((IntKind.i64.wrap (i6*65536))+(IntKind.i64.wrap (i8*256))))+i10)).tmod i2))],r9.2)) none) none) none))
theorem qirb (k m:Nat)(c1:Cell)(i2:Int)(H:List Entry):evC qqnb qty (evF qqnb (k+1)) m qty.code none (retK qqnb qty) (enter qty [.one (c1),.one (Cell.int i2)] H)=fbf (k+1) m c1 i2 H:=by
 kernel_rfl
theorem qmz {c1:Cell}{i2:Int}{H:List Entry}{r:Res}(k:Nat)(h:fbf (k+1) (k+1) c1 i2 H=some r):qdx [.one (c1),.one (Cell.int i2)] H=some r:=qbh (k:=k+2) (Eq.trans (Eq.trans (by kernel_rfl) (qirb k (k+1) c1 i2 H)) h)
def qpub:List (Nat×Run):=[(qhv,qdx)]
def qqrb:Ctx:=ctx qdy qdq qpub
def qer:Run:=lim qqrb qkz
theorem qgib:FnOk Try.prog OkT qkz qer:=qbi (l:=qpub) qam tyTab_ok qag okT (.cons qwm .nil) qkz
def fbi (k m:Nat)(c1:Cell)(i2:Int)(H:List Entry):Option Res:=(qdx [.one (c1),.one (Cell.int i2)] H).bind fun r3=>cond (qaa qvh r3.1) ((cI .i64 (qab r3.1 0) 0).bind fun i4=>some ([.one (Cell.bool (i4==0))],r3.2)) none
theorem qkbb (k m:Nat)(c1:Cell)(i2:Int)(H:List Entry):evC qqrb qvq (evF qqrb (k+1)) m qvq.code none (retK qqrb qvq) (enter qvq [.one (c1),.one (Cell.int i2)] H)=fbi (k+1) m c1 i2 H:=by
 kernel_rfl
theorem qwt {c1:Cell}{i2:Int}{H:List Entry}{r:Res}(k:Nat)(h:fbi (k+1) (k+1) c1 i2 H=some r):qer [.one (c1),.one (Cell.int i2)] H=some r:=qbh (k:=k+2) (Eq.trans (Eq.trans (by kernel_rfl) (qkbb k (k+1) c1 i2 H)) h)
def qnxb:List (Nat×Run):=[(qhv,qdx)]
def qqob:Ctx:=ctx qdy qdq qnxb
def qfb:Run:=lim qqob qkl
theorem qkkb:FnOk Try.prog OkT qkl qfb:=qbi (l:=qnxb) qam tyTab_ok qag okT (.cons qwm .nil) qkl
def fbj (k m:Nat)(c1 c2:Cell)(H:List Entry):Option Res:=(lenC c2).bind fun n3=>(qdx [.one (c1),.one (Cell.int (n3:Int))] H).bind fun r4=>cond (qaa qvh r4.1) ((cI .i64 (qab r4.1 0) 0).bind fun i5=>(idxA 1 (c2) i5).bind fun c6=>(deref r4.2 (c6)).bind fun p7=>(cS p7.1 p7.2).bind fun s8=>some ([.one (Cell.str s8)],r4.2)) none
theorem qfub (k m:Nat)(c1 c2:Cell)(H:List Entry):evC qqob qvj (evF qqob (k+1)) m qvj.code none (retK qqob qvj) (enter qvj [.one (c1),.one (c2)] H)=fbj (k+1) m c1 c2 H:=by
 kernel_rfl
theorem qps {c1 c2:Cell}{H:List Entry}{r:Res}(k:Nat)(h:fbj (k+1) (k+1) c1 c2 H=some r):qfb [.one (c1),.one (c2)] H=some r:=qbh (k:=k+2) (Eq.trans (Eq.trans (by kernel_rfl) (qfub k (k+1) c1 c2 H)) h)
def qlwb:List (Nat×Run):=[(qkl,qfb)]
def qqvb:Ctx:=ctx qdy qdq qlwb
def qnw:Run:=lim qqvb qsf
theorem ok_fbn:FnOk Try.prog OkT qsf qnw:=qbi (l:=qlwb) qam tyTab_ok qag okT (.cons qkkb .nil) qsf
def fbn (k m:Nat)(c1:Cell)(H:List Entry):Option Res:=(qfb [.one (c1),.one (.lst true 1 [[Cell.str (bs [108,105,98])],[Cell.str (bs [108,111,103])],[Cell.str (bs [110,101,116])],[Cell.str (bs [122,105,112])]])] H).bind fun r2=>cond (qaa qwv r2.1) ((cS (qab r2.1 0) 0).bind fun s3=>(qfb [.one (c1),.one (.lst true 1 [[Cell.str (bs [42])],[Cell.str (bs [94,49,46,48,46,48])],[Cell.str (bs [126,49,46,49])],[Cell.str (bs [62,61,49])],[Cell.str (bs [60,50])],[Cell.str (bs [49,46,120])],[Cell.str (bs [48,46,120,32,124,124,32,50,46,120])],[Cell.str (bs [94,48,46,49,46,48])]])] r2.2).bind fun r4=>cond (qaa qwv r4.1) ((cS (qab r4.1 0) 0).bind fun s5=>some ([.agg [Cell.str s3,Cell.str s5]],r4.2)) none) none
theorem qkhb (k m:Nat)(c1:Cell)(H:List Entry):evC qqvb qva (evF qqvb (k+1)) m qva.code none (retK qqvb qva) (enter qva [.one (c1)] H)=fbn (k+1) m c1 H:=by
 kernel_rfl
theorem qzq {c1:Cell}{H:List Entry}{r:Res}(k:Nat)(h:fbn (k+1) (k+1) c1 H=some r):qnw [.one (c1)] H=some r:=qbh (k:=k+2) (Eq.trans (Eq.trans (by kernel_rfl) (qkhb k (k+1) c1 H)) h)
def qlfb:List (Nat×Run):=[(qhv,qdx),(qsf,qnw)]
def qpv:Ctx:=ctx qdy qdq qlfb
def qmx:Run:=lim qpv qsd
theorem ok_fbm:FnOk Try.prog OkT qsd qmx:=qbi (l:=qlfb) qam tyTab_ok qag okT (.cons qwm (.cons ok_fbn .nil)) qsd
def qrf (k m:Nat)(b_l0:Cell→Cell→Int→List Entry→Option Res):Nat→Cell→Cell→Int→Int→ByteArray→ByteArray→List Entry→Option Res | 0,_,_,_,_,_,_,_=>none | n+1,c11,c12,i13,i14,s15,s16,H17=>(lenC c12).bind fun n18=>cond (decide (i14 < (n18:Int))) ((idxA 2 (c12) i14).bind fun c19=>(fldA c19 0).bind fun c20=>(deref H17 (c20)).bind fun p21=>(cS p21.1 p21.2).bind fun s22=>cond (Op.bytesLess s22.toList s15.toList) (qrf k m b_l0 n (c11) (c12) i13 (IntKind.i64.wrap (i14+1)) s15 s16 H17) ((lenC c12).bind fun n23=>cond (i14==(n23:Int)) ((slcC 2 (c12) i14 none none).bind fun c24=>(qaf H17 2 c24).bind fun r25=>(app H17 2 32 (.lst true 2 []) r25).bind fun p26=>(slcC 2 (c12) 0 (some i14) none).bind fun c27=>(qaf p26.2 2 c27).bind fun r28=>(app p26.2 2 32 (.lst true 2 []) r28).bind fun p29=>(app p29.2 2 32 (p29.1) [[Cell.str s15,Cell.str s16]]).bind fun p30=>(qaf p30.2 2 p26.1).bind fun r31=>(app p30.2 2 32 (p30.1) r31).bind fun p32=>b_l0 (c11) (p32.1) (IntKind.i64.wrap (i13 - 1)) p32.2) ((idxA 2 (c12) i14).bind fun c33=>(fldA c33 0).bind fun c34=>(deref H17 (c34)).bind fun p35=>(cS p35.1 p35.2).bind fun s36=>cond (!(s36.toList==s15.toList)) ((slcC 2 (c12) i14 none none).bind fun c37=>(qaf H17 2 c37).bind fun r38=>(app H17 2 32 (.lst true 2 []) r38).bind fun p39=>(slcC 2 (c12) 0 (some i14) none).bind fun c40=>(qaf p39.2 2 c40).bind fun r41=>(app p39.2 2 32 (.lst true 2 []) r41).bind fun p42=>(app p42.2 2 32 (p42.1) [[Cell.str s15,Cell.str s16]]).bind fun p43=>(qaf p43.2 2 p39.1).bind fun r44=>(app p43.2 2 32 (p43.1) r44).bind fun p45=>b_l0 (c11) (p45.1) (IntKind.i64.wrap (i13 - 1)) p45.2) (b_l0 (c11) (c12) (IntKind.i64.wrap (i13 - 1)) H17)))) ((lenC c12).bind fun n46=>cond (i14==(n46:Int)) ((slcC 2 (c12) i14 none none).bind fun c47=>(qaf H17 2 c47).bind fun r48=>(app H17 2 32 (.lst true 2 []) r48).bind fun p49=>(slcC 2 (c12) 0 (some i14) none).bind fun c50=>(qaf p49.2 2 c50).bind fun r51=>(app p49.2 2 32 (.lst true 2 []) r51).bind fun p52=>(app p52.2 2 32 (p52.1) [[Cell.str s15,Cell.str s16]]).bind fun p53=>(qaf p53.2 2 p49.1).bind fun r54=>(app p53.2 2 32 (p53.1) r54).bind fun p55=>b_l0 (c11) (p55.1) (IntKind.i64.wrap (i13 - 1)) p55.2) ((idxA 2 (c12) i14).bind fun c56=>(fldA c56 0).bind fun c57=>(deref H17 (c57)).bind fun p58=>(cS p58.1 p58.2).bind fun s59=>cond (!(s59.toList==s15.toList)) ((slcC 2 (c12) i14 none none).bind fun c60=>(qaf H17 2 c60).bind fun r61=>(app H17 2 32 (.lst true 2 []) r61).bind fun p62=>(slcC 2 (c12) 0 (some i14) none).bind fun c63=>(qaf p62.2 2 c63).bind fun r64=>(app p62.2 2 32 (.lst true 2 []) r64).bind fun p65=>(app p65.2 2 32 (p65.1) [[Cell.str s15,Cell.str s16]]).bind fun p66=>(qaf p66.2 2 p62.1).bind fun r67=>(app p66.2 2 32 (p66.1) r67).bind fun p68=>b_l0 (c11) (p68.1) (IntKind.i64.wrap (i13 - 1)) p68.2) (b_l0 (c11) (c12) (IntKind.i64.wrap (i13 - 1)) H17)))
def qnx (k m:Nat):Nat→Cell→Cell→Int→List Entry→Option Res | 0,_,_,_,_=>none | n+1,c4,c5,i6,H7=>cond (decide (i6 > 0)) ((qnw [.one (c4)] H7).bind fun r8=>cond (qaa qnlb r8.1) ((cS (qab r8.1 0) 0).bind fun s9=>(cS (qab r8.1 0) 1).bind fun s10=>qrf k m (qnx k m n) m (c4) (c5) i6 0 s9 s10 r8.2) none) (some ([.one (c5)],H7))
def fbm (k m:Nat)(c1:Cell)(H:List Entry):Option Res:=(qdx [.one (c1),.one (Cell.int 3)] H).bind fun r2=>cond (qaa qvh r2.1) ((cI .i64 (qab r2.1 0) 0).bind fun i3=>qnx k m m (c1) (.lst true 2 []) i3 r2.2) none
abbrev qqu (k m:Nat):TB:=evC qpv qes (evF qpv (k+1)) m (sub [1,1,0,1,2,3] qes.code) none
abbrev qlm (k m:Nat):TK:=qbb 0 (seqK (evC qpv qes (evF qpv (k+1)) m (sub [1,1,1] qes.code) none) (retK qpv qes))
abbrev qiwb (k m:Nat):TB:=evC qpv qes (evF qpv (k+1)) m (sub [1,1,0,1,2,3,1,0,2,1,1,0,2,3] qes.code) none
abbrev qjyb (k m:Nat)(n_l0:Nat):TK:=qbb 2 (seqK (evC qpv qes (evF qpv (k+1)) m (sub [1,1,0,1,2,3,1,0,2,1,1,1] qes.code) none) (qbb 1 (seqK (evC qpv qes (evF qpv (k+1)) m (sub [1,1,0,1,2,3,1,1] qes.code) none) (qwz (fun s=>qbz (some [0,3,4]) (qqu k m) (qlm k m) n_l0 (qkd (some [0,3,4]) s)) (qlm k m)))))
theorem qcdb (k m:Nat)(b_l0:Cell→Cell→Int→List Entry→Option Res)(n_l0:Nat)(h_l0:∀ (c4 c5:Cell) (i6:Int) (H7:List Entry),qbz (some [0,3,4]) (qqu k m) (qlm k m) n_l0 ⟨fT 63 0 [(0,.av (.one (c4))),(3,.av (.one (c5))),(4,.av (.one (Cell.int i6)))],fX 63 0 [],H7⟩=b_l0 c4 c5 i6 H7):∀ (n:Nat) (c11 c12:Cell) (i13 i14:Int) (s15 s16:ByteArray) (H17:List Entry),qbz (some [0,3,4,5,6]) (qiwb k m) (qjyb k m n_l0) n ⟨fT 63 0 [(0,.av (.one (c11))),(3,.av (.one (c12))),(4,.av (.one (Cell.int i13))),(5,.loc 5 0),(6,.av (.one (Cell.int i14)))],fX 63 0 [(5,[Cell.str s15,Cell.str s16])],H17⟩=qrf (k+1) m b_l0 n c11 c12 i13 i14 s15 s16 H17:=by
 intro n
 induction n with
 | zero=>intros;rfl
 | succ n ih=>intros;simp only[qrf,← h_l0,← ih];kernel_rfl
theorem qcsb (k m:Nat):∀ (n:Nat) (c4 c5:Cell) (i6:Int) (H7:List Entry),qbz (some [0,3,4]) (qqu k m) (qlm k m) n ⟨fT 63 0 [(0,.av (.one (c4))),(3,.av (.one (c5))),(4,.av (.one (Cell.int i6)))],fX 63 0 [],H7⟩=qnx (k+1) m n c4 c5 i6 H7:=by
 intro n
 induction n with
 | zero=>intros;rfl
 | succ n ih=>intros;simp only[qnx,← qcdb k m _ _ (ih)];kernel_rfl
theorem qkpb (k m:Nat)(c1:Cell)(H:List Entry):evC qpv qes (evF qpv (k+1)) m qes.code none (retK qpv qes) (enter qes [.one (c1)] H)=fbm (k+1) m c1 H:=by
 simp only[fbm,← qcsb k m]
 kernel_rfl
theorem qzm {c1:Cell}{H:List Entry}{r:Res}(k:Nat)(h:fbm (k+1) (k+1) c1 H=some r):qmx [.one (c1)] H=some r:=qbh (k:=k+2) (Eq.trans (Eq.trans (by kernel_rfl) (qkpb k (k+1) c1 H)) h)
def qmgb:List (Nat×Run):=[(qkl,qfb)]
def qqsb:Ctx:=ctx qdy qdq qmgb
def qpe:Run:=lim qqsb qtq
theorem ok_fbk:FnOk Try.prog OkT qtq qpe:=qbi (l:=qmgb) qam tyTab_ok qag okT (.cons qkkb .nil) qtq
def fbk (k m:Nat)(c1:Cell)(s2:ByteArray)(H:List Entry):Option Res:=(catS (bs [99,97,116,32]) s2).bind fun s3=>(catS s3 (bs [47,120,32,62,32,111])).bind fun s4=>(catS (bs [99,97,116,32]) s2).bind fun s5=>(catS s5 (bs [47,120,32])).bind fun s6=>(catS s6 s2).bind fun s7=>(catS s7 (bs [47,121,32,62,32,112])).bind fun s8=>(qfb [.one (c1),.one (.lst true 1 [[Cell.str (bs [112,117,116,32,104,105,32,62,32,111])],[Cell.str s4],[Cell.str s8],[Cell.str (bs [101,110,118,32,109,111,100,101,32,62,32,101])],[Cell.str (bs [117,115,101,32,97,35,98,117,105,108,100,32,111,32,62,32,113])],[Cell.str (bs [117,115,101,32,98,35,98,117,105,108,100,32,111,32,62,32,113])],[Cell.str (bs [108,111,103,32,100,111,110,101])],[Cell.str (bs [108,111,103,32,120,32,121])],[Cell.str (bs [102,97,105,108])],[Cell.str (bs [119,104,97,116])],[Cell.str (bs [112,117,116,32,62,32,114])]])] H).bind fun r9=>cond (qaa qwv r9.1) ((cS (qab r9.1 0) 0).bind fun s10=>some ([.one (Cell.str s10)],r9.2)) none
theorem qjsb (k m:Nat)(c1:Cell)(s2:ByteArray)(H:List Entry):evC qqsb qve (evF qqsb (k+1)) m qve.code none (retK qqsb qve) (enter qve [.one (c1),.one (Cell.str s2)] H)=fbk (k+1) m c1 s2 H:=by
 kernel_rfl
theorem qxq {c1:Cell}{s2:ByteArray}{H:List Entry}{r:Res}(k:Nat)(h:fbk (k+1) (k+1) c1 s2 H=some r):qpe [.one (c1),.one (Cell.str s2)] H=some r:=qbh (k:=k+2) (Eq.trans (Eq.trans (by kernel_rfl) (qjsb k (k+1) c1 s2 H)) h)
def qmvb:List (Nat×Run):=[(qhv,qdx),(qkl,qfb),(qtq,qpe)]
def qedb:Ctx:=ctx qdy qdq qmvb
def qis:Run:=lim qedb qsp
theorem ok_fbl:FnOk Try.prog OkT qsp qis:=qbi (l:=qmvb) qam tyTab_ok qag okT (.cons qwm (.cons qkkb (.cons ok_fbk .nil))) qsp
def qqm (k m:Nat):Nat→Cell→ByteArray→Int→ByteArray→Cell→List Entry→Option Res | 0,_,_,_,_,_,_=>none | n+1,c11,s12,i13,s14,c15,H16=>cond (decide (i13 > 0)) ((qpe [.one (c11),.one (Cell.str s12)] H16).bind fun r17=>cond (qaa qnnb r17.1) ((cS (qab r17.1 0) 0).bind fun s18=>(qaf (r17.2++[Entry.mk 1 [[Cell.str s18]] 0 false]) 1 (.vs r17.2.length 1 0 1 0)).bind fun r19=>(app (r17.2++[Entry.mk 1 [[Cell.str s18]] 0 false]) 1 16 (c15) r19).bind fun p20=>qqm k m n (c11) s12 (IntKind.i64.wrap (i13 - 1)) s14 (p20.1) p20.2) none) (some ([.agg [Cell.str s14,c15]],H16))
def fbl (k m:Nat)(c1:Cell)(s2 s3:ByteArray)(H:List Entry):Option Res:=(catS (bs [99,97,116,32]) s2).bind fun s4=>(catS s4 (bs [47,120,32,62,32,111])).bind fun s5=>(catS (bs [108,111,103,32]) s3).bind fun s6=>(qfb [.one (c1),.one ((.vs H.length 1 0 3 0))] (H++[Entry.mk 1 [[Cell.str (bs [112,117,116,32,104,105,32,62,32,111])],[Cell.str s5],[Cell.str s6]] 0 false])).bind fun r7=>cond (qaa qwv r7.1) ((cS (qab r7.1 0) 0).bind fun s8=>(qdx [.one (c1),.one (Cell.int 3)] (r7.2++[Entry.mk 1 [[Cell.str s8]] 0 false])).bind fun r9=>cond (qaa qvh r9.1) ((cI .i64 (qab r9.1 0) 0).bind fun i10=>qqm k m m (c1) s2 i10 s3 ((.vs r7.2.length 1 0 1 0)) r9.2) none) none
abbrev qimb (k m:Nat):TB:=evC qedb qjv (evF qedb (k+1)) m (sub [1,1,0,1,2,3] qjv.code) none
abbrev qgyb (k m:Nat):TK:=qbb 0 (seqK (evC qedb qjv (evF qedb (k+1)) m (sub [1,1,1] qjv.code) none) (retK qedb qjv))
theorem qeab (k m:Nat):∀ (n:Nat) (c11:Cell) (s12:ByteArray) (i13:Int) (s14:ByteArray) (c15:Cell) (H16:List Entry),qbz (some [0,1,6,7,8]) (qimb k m) (qgyb k m) n ⟨fT 35 0 [(0,.av (.one (c11))),(1,.av (.one (Cell.str s12))),(6,.loc 6 0),(7,.loc 7 0),(8,.av (.one (Cell.int i13)))],fX 35 0 [(6,[Cell.str (bs []),.lst true 1 []]),(7,[Cell.str s14,c15])],H16⟩=qqm (k+1) m n c11 s12 i13 s14 c15 H16:=by
 intro n
 induction n with
 | zero=>intros;rfl
 | succ n ih=>intros;simp only[qqm,← ih];kernel_rfl
theorem qhcb (k m:Nat)(c1:Cell)(s2 s3:ByteArray)(H:List Entry):evC qedb qjv (evF qedb (k+1)) m qjv.code none (retK qedb qjv) (enter qjv [.one (c1),.one (Cell.str s2),.one (Cell.str s3)] H)=fbl (k+1) m c1 s2 s3 H:=by
 simp only[fbl,← qeab k m]
 kernel_rfl
theorem qyu {c1:Cell}{s2 s3:ByteArray}{H:List Entry}{r:Res}(k:Nat)(h:fbl (k+1) (k+1) c1 s2 s3 H=some r):qis [.one (c1),.one (Cell.str s2),.one (Cell.str s3)] H=some r:=qbh (k:=k+2) (Eq.trans (Eq.trans (by kernel_rfl) (qhcb k (k+1) c1 s2 s3 H)) h)
def qmxb:List (Nat×Run):=[(qkz,qer),(qsd,qmx),(qsp,qis)]
def qcub:Ctx:=ctx qdy qdq qmxb
def qnc:Run:=lim qcub qrq
theorem ok_fbo:FnOk Try.prog OkT qrq qnc:=qbi (l:=qmxb) qam tyTab_ok qag okT (.cons qgib (.cons ok_fbm (.cons ok_fbl .nil))) qrq
def qie (k m:Nat):Nat→Cell→ByteArray→Int→ByteArray→Cell→Cell→List Entry→Option Res | 0,_,_,_,_,_,_,_=>none | n+1,c5,s6,i7,s8,c9,c10,H11=>cond (decide (i7 < 3)) ((idxA 1 (.lst true 1 [[Cell.str (bs [98,117,105,108,100])],[Cell.str (bs [108,105,110,116])],[Cell.str (bs [116,101,115,116])]]) i7).bind fun c12=>(deref H11 (c12)).bind fun p13=>(cS p13.1 p13.2).bind fun s14=>(qer [.one (c5),.one (Cell.int 2)] H11).bind fun r15=>cond (qaa quu r15.1) ((cB (qab r15.1 0) 0).bind fun b16=>cond b16 ((qis [.one (c5),.one (Cell.str s6),.one (Cell.str s14)] r15.2).bind fun r17=>cond (qaa qeeb r17.1) ((cS (qab r17.1 0) 0).bind fun s18=>(cC (qab r17.1 0) 1).bind fun c19=>(qaf (r17.2++[Entry.mk 2 [[Cell.str s18,c19]] 0 false]) 2 (.vs r17.2.length 2 0 1 0)).bind fun r20=>(app (r17.2++[Entry.mk 2 [[Cell.str s18,c19]] 0 false]) 2 40 (c10) r20).bind fun p21=>qie k m n (c5) s6 (IntKind.i64.wrap (i7+1)) s8 (c9) (p21.1) p21.2) none) (cond (i7==0) ((qis [.one (c5),.one (Cell.str s6),.one (Cell.str s14)] r15.2).bind fun r22=>cond (qaa qeeb r22.1) ((cS (qab r22.1 0) 0).bind fun s23=>(cC (qab r22.1 0) 1).bind fun c24=>(qaf (r22.2++[Entry.mk 2 [[Cell.str s23,c24]] 0 false]) 2 (.vs r22.2.length 2 0 1 0)).bind fun r25=>(app (r22.2++[Entry.mk 2 [[Cell.str s23,c24]] 0 false]) 2 40 (c10) r25).bind fun p26=>qie k m n (c5) s6 (IntKind.i64.wrap (i7+1)) s8 (c9) (p26.1) p26.2) none) (qie k m n (c5) s6 (IntKind.i64.wrap (i7+1)) s8 (c9) (c10) r15.2))) none) (some ([.agg [Cell.str s8,.lst true 1 [],c9,c10]],H11))
def fbo (k m:Nat)(c1:Cell)(s2:ByteArray)(H:List Entry):Option Res:=(qmx [.one (c1)] H).bind fun r3=>cond (qaa qnjb r3.1) ((cC (qab r3.1 0) 0).bind fun c4=>qie k m m (c1) s2 0 s2 (c4) (.lst true 2 []) r3.2) none
abbrev qiub (k m:Nat):TB:=evC qcub qiu (evF qcub (k+1)) m (sub [1,1,0,1,2,3] qiu.code) none
abbrev qgsb (k m:Nat):TK:=qbb 0 (seqK (evC qcub qiu (evF qcub (k+1)) m (sub [1,1,1] qiu.code) none) (retK qcub qiu))
theorem qchb (k m:Nat):∀ (n:Nat) (c5:Cell) (s6:ByteArray) (i7:Int) (s8:ByteArray) (c9 c10:Cell) (H11:List Entry),qbz (some [0,1,4,5,6]) (qiub k m) (qgsb k m) n ⟨fT 36 0 [(0,.av (.one (c5))),(1,.av (.one (Cell.str s6))),(4,.loc 4 0),(5,.loc 5 0),(6,.av (.one (Cell.int i7)))],fX 36 0 [(4,[Cell.str (bs []),.lst true 1 [],.lst true 2 [],.lst true 2 []]),(5,[Cell.str s8,.lst true 1 [],c9,c10])],H11⟩=qie (k+1) m n c5 s6 i7 s8 c9 c10 H11:=by
 intro n
 induction n with
 | zero=>intros;rfl
 | succ n ih=>intros;simp only[qie,← ih];kernel_rfl
theorem qjpb (k m:Nat)(c1:Cell)(s2:ByteArray)(H:List Entry):evC qcub qiu (evF qcub (k+1)) m qiu.code none (retK qcub qiu) (enter qiu [.one (c1),.one (Cell.str s2)] H)=fbo (k+1) m c1 s2 H:=by
 simp only[fbo,← qchb k m]
 kernel_rfl
theorem qyb {c1:Cell}{s2:ByteArray}{H:List Entry}{r:Res}(k:Nat)(h:fbo (k+1) (k+1) c1 s2 H=some r):qnc [.one (c1),.one (Cell.str s2)] H=some r:=qbh (k:=k+2) (Eq.trans (Eq.trans (by kernel_rfl) (qjpb k (k+1) c1 s2 H)) h)
def qolb:List (Nat×Run):=[(qkz,qer),(qhv,qdx),(qrq,qnc)]
def qqq:Ctx:=ctx qdy qdq qolb
def qnj:Run:=lim qqq qtk
theorem ok_fbp:FnOk Try.prog OkT qtk qnj:=qbi (l:=qolb) qam tyTab_ok qag okT (.cons qgib (.cons qwm (.cons ok_fbo .nil))) qtk
def qga (k m:Nat)(b_l0:Cell→Bool→Cell→Cell→Int→List Entry→Option Res):Nat→Cell→Bool→Cell→Cell→Int→Int→ByteArray→Cell→Cell→Cell→List Entry→Option Res | 0,_,_,_,_,_,_,_,_,_,_,_=>none | n+1,c21,b22,c23,c24,i25,i26,s27,c28,c29,c30,H31=>(lenC c23).bind fun n32=>cond (decide (i26 < (n32:Int))) (cond (decide (i26 < i25)) ((qer [.one (c21),.one (Cell.int 2)] H31).bind fun r33=>cond (qaa quu r33.1) ((cB (qab r33.1 0) 0).bind fun b34=>cond b34 ((idxA 1 (c23) i26).bind fun c35=>(deref r33.2 (c35)).bind fun p36=>(cS p36.1 p36.2).bind fun s37=>(qaf (r33.2++[Entry.mk 1 [[Cell.str s37]] 0 false]) 1 (.vs r33.2.length 1 0 1 0)).bind fun r38=>(app (r33.2++[Entry.mk 1 [[Cell.str s37]] 0 false]) 1 16 (c28) r38).bind fun p39=>qga k m b_l0 n (c21) b22 (c23) (c24) i25 (IntKind.i64.wrap (i26+1)) s27 (p39.1) (c29) (c30) p39.2) (qga k m b_l0 n (c21) b22 (c23) (c24) i25 (IntKind.i64.wrap (i26+1)) s27 (c28) (c29) (c30) r33.2)) none) (cond b22 (cond (decide (i26 > i25)) ((qer [.one (c21),.one (Cell.int 3)] H31).bind fun r40=>cond (qaa quu r40.1) ((cB (qab r40.1 0) 0).bind fun b41=>cond b41 ((qer [.one (c21),.one (Cell.int 2)] r40.2).bind fun r42=>cond (qaa quu r42.1) ((cB (qab r42.1 0) 0).bind fun b43=>cond b43 ((idxA 1 (c23) i26).bind fun c44=>(deref r42.2 (c44)).bind fun p45=>(cS p45.1 p45.2).bind fun s46=>(qaf (r42.2++[Entry.mk 1 [[Cell.str s46]] 0 false]) 1 (.vs r42.2.length 1 0 1 0)).bind fun r47=>(app (r42.2++[Entry.mk 1 [[Cell.str s46]] 0 false]) 1 16 (c28) r47).bind fun p48=>qga k m b_l0 n (c21) b22 (c23) (c24) i25 (IntKind.i64.wrap (i26+1)) s27 (p48.1) (c29) (c30) p48.2) (qga k m b_l0 n (c21) b22 (c23) (c24) i25 (IntKind.i64.wrap (i26+1)) s27 (c28) (c29) (c30) r42.2)) none) (qga k m b_l0 n (c21) b22 (c23) (c24) i25 (IntKind.i64.wrap (i26+1)) s27 (c28) (c29) (c30) r40.2)) none) (qga k m b_l0 n (c21) b22 (c23) (c24) i25 (IntKind.i64.wrap (i26+1)) s27 (c28) (c29) (c30) H31)) (qga k m b_l0 n (c21) b22 (c23) (c24) i25 (IntKind.i64.wrap (i26+1)) s27 (c28) (c29) (c30) H31))) ((qaf (H31++[Entry.mk 4 [[Cell.str s27,c28,c29,c30]] 0 false]) 4 (.vs H31.length 4 0 1 0)).bind fun r49=>(app (H31++[Entry.mk 4 [[Cell.str s27,c28,c29,c30]] 0 false]) 4 88 (c24) r49).bind fun p50=>b_l0 (c21) b22 (c23) (p50.1) (IntKind.i64.wrap (i25+1)) p50.2)
def qpq (k m:Nat):Nat→Cell→Bool→Cell→Cell→Int→List Entry→Option Res | 0,_,_,_,_,_,_=>none | n+1,c6,b7,c8,c9,i10,H11=>(lenC c8).bind fun n12=>cond (decide (i10 < (n12:Int))) ((idxA 1 (c8) i10).bind fun c13=>(deref H11 (c13)).bind fun p14=>(cS p14.1 p14.2).bind fun s15=>(qnc [.one (c6),.one (Cell.str s15)] H11).bind fun r16=>cond (qaa qodb r16.1) ((cS (qab r16.1 0) 0).bind fun s17=>(cC (qab r16.1 0) 1).bind fun c18=>(cC (qab r16.1 0) 2).bind fun c19=>(cC (qab r16.1 0) 3).bind fun c20=>qga k m (qpq k m n) m (c6) b7 (c8) (c9) i10 0 s17 (c18) (c19) (c20) r16.2) none) (some ([.one (c9)],H11))
def fbp (k m:Nat)(c1:Cell)(b2:Bool)(H:List Entry):Option Res:=(qdx [.one (c1),.one (Cell.int 4)] H).bind fun r3=>cond (qaa qvh r3.1) ((cI .i64 (qab r3.1 0) 0).bind fun i4=>(slcC 1 (.lst true 1 [[Cell.str (bs [97])],[Cell.str (bs [98])],[Cell.str (bs [99])],[Cell.str (bs [100])]]) 0 (some (IntKind.i64.wrap (1+i4))) none).bind fun c5=>qpq k m m (c1) b2 (c5) ((.vs r3.2.length 4 0 0 0)) 0 (r3.2++[Entry.mk 4 [] 0 false])) none
abbrev qqw (k m:Nat):TB:=evC qqq qet (evF qqq (k+1)) m (sub [1,1,1,0,1,2,3] qet.code) none
abbrev qmb (k m:Nat):TK:=qbb 0 (seqK (evC qqq qet (evF qqq (k+1)) m (sub [1,1,1,1] qet.code) none) (retK qqq qet))
abbrev qjdb (k m:Nat):TB:=evC qqq qet (evF qqq (k+1)) m (sub [1,1,1,0,1,2,3,1,0,2,1,0,1,2,3] qet.code) none
abbrev qkib (k m:Nat)(n_l0:Nat):TK:=qbb 2 (seqK (evC qqq qet (evF qqq (k+1)) m (sub [1,1,1,0,1,2,3,1,0,2,1,1] qet.code) none) (qbb 1 (seqK (evC qqq qet (evF qqq (k+1)) m (sub [1,1,1,0,1,2,3,1,1] qet.code) none) (qwz (fun s=>qbz (some [0,1,5,6,7]) (qqw k m) (qmb k m) n_l0 (qkd (some [0,1,5,6,7]) s)) (qmb k m)))))
theorem qbeb (k m:Nat)(b_l0:Cell→Bool→Cell→Cell→Int→List Entry→Option Res)(n_l0:Nat)(h_l0:∀ (c6:Cell) (b7:Bool) (c8 c9:Cell) (i10:Int) (H11:List Entry),qbz (some [0,1,5,6,7]) (qqw k m) (qmb k m) n_l0 ⟨fT 67 0 [(0,.av (.one (c6))),(1,.av (.one (Cell.bool b7))),(5,.av (.one (c8))),(6,.av (.one (c9))),(7,.av (.one (Cell.int i10)))],fX 67 0 [],H11⟩=b_l0 c6 b7 c8 c9 i10 H11):∀ (n:Nat) (c21:Cell) (b22:Bool) (c23 c24:Cell) (i25 i26:Int) (s27:ByteArray) (c28 c29 c30:Cell) (H31:List Entry),qbz (some [0,1,5,6,7,8,9]) (qjdb k m) (qkib k m n_l0) n ⟨fT 67 0 [(0,.av (.one (c21))),(1,.av (.one (Cell.bool b22))),(5,.av (.one (c23))),(6,.av (.one (c24))),(7,.av (.one (Cell.int i25))),(8,.loc 8 0),(9,.av (.one (Cell.int i26)))],fX 67 0 [(8,[Cell.str s27,c28,c29,c30])],H31⟩=qga (k+1) m b_l0 n c21 b22 c23 c24 i25 i26 s27 c28 c29 c30 H31:=by
 intro n
 induction n with
 | zero=>intros;rfl
 | succ n ih=>intros;simp only[qga,← h_l0,← ih];kernel_rfl
theorem qdtb (k m:Nat):∀ (n:Nat) (c6:Cell) (b7:Bool) (c8 c9:Cell) (i10:Int) (H11:List Entry),qbz (some [0,1,5,6,7]) (qqw k m) (qmb k m) n ⟨fT 67 0 [(0,.av (.one (c6))),(1,.av (.one (Cell.bool b7))),(5,.av (.one (c8))),(6,.av (.one (c9))),(7,.av (.one (Cell.int i10)))],fX 67 0 [],H11⟩=qpq (k+1) m n c6 b7 c8 c9 i10 H11:=by
 intro n
 induction n with
 | zero=>intros;rfl
 | succ n ih=>intros;simp only[qpq,← qbeb k m _ _ (ih)];kernel_rfl
theorem qhmb (k m:Nat)(c1:Cell)(b2:Bool)(H:List Entry):evC qqq qet (evF qqq (k+1)) m qet.code none (retK qqq qet) (enter qet [.one (c1),.one (Cell.bool b2)] H)=fbp (k+1) m c1 b2 H:=by
 simp only[fbp,← qdtb k m]
 kernel_rfl
theorem qyj {c1:Cell}{b2:Bool}{H:List Entry}{r:Res}(k:Nat)(h:fbp (k+1) (k+1) c1 b2 H=some r):qnj [.one (c1),.one (Cell.bool b2)] H=some r:=qbh (k:=k+2) (Eq.trans (Eq.trans (by kernel_rfl) (qhmb k (k+1) c1 b2 H)) h)
def qlgb:List (Nat×Run):=[(qsq,qpn),(qtk,qnj),(qkz,qer)]
def qqzb:Ctx:=ctx qdy qdq qlgb
def qkn:Run:=lim qqzb qsv
theorem ok_fbe:FnOk Try.prog OkT qsv qkn:=qbi (l:=qlgb) qam tyTab_ok qag okT (.cons ok_fbh (.cons ok_fbp (.cons qgib .nil))) qsv
def fbe (k m:Nat)(c1:Cell):Option Res:=(qpn [.one (c1)] []).bind fun r2=>cond (qaa qppb r2.1) ((cC (qab r2.1 0) 0).bind fun c3=>(qer [.one (c3),.one (Cell.int 2)] r2.2).bind fun r4=>cond (qaa quu r4.1) ((cB (qab r4.1 0) 0).bind fun b5=>(qnj [.one (c3),.one (Cell.bool b5)] r4.2).bind fun r6=>cond (qaa qpnb r6.1) ((cC (qab r6.1 0) 0).bind fun c7=>some ([.one (c7)],r6.2)) none) none) none
theorem qgmb (k m:Nat)(c1:Cell):evC qqzb qtt (evF qqzb (k+1)) m qtt.code none (retK qqzb qtt) (enter qtt [.one (c1)] [])=fbe (k+1) m c1:=by
 kernel_rfl
theorem qwd {c1:Cell}{r:Res}(k:Nat)(h:fbe (k+1) (k+1) c1=some r):qkn [.one (c1)] []=some r:=qbh (k:=k+2) (Eq.trans (Eq.trans (by kernel_rfl) (qgmb k (k+1) c1)) h)
def qnzb:List (Nat×Run):=[]
def qbxb:Ctx:=ctx qdy qdq qnzb
def qdv:Run:=lim qbxb qhu
theorem qzg:FnOk Try.prog OkT qhu qdv:=qbi (l:=qnzb) qam tyTab_ok qag okT .nil qhu
def qqs (k m:Nat):Nat→Cell→Cell→Int→Int→List Entry→Option Res | 0,_,_,_,_,_=>none | n+1,c3,c4,i5,i6,H7=>cond (decide (i6 < i5)) ((idxA 4 (c4) i6).bind fun c8=>(deref H7 (c8)).bind fun p9=>(cS p9.1 p9.2).bind fun s10=>(cC p9.1 (p9.2+1)).bind fun c11=>(cC p9.1 ((p9.2+1)+1)).bind fun c12=>(cC p9.1 (((p9.2+1)+1)+1)).bind fun c13=>(ptrC c3).bind fun c14=>(fldA c14 0).bind fun c15=>(deref H7 (c15)).bind fun p16=>(cC p16.1 p16.2).bind fun c17=>(app H7 1 16 (c17) [[Cell.str s10]]).bind fun p18=>(ptrC c3).bind fun c19=>(fldA c19 0).bind fun c20=>(qeg p18.2 (c20) [p18.1]).bind fun h21=>(ptrC c3).bind fun c22=>(fldA c22 1).bind fun c23=>(deref h21 (c23)).bind fun p24=>(cC p24.1 p24.2).bind fun c25=>restK [c11] fun d26=>(qaf h21 1 (.lst true 1 (chunks 1 1 d26))).bind fun r27=>(app h21 1 24 (c25) r27).bind fun p28=>(ptrC c3).bind fun c29=>(fldA c29 1).bind fun c30=>(qeg p28.2 (c30) [p28.1]).bind fun h31=>qqs k m n (c3) (c4) i5 (IntKind.i64.wrap (i6+1)) h31) (some ([.one (c3)],H7))
def faj (k m:Nat)(c1:Cell)(H:List Entry):Option Res:=(lenC c1).bind fun n2=>qqs k m m (.ptr H.length 2 0 0 0) (c1) (n2:Int) 0 (H++[Entry.mk 2 [[.lst true 1 [],.lst true 1 []]] 0 false])
abbrev qfyb (k m:Nat):TB:=evC qbxb qjn (evF qbxb (k+1)) m (sub [1,1,0,1,2,3] qjn.code) none
abbrev qkrb (k m:Nat):TK:=qbb 0 (seqK (evC qbxb qjn (evF qbxb (k+1)) m (sub [1,1,1] qjn.code) none) (retK qbxb qjn))
theorem qasb (k m:Nat):∀ (n:Nat) (c3 c4:Cell) (i5 i6:Int) (H7:List Entry),qbz (some [3,8,9,10]) (qfyb k m) (qkrb k m) n ⟨fT 38 0 [(3,.av (.one (c3))),(8,.av (.one (c4))),(9,.av (.one (Cell.int i5))),(10,.av (.one (Cell.int i6)))],fX 38 0 [],H7⟩=qqs (k+1) m n c3 c4 i5 i6 H7:=by
 intro n
 induction n with
 | zero=>intros;rfl
 | succ n ih=>intros;simp only[qqs,← ih];kernel_rfl
theorem qisb (k m:Nat)(c1:Cell)(H:List Entry):evC qbxb qjn (evF qbxb (k+1)) m qjn.code none (retK qbxb qjn) (enter qjn [.one (c1)] H)=faj (k+1) m c1 H:=by
 simp only[faj,← qasb k m]
 kernel_rfl
theorem qwr {c1:Cell}{H:List Entry}{r:Res}(k:Nat)(h:faj (k+1) (k+1) c1 H=some r):qdv [.one (c1)] H=some r:=qbh (k:=k+2) (Eq.trans (Eq.trans (by kernel_rfl) (qisb k (k+1) c1 H)) h)
def qovb:List (Nat×Run):=[]
def qqwb:Ctx:=ctx qdy qdq qovb
def qne:Run:=lim qqwb qtn
theorem ok_fax:FnOk Try.prog OkT qtn qne:=qbi (l:=qovb) qam tyTab_ok qag okT .nil qtn
def fax (k m:Nat)(c1:Cell):Option Res:=nilC (c1) (both (some ([.one (.lst true 1 [])],[])) ((qaf [] 1 c1).bind fun r2=>(app [] 1 16 (.lst true 1 []) r2).bind fun p3=>some ([.one (p3.1)],p3.2))) ((qaf [] 1 c1).bind fun r4=>(app [] 1 16 (.lst true 1 []) r4).bind fun p5=>some ([.one (p5.1)],p5.2))
theorem qixb (k m:Nat)(c1:Cell):evC qqwb quc (evF qqwb (k+1)) m quc.code none (retK qqwb quc) (enter quc [.one (c1)] [])=fax (k+1) m c1:=by
 kernel_rfl
theorem qxs {c1:Cell}{r:Res}(k:Nat)(h:fax (k+1) (k+1) c1=some r):qne [.one (c1)] []=some r:=qbh (k:=k+2) (Eq.trans (Eq.trans (by kernel_rfl) (qixb k (k+1) c1)) h)
def qqjb:List (Nat×Run):=[]
def qrcb:Ctx:=ctx qdy qdq qqjb
def qkm:Run:=lim qrcb qsi
theorem ok_faw:FnOk Try.prog OkT qsi qkm:=qbi (l:=qqjb) qam tyTab_ok qag okT .nil qsi
def faw (k m:Nat)(c1:Cell)(H:List Entry):Option Res:=(lenC c1).bind fun n2=>(lenC c1).bind fun n3=>(slcC 1 (c1) 0 (some (n2:Int)) (some (n3:Int))).bind fun c4=>some ([.one (c4)],H)
theorem qhib (k m:Nat)(c1:Cell)(H:List Entry):evC qrcb qud (evF qrcb (k+1)) m qud.code none (retK qrcb qud) (enter qud [.one (c1)] H)=faw (k+1) m c1 H:=by
 kernel_rfl
theorem qnt {c1:Cell}{H:List Entry}{r:Res}(k:Nat)(h:faw (k+1) (k+1) c1 H=some r):qkm [.one (c1)] H=some r:=qbh (k:=k+2) (Eq.trans (Eq.trans (by kernel_rfl) (qhib k (k+1) c1 H)) h)
def qmib:List (Nat×Run):=[(qtn,qne),(qfqb,qoo),(qsi,qkm),(qfab,qmo)]
def qrfb:Ctx:=ctx qdy qdq qmib
def qhz:Run:=lim qrfb qoj
theorem qmhb:FnOk Try.prog OkT qoj qhz:=qbi (l:=qmib) qam tyTab_ok qag okT (.cons ok_fax (.cons ok_fbd (.cons ok_faw (.cons ok_fay .nil)))) qoj
def fag (k m:Nat)(c1:Cell):Option Res:=(qil qne [.one (c1)] []).bind fun r2=>cond (qaa qoeb r2.1) ((cC (qab r2.1 0) 0).bind fun c3=>(qoo [.one (c3)] r2.2).bind fun r4=>cond (qaa qllb r4.1) ((qmo [.one (c3)] r4.2).bind fun r5=>cond (qaa qljb r5.1) ((cC (qab r5.1 0) 0).bind fun c6=>(qkm [.one (c6)] r5.2).bind fun r7=>cond (qaa qqbb r7.1) ((cC (qab r7.1 0) 0).bind fun c8=>some ([.one (c8)],r7.2)) none) none) none) none
theorem qhxb (k m:Nat)(c1:Cell):evC qrfb quz (evF qrfb (k+1)) m quz.code none (retK qrfb quz) (enter quz [.one (c1)] [])=fag (k+1) m c1:=by
 kernel_rfl
theorem qny {c1:Cell}{r:Res}(k:Nat)(h:fag (k+1) (k+1) c1=some r):qhz [.one (c1)] []=some r:=qbh (k:=k+2) (Eq.trans (Eq.trans (by kernel_rfl) (qhxb k (k+1) c1)) h)
def qmcb:List (Nat×Run):=[]
def qbvb:Ctx:=ctx qdy qdq qmcb
def qhw:Run:=lim qbvb qpd
theorem qmeb:FnOk Try.prog OkT qpd qhw:=qbi (l:=qmcb) qam tyTab_ok qag okT .nil qpd
def qri (k m:Nat):Nat→Cell→ByteArray→Int→Int→Option Res | 0,_,_,_,_=>none | n+1,c4,s5,i6,i7=>cond (decide (i7 < i6)) ((idxA 1 (c4) i7).bind fun c8=>(deref [] (c8)).bind fun p9=>(cS p9.1 p9.2).bind fun s10=>cond (s5.toList==s10.toList) (some ([.one (Cell.int i7)],[])) (qri k m n (c4) s5 i6 (IntKind.i64.wrap (i7+1)))) (some ([.one (Cell.int (-1))],[]))
def fbc (k m:Nat)(c1:Cell)(s2:ByteArray):Option Res:=(lenC c1).bind fun n3=>qri k m m (c1) s2 (n3:Int) 0
abbrev qjfb (k m:Nat):TB:=evC qbvb qiv (evF qbvb (k+1)) m (sub [1,0,1,2,3] qiv.code) none
abbrev qhyb (k m:Nat):TK:=qbb 0 (seqK (evC qbvb qiv (evF qbvb (k+1)) m (sub [1,1] qiv.code) none) (retK qbvb qiv))
theorem qerb (k m:Nat):∀ (n:Nat) (c4:Cell) (s5:ByteArray) (i6 i7:Int),qbz (some [0,1,7,8]) (qjfb k m) (qhyb k m) n ⟨fT 19 0 [(0,.av (.one (c4))),(1,.av (.one (Cell.str s5))),(7,.av (.one (Cell.int i6))),(8,.av (.one (Cell.int i7)))],fX 19 0 [],[]⟩=qri (k+1) m n c4 s5 i6 i7:=by
 intro n
 induction n with
 | zero=>intros;rfl
 | succ n ih=>intros;simp only[qri,← ih];kernel_rfl
theorem qjub (k m:Nat)(c1:Cell)(s2:ByteArray):evC qbvb qiv (evF qbvb (k+1)) m qiv.code none (retK qbvb qiv) (enter qiv [.one (c1),.one (Cell.str s2)] [])=fbc (k+1) m c1 s2:=by
 simp only[fbc,← qerb k m]
 kernel_rfl
theorem qxi {c1:Cell}{s2:ByteArray}{r:Res}(k:Nat)(h:fbc (k+1) (k+1) c1 s2=some r):qhw [.one (c1),.one (Cell.str s2)] []=some r:=qbh (k:=k+2) (Eq.trans (Eq.trans (by kernel_rfl) (qjub k (k+1) c1 s2)) h)
def qleb:List (Nat×Run):=[(qpd,qhw)]
def qrab:Ctx:=ctx qdy qdq qleb
def qbm:Run:=lim qrab qgz
theorem qux:FnOk Try.prog OkT qgz qbm:=qbi (l:=qleb) qam tyTab_ok qag okT (.cons qmeb .nil) qgz
def faz (k m:Nat)(c1:Cell)(s2:ByteArray):Option Res:=(qeh qhw [.one (c1),.one (Cell.str s2)] []).bind fun r3=>cond (qaa qkmb r3) ((cI .i64 (qab r3 0) 0).bind fun i4=>some ([.one (Cell.bool (decide (i4≥0)))],[])) none
theorem qfzb (k m:Nat)(c1:Cell)(s2:ByteArray):evC qrab qup (evF qrab (k+1)) m qup.code none (retK qrab qup) (enter qup [.one (c1),.one (Cell.str s2)] [])=faz (k+1) m c1 s2:=by
 kernel_rfl
theorem qyp {c1:Cell}{s2:ByteArray}{r:Res}(k:Nat)(h:faz (k+1) (k+1) c1 s2=some r):qbm [.one (c1),.one (Cell.str s2)] []=some r:=qbh (k:=k+2) (Eq.trans (Eq.trans (by kernel_rfl) (qfzb k (k+1) c1 s2)) h)
def qnkb:List (Nat×Run):=[(qgz,qbm)]
def qaqb:Ctx:=ctx qdy qdq qnkb
def qgu:Run:=lim qaqb qda
theorem qgrb:FnOk Try.prog OkT qda qgu:=qbi (l:=qnkb) qam tyTab_ok qag okT (.cons qux .nil) qda
def qnr (k m:Nat):Nat→Cell→ByteArray→Cell→Cell→Int→Int→List Entry→Option Res | 0,_,_,_,_,_,_,_=>none | n+1,c8,s9,c10,c11,i12,i13,H14=>cond (decide (i13 < i12)) ((idxA 1 (c11) i13).bind fun c15=>(deref H14 (c15)).bind fun p16=>(cC p16.1 p16.2).bind fun c17=>(qeh qbm [.one (c17),.one (Cell.str s9)] H14).bind fun r18=>cond (qaa qml r18) ((cB (qab r18 0) 0).bind fun b19=>cond b19 ((ptrC c8).bind fun c20=>(fldA c20 0).bind fun c21=>(deref H14 (c21)).bind fun p22=>(cC p22.1 p22.2).bind fun c23=>(idxA 1 (c23) i13).bind fun c24=>(deref H14 (c24)).bind fun p25=>(cS p25.1 p25.2).bind fun s26=>(app H14 1 16 (c10) [[Cell.str s26]]).bind fun p27=>qnr k m n (c8) s9 (p27.1) (c11) i12 (IntKind.i64.wrap (i13+1)) p27.2) (qnr k m n (c8) s9 (c10) (c11) i12 (IntKind.i64.wrap (i13+1)) H14)) none) (some ([.one (c10)],H14))
def fal (k m:Nat)(c1:Cell)(s2:ByteArray)(H:List Entry):Option Res:=(ptrC c1).bind fun c3=>(fldA c3 1).bind fun c4=>(deref H (c4)).bind fun p5=>(cC p5.1 p5.2).bind fun c6=>(lenC c6).bind fun n7=>qnr k m m (c1) s2 (.lst true 1 []) (c6) (n7:Int) 0 H
abbrev qjmb (k m:Nat):TB:=evC qaqb qjg (evF qaqb (k+1)) m (sub [1,1,0,1,2,3] qjg.code) none
abbrev qgjb (k m:Nat):TK:=qbb 0 (seqK (evC qaqb qjg (evF qaqb (k+1)) m (sub [1,1,1] qjg.code) none) (retK qaqb qjg))
theorem qalb (k m:Nat):∀ (n:Nat) (c8:Cell) (s9:ByteArray) (c10 c11:Cell) (i12 i13:Int) (H14:List Entry),qbz (some [0,1,5,11,12,13]) (qjmb k m) (qgjb k m) n ⟨fT 33 0 [(0,.av (.one (c8))),(1,.av (.one (Cell.str s9))),(5,.av (.one (c10))),(11,.av (.one (c11))),(12,.av (.one (Cell.int i12))),(13,.av (.one (Cell.int i13)))],fX 33 0 [],H14⟩=qnr (k+1) m n c8 s9 c10 c11 i12 i13 H14:=by
 intro n
 induction n with
 | zero=>intros;rfl
 | succ n ih=>intros;simp only[qnr,← ih];kernel_rfl
theorem qjlb (k m:Nat)(c1:Cell)(s2:ByteArray)(H:List Entry):evC qaqb qjg (evF qaqb (k+1)) m qjg.code none (retK qaqb qjg) (enter qjg [.one (c1),.one (Cell.str s2)] H)=fal (k+1) m c1 s2 H:=by
 simp only[fal,← qalb k m]
 kernel_rfl
theorem qwh {c1:Cell}{s2:ByteArray}{H:List Entry}{r:Res}(k:Nat)(h:fal (k+1) (k+1) c1 s2 H=some r):qgu [.one (c1),.one (Cell.str s2)] H=some r:=qbh (k:=k+2) (Eq.trans (Eq.trans (by kernel_rfl) (qjlb k (k+1) c1 s2 H)) h)
def qndb:List (Nat×Run):=[(qpd,qhw)]
def qqub:Ctx:=ctx qdy qdq qndb
def qdj:Run:=lim qqub qca
theorem qtu:FnOk Try.prog OkT qca qdj:=qbi (l:=qndb) qam tyTab_ok qag okT (.cons qmeb .nil) qca
def fan (k m:Nat)(c1:Cell)(s2:ByteArray)(H:List Entry):Option Res:=(ptrC c1).bind fun c3=>(fldA c3 0).bind fun c4=>(deref H (c4)).bind fun p5=>(cC p5.1 p5.2).bind fun c6=>(qeh qhw [.one (c6),.one (Cell.str s2)] H).bind fun r7=>cond (qaa qkmb r7) ((cI .i64 (qab r7 0) 0).bind fun i8=>cond (decide (i8 < 0)) (some ([.one (.lst true 1 [])],H)) ((ptrC c1).bind fun c9=>(fldA c9 1).bind fun c10=>(deref H (c10)).bind fun p11=>(cC p11.1 p11.2).bind fun c12=>(idxA 1 (c12) i8).bind fun c13=>(deref H (c13)).bind fun p14=>(cC p14.1 p14.2).bind fun c15=>some ([.one (c15)],H))) none
theorem qigb (k m:Nat)(c1:Cell)(s2:ByteArray)(H:List Entry):evC qqub quk (evF qqub (k+1)) m quk.code none (retK qqub quk) (enter quk [.one (c1),.one (Cell.str s2)] H)=fan (k+1) m c1 s2 H:=by
 kernel_rfl
theorem qpi {c1:Cell}{s2:ByteArray}{H:List Entry}{r:Res}(k:Nat)(h:fan (k+1) (k+1) c1 s2 H=some r):qdj [.one (c1),.one (Cell.str s2)] H=some r:=qbh (k:=k+2) (Eq.trans (Eq.trans (by kernel_rfl) (qigb k (k+1) c1 s2 H)) h)
end
end Go.Ev
