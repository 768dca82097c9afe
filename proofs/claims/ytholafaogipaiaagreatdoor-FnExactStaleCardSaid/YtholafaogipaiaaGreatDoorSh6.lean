/- Conditions: none. -/
import Derived.Test.YtholafaogipaiaaGreatDoorSh5
import Derived.KernelRfl
namespace Go.Ev
open Go Go.Proofs
noncomputable section
set_option maxRecDepth 100000
set_option linter.unusedVariables false
set_option linter.unusedSimpArgs false
def pl_faa:List (Nat×Run):=[(qclb,qqe)]
def G_faa:Ctx:=ctx qbd qbc pl_faa
def qfl:Run:=lim G_faa qvv
theorem ok_faa:FnOk Tryz.prog OkT qvv qfl:=qal (l:=pl_faa) qae tyTab_ok qad okT (.cons ok_fad .nil) qvv
def faa (k m:Nat)(i1 i2:Int):Option Res:=(qau qqe [.one (Cell.int i1)] []).bind fun r3=>cond (qab rk_fad r3) ((cB (qaa r3 0) 0).bind fun b4=>(qau qqe [.one (Cell.int i2)] []).bind fun r5=>cond (qab rk_fad r5) ((cB (qaa r5 0) 0).bind fun b6=>cond b4 (cond b6 (some ([.one (Cell.int 0)],[])) (some ([.one (Cell.int (-1))],[]))) (cond b6 (some ([.one (Cell.int 1)],[])) (cond (decide (i1 < i2)) (some ([.one (Cell.int (-1))],[])) (cond (decide (i1 > i2)) (some ([.one (Cell.int 1)],[])) (some ([.one (Cell.int 0)],[])))))) none) none
theorem faa_code (k m:Nat)(i1 i2:Int):evC G_faa qjhb (evF G_faa (k+1)) m qjhb.code none (retK G_faa qjhb) (enter qjhb [.one (Cell.int i1),.one (Cell.int i2)] [])=faa (k+1) m i1 i2:=by
 kernel_rfl
theorem qreb {i1 i2:Int}{r:Res}(k:Nat)(h:faa (k+1) (k+1) i1 i2=some r):qfl [.one (Cell.int i1),.one (Cell.int i2)] []=some r:=qap (k:=k+2) (Eq.trans (Eq.trans (by kernel_rfl) (faa_code k (k+1) i1 i2)) h)
def pl_fae:List (Nat×Run):=[]
def G_fae:Ctx:=ctx qbd qbc pl_fae
def qrr:Run:=lim G_fae qcub
theorem ok_fae:FnOk Tryz.prog OkT qcub qrr:=qal (l:=pl_fae) qae tyTab_ok qad okT .nil qcub
def fae (k m:Nat)(s1:ByteArray):Option Res:=some ([.one (Cell.bool (!(s1.toList==s1.toList)))],[])
theorem fae_code (k m:Nat)(s1:ByteArray):evC G_fae qjab (evF G_fae (k+1)) m qjab.code none (retK G_fae qjab) (enter qjab [.one (Cell.str s1)] [])=fae (k+1) m s1:=by
 kernel_rfl
theorem qmdb {s1:ByteArray}{r:Res}(k:Nat)(h:fae (k+1) (k+1) s1=some r):qrr [.one (Cell.str s1)] []=some r:=qap (k:=k+2) (Eq.trans (Eq.trans (by kernel_rfl) (fae_code k (k+1) s1)) h)
def pl_fab:List (Nat×Run):=[(qcub,qrr)]
def G_fab:Ctx:=ctx qbd qbc pl_fab
def qhd:Run:=lim G_fab qdbb
theorem ok_fab:FnOk Tryz.prog OkT qdbb qhd:=qal (l:=pl_fab) qae tyTab_ok qad okT (.cons ok_fae .nil) qdbb
def fab (k m:Nat)(s1 s2:ByteArray):Option Res:=(qau qrr [.one (Cell.str s1)] []).bind fun r3=>cond (qab rk_fae r3) ((cB (qaa r3 0) 0).bind fun b4=>(qau qrr [.one (Cell.str s2)] []).bind fun r5=>cond (qab rk_fae r5) ((cB (qaa r5 0) 0).bind fun b6=>cond b4 (cond b6 (some ([.one (Cell.int 0)],[])) (some ([.one (Cell.int (-1))],[]))) (cond b6 (some ([.one (Cell.int 1)],[])) (cond (Op.bytesLess s1.toList s2.toList) (some ([.one (Cell.int (-1))],[])) (cond (!(Op.bytesLess s1.toList s2.toList||s1.toList==s2.toList)) (some ([.one (Cell.int 1)],[])) (some ([.one (Cell.int 0)],[])))))) none) none
theorem fab_code (k m:Nat)(s1 s2:ByteArray):evC G_fab qiob (evF G_fab (k+1)) m qiob.code none (retK G_fab qiob) (enter qiob [.one (Cell.str s1),.one (Cell.str s2)] [])=fab (k+1) m s1 s2:=by
 kernel_rfl
theorem qrob {s1 s2:ByteArray}{r:Res}(k:Nat)(h:fab (k+1) (k+1) s1 s2=some r):qhd [.one (Cell.str s1),.one (Cell.str s2)] []=some r:=qap (k:=k+2) (Eq.trans (Eq.trans (by kernel_rfl) (fab_code k (k+1) s1 s2)) h)
def pl_faz:List (Nat×Run):=[(qyg,qis),(quv,qfh),(qvv,qfl),(qdbb,qhd)]
def G_faz:Ctx:=ctx qbd qbc pl_faz
def qog:Run:=lim G_faz qhi
theorem ok_faz:FnOk Tryz.prog OkT qhi qog:=qal (l:=pl_faz) qae tyTab_ok qad okT (.cons ok_fbe (.cons ok_fac (.cons ok_faa (.cons ok_fab .nil)))) qhi
def faz (k m:Nat)(s1 s2:ByteArray):Option Res:=cond (s1.toList==(bs []).toList) (cond (s2.toList==(bs []).toList) ((qau qfl [.one (Cell.int (s1.size:Int)),.one (Cell.int (s2.size:Int))] []).bind fun r3=>cond (qab qwh r3) ((cI .i64 (qaa r3 0) 0).bind fun i4=>(qau qhd [.one (Cell.str s1),.one (Cell.str s2)] []).bind fun r5=>cond (qab qaqb r5) ((cI .i64 (qaa r5 0) 0).bind fun i6=>(qau qfh [.one (.lst true 1 [[Cell.int i4],[Cell.int i6]])] []).bind fun r7=>cond (qab qijb r7) ((cI .i64 (qaa r7 0) 0).bind fun i8=>some ([.one (Cell.int i8)],[])) none) none) none) ((qau qis [.one (Cell.str s2)] []).bind fun r9=>cond (qab qsqb r9) ((cB (qaa r9 0) 0).bind fun b10=>cond b10 ((qau qfl [.one (Cell.int (s1.size:Int)),.one (Cell.int (s2.size:Int))] []).bind fun r11=>cond (qab qwh r11) ((cI .i64 (qaa r11 0) 0).bind fun i12=>(qau qhd [.one (Cell.str s1),.one (Cell.str s2)] []).bind fun r13=>cond (qab qaqb r13) ((cI .i64 (qaa r13 0) 0).bind fun i14=>(qau qfh [.one (.lst true 1 [[Cell.int i12],[Cell.int i14]])] []).bind fun r15=>cond (qab qijb r15) ((cI .i64 (qaa r15 0) 0).bind fun i16=>some ([.one (Cell.int i16)],[])) none) none) none) (some ([.one (Cell.int (-1))],[]))) none)) ((qau qis [.one (Cell.str s1)] []).bind fun r17=>cond (qab qsqb r17) ((cB (qaa r17 0) 0).bind fun b18=>cond (s2.toList==(bs []).toList) (cond b18 ((qau qfl [.one (Cell.int (s1.size:Int)),.one (Cell.int (s2.size:Int))] []).bind fun r19=>cond (qab qwh r19) ((cI .i64 (qaa r19 0) 0).bind fun i20=>(qau qhd [.one (Cell.str s1),.one (Cell.str s2)] []).bind fun r21=>cond (qab qaqb r21) ((cI .i64 (qaa r21 0) 0).bind fun i22=>(qau qfh [.one (.lst true 1 [[Cell.int i20],[Cell.int i22]])] []).bind fun r23=>cond (qab qijb r23) ((cI .i64 (qaa r23 0) 0).bind fun i24=>some ([.one (Cell.int i24)],[])) none) none) none) (cond b18 (some ([.one (Cell.int (-1))],[])) (some ([.one (Cell.int 1)],[])))) ((qau qis [.one (Cell.str s2)] []).bind fun r25=>cond (qab qsqb r25) ((cB (qaa r25 0) 0).bind fun b26=>cond b18 (cond b26 ((qau qfl [.one (Cell.int (s1.size:Int)),.one (Cell.int (s2.size:Int))] []).bind fun r27=>cond (qab qwh r27) ((cI .i64 (qaa r27 0) 0).bind fun i28=>(qau qhd [.one (Cell.str s1),.one (Cell.str s2)] []).bind fun r29=>cond (qab qaqb r29) ((cI .i64 (qaa r29 0) 0).bind fun i30=>(qau qfh [.one (.lst true 1 [[Cell.int i28],[Cell.int i30]])] []).bind fun r31=>cond (qab qijb r31) ((cI .i64 (qaa r31 0) 0).bind fun i32=>some ([.one (Cell.int i32)],[])) none) none) none) (cond b18 (some ([.one (Cell.int (-1))],[])) (cond b26 (some ([.one (Cell.int 1)],[])) ((qau qhd [.one (Cell.str s1),.one (Cell.str s2)] []).bind fun r33=>cond (qab qaqb r33) ((cI .i64 (qaa r33 0) 0).bind fun i34=>some ([.one (Cell.int i34)],[])) none)))) (cond b18 (some ([.one (Cell.int (-1))],[])) (cond b26 (some ([.one (Cell.int 1)],[])) ((qau qhd [.one (Cell.str s1),.one (Cell.str s2)] []).bind fun r35=>cond (qab qaqb r35) ((cI .i64 (qaa r35 0) 0).bind fun i36=>some ([.one (Cell.int i36)],[])) none)))) none)) none)
theorem faz_code (k m:Nat)(s1 s2:ByteArray):evC G_faz qivb (evF G_faz (k+1)) m qivb.code none (retK G_faz qivb) (enter qivb [.one (Cell.str s1),.one (Cell.str s2)] [])=faz (k+1) m s1 s2:=by
 kernel_rfl
theorem qpfb {s1 s2:ByteArray}{r:Res}(k:Nat)(h:faz (k+1) (k+1) s1 s2=some r):qog [.one (Cell.str s1),.one (Cell.str s2)] []=some r:=qap (k:=k+2) (Eq.trans (Eq.trans (by kernel_rfl) (faz_code k (k+1) s1 s2)) h)
def pl_fdc:List (Nat×Run):=[(qhi,qog)]
def G_fdc:Ctx:=ctx qbd qbc pl_fdc
def qtd:Run:=lim G_fdc qgrb
theorem ok_fdc:FnOk Tryz.prog OkT qgrb qtd:=qal (l:=pl_fdc) qae tyTab_ok qad okT (.cons ok_faz .nil) qgrb
def qaq (k m:Nat):Nat→Cell→Cell→Cell→Int→Int→List Entry→Option Res | 0,_,_,_,_,_,_=>none | n+1,c4,c5,c6,i7,i8,H9=>cond (decide (i8 < i7)) ((idxA 1 (c6) i8).bind fun c10=>(deref H9 (c10)).bind fun p11=>(cS p11.1 p11.2).bind fun s12=>(lenC c5).bind fun n13=>cond (decide (i8≥(n13:Int))) (some ([.one (Cell.int 1)],H9)) ((idxA 1 (c5) i8).bind fun c14=>(deref H9 (c14)).bind fun p15=>(cS p15.1 p15.2).bind fun s16=>(qau qog [.one (Cell.str s12),.one (Cell.str s16)] H9).bind fun r17=>cond (qab rk_faz r17) ((cI .i64 (qaa r17 0) 0).bind fun i18=>cond (i18 != 0) (some ([.one (Cell.int i18)],H9)) (qaq k m n (c4) (c5) (c6) i7 (IntKind.i64.wrap (i8+1)) H9)) none)) ((lenC c4).bind fun n19=>(lenC c5).bind fun n20=>cond (decide ((n19:Int) < (n20:Int))) (some ([.one (Cell.int (-1))],H9)) (some ([.one (Cell.int 0)],H9)))
def qbg (k m:Nat)(c1 c2:Cell)(H:List Entry):Option Res:=(lenC c1).bind fun n3=>qaq k m m (c1) (c2) (c1) (n3:Int) 0 H
abbrev qda (k m:Nat):TB:=evC G_fdc qna (evF G_fdc (k+1)) m (sub [1,0,1,2,3] qna.code) none
abbrev qcs (k m:Nat):TK:=qaz 0 (seqK (evC G_fdc qna (evF G_fdc (k+1)) m (sub [1,1] qna.code) none) (retK G_fdc qna))
theorem qcq (k m:Nat):∀ (n:Nat) (c4 c5 c6:Cell) (i7 i8:Int) (H9:List Entry),qby (some [0,1,2,11,12,13]) (qda k m) (qcs k m) n ⟨fT 39 0 [(0,.av (.one (c4))),(1,.av (.one (c5))),(2,.av (.one (.fn qhi [] []))),(11,.av (.one (c6))),(12,.av (.one (Cell.int i7))),(13,.av (.one (Cell.int i8)))],fX 39 0 [],H9⟩=qaq (k+1) m n c4 c5 c6 i7 i8 H9:=by
 intro n
 induction n with
 | zero=>intros;rfl
 | succ n ih=>intros;simp only[qaq,← ih];kernel_rfl
theorem qct (k m:Nat)(c1 c2:Cell)(H:List Entry):evC G_fdc qna (evF G_fdc (k+1)) m qna.code none (retK G_fdc qna) (enter qna [.one (c1),.one (c2),.one (.fn qhi [] [])] H)=qbg (k+1) m c1 c2 H:=by
 simp only[qbg,← qcq k m]
 kernel_rfl
theorem qcm {c1 c2:Cell}{H:List Entry}{r:Res}(k:Nat)(h:qbg (k+1) (k+1) c1 c2 H=some r):qtd [.one (c1),.one (c2),.one (.fn qhi [] [])] H=some r:=qap (k:=k+2) (Eq.trans (Eq.trans (by kernel_rfl) (qct k (k+1) c1 c2 H)) h)
def pl_fay:List (Nat×Run):=[(quv,qfh),(qvv,qfl),(qgrb,qtd),(qhi,qog)]
def G_fay:Ctx:=ctx qbd qbc pl_fay
def qwp:Run:=lim G_fay qgub
theorem ok_fay:FnOk Tryz.prog OkT qgub qwp:=qal (l:=pl_fay) qae tyTab_ok qad okT (.cons ok_fac (.cons ok_faa (.cons ok_fdc (.cons ok_faz .nil)))) qgub
def fay (k m:Nat)(i1 i2 i3:Int)(c4:Cell)(i5 i6 i7:Int)(c8:Cell):Option Res:=(qau qfl [.one (Cell.int i1),.one (Cell.int i5)] []).bind fun r9=>cond (qab qwh r9) ((cI .i64 (qaa r9 0) 0).bind fun i10=>(qau qfl [.one (Cell.int i2),.one (Cell.int i6)] []).bind fun r11=>cond (qab qwh r11) ((cI .i64 (qaa r11 0) 0).bind fun i12=>(qau qfl [.one (Cell.int i3),.one (Cell.int i7)] []).bind fun r13=>cond (qab qwh r13) ((cI .i64 (qaa r13 0) 0).bind fun i14=>(qau qfh [.one (.lst true 1 [[Cell.int i10],[Cell.int i12],[Cell.int i14]])] []).bind fun r15=>cond (qab qijb r15) ((cI .i64 (qaa r15 0) 0).bind fun i16=>cond (i16 != 0) (some ([.one (Cell.int i16)],[])) ((lenC c4).bind fun n17=>(lenC c8).bind fun n18=>cond (!(((n17:Int)==0)==((n18:Int)==0))) ((lenC c4).bind fun n19=>cond (decide ((n19:Int) > 0)) (some ([.one (Cell.int (-1))],[])) (some ([.one (Cell.int 1)],[]))) ((qtd [.one (c4),.one (c8),.one (.fn qhi [] [])] []).bind fun r20=>cond (qab rk_fdc r20.1) ((cI .i64 (qaa r20.1 0) 0).bind fun i21=>some ([.one (Cell.int i21)],r20.2)) none))) none) none) none) none
theorem fay_code (k m:Nat)(i1 i2 i3:Int)(c4:Cell)(i5 i6 i7:Int)(c8:Cell):evC G_fay qlmb (evF G_fay (k+1)) m qlmb.code none (retK G_fay qlmb) (enter qlmb [.agg [Cell.int i1,Cell.int i2,Cell.int i3,c4],.agg [Cell.int i5,Cell.int i6,Cell.int i7,c8]] [])=fay (k+1) m i1 i2 i3 c4 i5 i6 i7 c8:=by
 kernel_rfl
theorem qqqb {i1 i2 i3:Int}{c4:Cell}{i5 i6 i7:Int}{c8:Cell}{r:Res}(k:Nat)(h:fay (k+1) (k+1) i1 i2 i3 c4 i5 i6 i7 c8=some r):qwp [.agg [Cell.int i1,Cell.int i2,Cell.int i3,c4],.agg [Cell.int i5,Cell.int i6,Cell.int i7,c8]] []=some r:=qap (k:=k+2) (Eq.trans (Eq.trans (by kernel_rfl) (fay_code k (k+1) i1 i2 i3 c4 i5 i6 i7 c8)) h)
def pl_faf:List (Nat×Run):=[(qgub,qwp)]
def G_faf:Ctx:=ctx qbd qbc pl_faf
def qvn:Run:=lim G_faf qfpb
theorem ok_faf:FnOk Tryz.prog OkT qfpb qvn:=qal (l:=pl_faf) qae tyTab_ok qad okT (.cons ok_fay .nil) qfpb
def faf (k m:Nat)(i1 i2 i3 i4:Int)(c5:Cell)(i6 i7 i8:Int)(c9:Cell):Option Res:=(qau qwp [.agg [Cell.int i6,Cell.int i7,Cell.int i8,c9],.agg [Cell.int i2,Cell.int i3,Cell.int i4,c5]] []).bind fun r10=>cond (qab rk_fay r10) ((cI .i64 (qaa r10 0) 0).bind fun i11=>cond (i1==0) (some ([.one (Cell.bool (i11==0))],[])) (cond (i1==1) (some ([.one (Cell.bool (decide (i11 < 0)))],[])) (cond (i1==2) (some ([.one (Cell.bool (decide (i11≤0)))],[])) (cond (i1==3) (some ([.one (Cell.bool (decide (i11 > 0)))],[])) (cond (i1==4) (some ([.one (Cell.bool (decide (i11≥0)))],[])) (some ([.one (Cell.bool false)],[]))))))) none
theorem faf_code (k m:Nat)(i1 i2 i3 i4:Int)(c5:Cell)(i6 i7 i8:Int)(c9:Cell):evC G_faf qlkb (evF G_faf (k+1)) m qlkb.code none (retK G_faf qlkb) (enter qlkb [.agg [Cell.int i1,Cell.int i2,Cell.int i3,Cell.int i4,c5],.agg [Cell.int i6,Cell.int i7,Cell.int i8,c9]] [])=faf (k+1) m i1 i2 i3 i4 c5 i6 i7 i8 c9:=by
 kernel_rfl
theorem qssb {i1 i2 i3 i4:Int}{c5:Cell}{i6 i7 i8:Int}{c9:Cell}{r:Res}(k:Nat)(h:faf (k+1) (k+1) i1 i2 i3 i4 c5 i6 i7 i8 c9=some r):qvn [.agg [Cell.int i1,Cell.int i2,Cell.int i3,Cell.int i4,c5],.agg [Cell.int i6,Cell.int i7,Cell.int i8,c9]] []=some r:=qap (k:=k+2) (Eq.trans (Eq.trans (by kernel_rfl) (faf_code k (k+1) i1 i2 i3 i4 c5 i6 i7 i8 c9)) h)
def pl_fbn:List (Nat×Run):=[(qfpb,qvn)]
def G_fbn:Ctx:=ctx qbd qbc pl_fbn
def quz:Run:=lim G_fbn qdyb
theorem ok_fbn:FnOk Tryz.prog OkT qdyb quz:=qal (l:=pl_fbn) qae tyTab_ok qad okT (.cons ok_faf .nil) qdyb
def qlh (k m:Nat):Nat→Bool→Cell→Int→Int→Int→Int→Int→Cell→Option Res | 0,_,_,_,_,_,_,_,_=>none | n+1,b8,c9,i10,i11,i12,i13,i14,c15=>cond (decide (i11 < i10)) ((idxA 5 (c9) i11).bind fun c16=>(deref [] (c16)).bind fun p17=>(cI .i64 p17.1 p17.2).bind fun i18=>(cI .i64 p17.1 (p17.2+1)).bind fun i19=>(cI .i64 p17.1 ((p17.2+1)+1)).bind fun i20=>(cI .i64 p17.1 (((p17.2+1)+1)+1)).bind fun i21=>(cC p17.1 ((((p17.2+1)+1)+1)+1)).bind fun c22=>(qau qvn [.agg [Cell.int i18,Cell.int i19,Cell.int i20,Cell.int i21,c22],.agg [Cell.int i12,Cell.int i13,Cell.int i14,c15]] []).bind fun r23=>cond (qab rk_faf r23) ((cB (qaa r23 0) 0).bind fun b24=>cond (!b24) (some ([.one (Cell.bool false)],[])) (cond b8 (qlh k m n true (c9) i10 (IntKind.i64.wrap (i11+1)) i12 i13 i14 (c15)) ((lenC c22).bind fun n25=>cond (decide ((n25:Int) > 0)) (cond (i19==i12) (cond (i20==i13) (qlh k m n (i21==i14) (c9) i10 (IntKind.i64.wrap (i11+1)) i12 i13 i14 (c15)) (qlh k m n false (c9) i10 (IntKind.i64.wrap (i11+1)) i12 i13 i14 (c15))) (qlh k m n false (c9) i10 (IntKind.i64.wrap (i11+1)) i12 i13 i14 (c15))) (qlh k m n false (c9) i10 (IntKind.i64.wrap (i11+1)) i12 i13 i14 (c15))))) none) (some ([.one (Cell.bool b8)],[]))
def fbn (k m:Nat)(c1:Cell)(i2 i3 i4:Int)(c5:Cell):Option Res:=(lenC c5).bind fun n6=>(lenC c1).bind fun n7=>qlh k m m ((n6:Int)==0) (c1) (n7:Int) 0 i2 i3 i4 (c5)
abbrev fbn_l0_B (k m:Nat):TB:=evC G_fbn qmw (evF G_fbn (k+1)) m (sub [1,1,0,1,2,3] qmw.code) none
abbrev fbn_l0_K (k m:Nat):TK:=qaz 0 (seqK (evC G_fbn qmw (evF G_fbn (k+1)) m (sub [1,1,1] qmw.code) none) (retK G_fbn qmw))
theorem fbn_l0_eq (k m:Nat):∀ (n:Nat) (b8:Bool) (c9:Cell) (i10 i11 i12 i13 i14:Int) (c15:Cell),qby (some [3,5,12,13,14]) (fbn_l0_B k m) (fbn_l0_K k m) n ⟨fT 56 0 [(3,.loc 3 0),(5,.av (.one (Cell.bool b8))),(12,.av (.one (c9))),(13,.av (.one (Cell.int i10))),(14,.av (.one (Cell.int i11)))],fX 56 0 [(3,[Cell.int i12,Cell.int i13,Cell.int i14,c15])],[]⟩=qlh (k+1) m n b8 c9 i10 i11 i12 i13 i14 c15:=by
 intro n
 induction n with
 | zero=>intros;rfl
 | succ n ih=>intros;simp only[qlh,← ih];kernel_rfl
theorem fbn_code (k m:Nat)(c1:Cell)(i2 i3 i4:Int)(c5:Cell):evC G_fbn qmw (evF G_fbn (k+1)) m qmw.code none (retK G_fbn qmw) (enter qmw [.one (c1),.agg [Cell.int i2,Cell.int i3,Cell.int i4,c5]] [])=fbn (k+1) m c1 i2 i3 i4 c5:=by
 simp only[fbn,← fbn_l0_eq k m]
 kernel_rfl
theorem qrgb {c1:Cell}{i2 i3 i4:Int}{c5:Cell}{r:Res}(k:Nat)(h:fbn (k+1) (k+1) c1 i2 i3 i4 c5=some r):quz [.one (c1),.agg [Cell.int i2,Cell.int i3,Cell.int i4,c5]] []=some r:=qap (k:=k+2) (Eq.trans (Eq.trans (by kernel_rfl) (fbn_code k (k+1) c1 i2 i3 i4 c5)) h)
def pl_fag:List (Nat×Run):=[(qlf,qft),(qdyb,quz)]
def G_fag:Ctx:=ctx qbd qbc pl_fag
def qqr:Run:=lim G_fag qhhb
theorem ok_fag:FnOk Tryz.prog OkT qhhb qqr:=qal (l:=pl_fag) qae tyTab_ok qad okT (.cons ok_fas (.cons ok_fbn .nil)) qhhb
def qbtb (k m:Nat):Nat→Cell→Int→Int→Int→Int→Int→Cell→Option Res | 0,_,_,_,_,_,_,_=>none | n+1,c9,i10,i11,i12,i13,i14,c15=>cond (decide (i11 < i10)) ((idxA 1 (c9) i11).bind fun c16=>(deref [] (c16)).bind fun p17=>(cC p17.1 p17.2).bind fun c18=>(qau quz [.one (c18),.agg [Cell.int i12,Cell.int i13,Cell.int i14,c15]] []).bind fun r19=>cond (qab rk_fbn r19) ((cB (qaa r19 0) 0).bind fun b20=>cond b20 (some ([.one (Cell.bool true)],[])) (qbtb k m n (c9) i10 (IntKind.i64.wrap (i11+1)) i12 i13 i14 (c15))) none) (some ([.one (Cell.bool false)],[]))
def fag (k m:Nat)(c1:Cell)(i2 i3 i4:Int)(c5:Cell):Option Res:=(qau qft [.agg [Cell.int i2,Cell.int i3,Cell.int i4,c5]] []).bind fun r6=>cond (qab qpnb r6) ((cB (qaa r6 0) 0).bind fun b7=>cond (!b7) (some ([.one (Cell.bool false)],[])) ((lenC c1).bind fun n8=>qbtb k m m (c1) (n8:Int) 0 i2 i3 i4 (c5))) none
abbrev fag_l0_B (k m:Nat):TB:=evC G_fag qpm (evF G_fag (k+1)) m (sub [1,1,0,1,2,3] qpm.code) none
abbrev fag_l0_K (k m:Nat):TK:=qaz 0 (seqK (evC G_fag qpm (evF G_fag (k+1)) m (sub [1,1,1] qpm.code) none) (retK G_fag qpm))
theorem fag_l0_eq (k m:Nat):∀ (n:Nat) (c9:Cell) (i10 i11 i12 i13 i14:Int) (c15:Cell),qby (some [3,10,11,12]) (fag_l0_B k m) (fag_l0_K k m) n ⟨fT 20 0 [(3,.loc 3 0),(10,.av (.one (c9))),(11,.av (.one (Cell.int i10))),(12,.av (.one (Cell.int i11)))],fX 20 0 [(3,[Cell.int i12,Cell.int i13,Cell.int i14,c15])],[]⟩=qbtb (k+1) m n c9 i10 i11 i12 i13 i14 c15:=by
 intro n
 induction n with
 | zero=>intros;rfl
 | succ n ih=>intros;simp only[qbtb,← ih];kernel_rfl
theorem fag_code (k m:Nat)(c1:Cell)(i2 i3 i4:Int)(c5:Cell):evC G_fag qpm (evF G_fag (k+1)) m qpm.code none (retK G_fag qpm) (enter qpm [.one (c1),.agg [Cell.int i2,Cell.int i3,Cell.int i4,c5]] [])=fag (k+1) m c1 i2 i3 i4 c5:=by
 simp only[fag,← fag_l0_eq k m]
 kernel_rfl
theorem qrub {c1:Cell}{i2 i3 i4:Int}{c5:Cell}{r:Res}(k:Nat)(h:fag (k+1) (k+1) c1 i2 i3 i4 c5=some r):qqr [.one (c1),.agg [Cell.int i2,Cell.int i3,Cell.int i4,c5]] []=some r:=qap (k:=k+2) (Eq.trans (Eq.trans (by kernel_rfl) (fag_code k (k+1) c1 i2 i3 i4 c5)) h)
def pl_fai:List (Nat×Run):=[(qfob,qxm),(qhhb,qqr)]
def G_fai:Ctx:=ctx qbd qbc pl_fai
def quq:Run:=lim G_fai qdpb
theorem ok_fai:FnOk Tryz.prog OkT qdpb quq:=qal (l:=pl_fai) qae tyTab_ok qad okT (.cons ok_fan (.cons ok_fag .nil)) qdpb
def fai (k m:Nat)(s1 s2:ByteArray)(i3 i4 i5:Int)(c6:Cell):Option Res:=(callL qxm [.one (Cell.str s2)] []).bind fun r7=>cond (qab rk_fan r7.1) ((cC (qaa r7.1 0) 0).bind fun c8=>(cB (qaa r7.1 1) 0).bind fun b9=>cond b9 ((qau qqr [.one (c8),.agg [Cell.int i3,Cell.int i4,Cell.int i5,c6]] r7.2).bind fun r10=>cond (qab rk_fag r10) ((cB (qaa r10 0) 0).bind fun b11=>some ([.one (Cell.bool b11)],r7.2)) none) (some ([.one (Cell.bool false)],r7.2))) none
theorem fai_code (k m:Nat)(s1 s2:ByteArray)(i3 i4 i5:Int)(c6:Cell):evC G_fai qlob (evF G_fai (k+1)) m qlob.code none (retK G_fai qlob) (enter qlob [.agg [Cell.str s1,Cell.str s2],.agg [Cell.int i3,Cell.int i4,Cell.int i5,c6]] [])=fai (k+1) m s1 s2 i3 i4 i5 c6:=by
 kernel_rfl
theorem qovb {s1 s2:ByteArray}{i3 i4 i5:Int}{c6:Cell}{r:Res}(k:Nat)(h:fai (k+1) (k+1) s1 s2 i3 i4 i5 c6=some r):quq [.agg [Cell.str s1,Cell.str s2],.agg [Cell.int i3,Cell.int i4,Cell.int i5,c6]] []=some r:=qap (k:=k+2) (Eq.trans (Eq.trans (by kernel_rfl) (fai_code k (k+1) s1 s2 i3 i4 i5 c6)) h)
def pl_fbh:List (Nat×Run):=[(qud,qma),(qdpb,quq)]
def G_fbh:Ctx:=ctx qbd qbc pl_fbh
def qqi:Run:=lim G_fbh qehb
theorem ok_fbh:FnOk Tryz.prog OkT qehb qqi:=qal (l:=pl_fbh) qae tyTab_ok qad okT (.cons ok_fbk (.cons ok_fai .nil)) qehb
def qasb (k m:Nat):Nat→Cell→Cell→Int→Int→Option Res | 0,_,_,_,_=>none | n+1,c4,c5,i6,i7=>cond (decide (i7 < i6)) ((idxA 2 (c5) i7).bind fun c8=>(deref [] (c8)).bind fun p9=>(cS p9.1 p9.2).bind fun s10=>(cS p9.1 (p9.2+1)).bind fun s11=>(qau qma [.one (c4),.one (Cell.str s10)] []).bind fun r12=>cond (qab rk_fbk r12) ((cI .i64 (qaa r12 0) 0).bind fun i13=>cond (decide (i13 < 0)) (some ([.one (Cell.bool false)],[])) ((idxA 5 (c4) i13).bind fun c14=>(fldA c14 1).bind fun c15=>(deref [] (c15)).bind fun p16=>(cI .i64 p16.1 p16.2).bind fun i17=>(cI .i64 p16.1 (p16.2+1)).bind fun i18=>(cI .i64 p16.1 ((p16.2+1)+1)).bind fun i19=>(cC p16.1 (((p16.2+1)+1)+1)).bind fun c20=>(qau quq [.agg [Cell.str s10,Cell.str s11],.agg [Cell.int i17,Cell.int i18,Cell.int i19,c20]] []).bind fun r21=>cond (qab rk_fai r21) ((cB (qaa r21 0) 0).bind fun b22=>cond (!b22) (some ([.one (Cell.bool false)],[])) (qasb k m n (c4) (c5) i6 (IntKind.i64.wrap (i7+1)))) none)) none) (some ([.one (Cell.bool true)],[]))
def fbh (k m:Nat)(c1 c2:Cell):Option Res:=(lenC c1).bind fun n3=>qasb k m m (c2) (c1) (n3:Int) 0
abbrev fbh_l0_B (k m:Nat):TB:=evC G_fbh qoo (evF G_fbh (k+1)) m (sub [1,0,1,2,3] qoo.code) none
abbrev fbh_l0_K (k m:Nat):TK:=qaz 0 (seqK (evC G_fbh qoo (evF G_fbh (k+1)) m (sub [1,1] qoo.code) none) (retK G_fbh qoo))
theorem fbh_l0_eq (k m:Nat):∀ (n:Nat) (c4 c5:Cell) (i6 i7:Int),qby (some [1,8,9,10]) (fbh_l0_B k m) (fbh_l0_K k m) n ⟨fT 31 0 [(1,.av (.one (c4))),(8,.av (.one (c5))),(9,.av (.one (Cell.int i6))),(10,.av (.one (Cell.int i7)))],fX 31 0 [],[]⟩=qasb (k+1) m n c4 c5 i6 i7:=by
 intro n
 induction n with
 | zero=>intros;rfl
 | succ n ih=>intros;simp only[qasb,← ih];kernel_rfl
theorem fbh_code (k m:Nat)(c1 c2:Cell):evC G_fbh qoo (evF G_fbh (k+1)) m qoo.code none (retK G_fbh qoo) (enter qoo [.one (c1),.one (c2)] [])=fbh (k+1) m c1 c2:=by
 simp only[fbh,← fbh_l0_eq k m]
 kernel_rfl
theorem qrqb {c1 c2:Cell}{r:Res}(k:Nat)(h:fbh (k+1) (k+1) c1 c2=some r):qqi [.one (c1),.one (c2)] []=some r:=qap (k:=k+2) (Eq.trans (Eq.trans (by kernel_rfl) (fbh_code k (k+1) c1 c2)) h)
def pl_faq:List (Nat×Run):=[(qgqb,qyr),(qud,qma),(qehb,qqi)]
def G_faq:Ctx:=ctx qbd qbc pl_faq
def qql:Run:=lim G_faq qekb
theorem ok_faq:FnOk Tryz.prog OkT qekb qql:=qal (l:=pl_faq) qae tyTab_ok qad okT (.cons ok_fba (.cons ok_fbk (.cons ok_fbh .nil))) qekb
def qaeb (k m:Nat):Nat→Cell→Cell→Cell→Cell→Int→Int→Option Res | 0,_,_,_,_,_,_=>none | n+1,c5,c6,c7,c8,i9,i10=>cond (decide (i10 < i9)) ((idxA 5 (c8) i10).bind fun c11=>(deref [] (c11)).bind fun p12=>(cS p12.1 p12.2).bind fun s13=>(cI .i64 p12.1 (p12.2+1)).bind fun i14=>(cI .i64 p12.1 ((p12.2+1)+1)).bind fun i15=>(cI .i64 p12.1 (((p12.2+1)+1)+1)).bind fun i16=>(cC p12.1 ((((p12.2+1)+1)+1)+1)).bind fun c17=>(qau qyr [.one (c5),.one (Cell.str s13),.agg [Cell.int i14,Cell.int i15,Cell.int i16,c17]] []).bind fun r18=>cond (qab rk_fba r18) ((cI .i64 (qaa r18 0) 0).bind fun i19=>cond (decide (i19 < 0)) (some ([.one (Cell.bool false)],[])) ((qau qma [.one (c7),.one (Cell.str s13)] []).bind fun r20=>cond (qab rk_fbk r20) ((cI .i64 (qaa r20 0) 0).bind fun i21=>cond (i21 != i10) (some ([.one (Cell.bool false)],[])) ((idxA 6 (c5) i19).bind fun c22=>(fldA c22 5).bind fun c23=>(deref [] (c23)).bind fun p24=>(cC p24.1 p24.2).bind fun c25=>(qau qqi [.one (c25),.one (c7)] []).bind fun r26=>cond (qab rk_fbh r26) ((cB (qaa r26 0) 0).bind fun b27=>cond (!b27) (some ([.one (Cell.bool false)],[])) (qaeb k m n (c5) (c6) (c7) (c8) i9 (IntKind.i64.wrap (i10+1)))) none)) none)) none) ((qau qqi [.one (c6),.one (c7)] []).bind fun r28=>cond (qab rk_fbh r28) ((cB (qaa r28 0) 0).bind fun b29=>some ([.one (Cell.bool b29)],[])) none)
def faq (k m:Nat)(c1 c2 c3:Cell):Option Res:=(lenC c3).bind fun n4=>qaeb k m m (c1) (c2) (c3) (c3) (n4:Int) 0
abbrev faq_l0_B (k m:Nat):TB:=evC G_faq qlz (evF G_faq (k+1)) m (sub [1,0,1,2,3] qlz.code) none
abbrev faq_l0_K (k m:Nat):TK:=qaz 0 (seqK (evC G_faq qlz (evF G_faq (k+1)) m (sub [1,1] qlz.code) none) (retK G_faq qlz))
theorem faq_l0_eq (k m:Nat):∀ (n:Nat) (c5 c6 c7 c8:Cell) (i9 i10:Int),qby (some [0,1,2,10,11,12]) (faq_l0_B k m) (faq_l0_K k m) n ⟨fT 47 0 [(0,.av (.one (c5))),(1,.av (.one (c6))),(2,.av (.one (c7))),(10,.av (.one (c8))),(11,.av (.one (Cell.int i9))),(12,.av (.one (Cell.int i10)))],fX 47 0 [],[]⟩=qaeb (k+1) m n c5 c6 c7 c8 i9 i10:=by
 intro n
 induction n with
 | zero=>intros;rfl
 | succ n ih=>intros;simp only[qaeb,← ih];kernel_rfl
theorem faq_code (k m:Nat)(c1 c2 c3:Cell):evC G_faq qlz (evF G_faq (k+1)) m qlz.code none (retK G_faq qlz) (enter qlz [.one (c1),.one (c2),.one (c3)] [])=faq (k+1) m c1 c2 c3:=by
 simp only[faq,← faq_l0_eq k m]
 kernel_rfl
theorem qmpb {c1 c2 c3:Cell}{r:Res}(k:Nat)(h:faq (k+1) (k+1) c1 c2 c3=some r):qql [.one (c1),.one (c2),.one (c3)] []=some r:=qap (k:=k+2) (Eq.trans (Eq.trans (by kernel_rfl) (faq_code k (k+1) c1 c2 c3)) h)
def pl_fau:List (Nat×Run):=[]
def G_fau:Ctx:=ctx qbd qbc pl_fau
def qqj:Run:=lim G_fau qhkb
theorem ok_fau:FnOk Tryz.prog OkT qhkb qqj:=qal (l:=pl_fau) qae tyTab_ok qad okT .nil qhkb
def qbub (k m:Nat):Nat→Cell→Cell→Int→Int→List Entry→Option Res | 0,_,_,_,_,_=>none | n+1,c3,c4,i5,i6,H7=>cond (decide (i6 < i5)) ((idxA 4 (c4) i6).bind fun c8=>(deref H7 (c8)).bind fun p9=>(cS p9.1 p9.2).bind fun s10=>(cC p9.1 (p9.2+1)).bind fun c11=>(cC p9.1 ((p9.2+1)+1)).bind fun c12=>(cC p9.1 (((p9.2+1)+1)+1)).bind fun c13=>(qbr H7 2 c12).bind fun r14=>(app H7 2 32 (c3) r14).bind fun p15=>qbub k m n (p15.1) (c4) i5 (IntKind.i64.wrap (i6+1)) p15.2) (some ([.one (c3)],H7))
def fau (k m:Nat)(c1:Cell):Option Res:=(lenC c1).bind fun n2=>qbub k m m (.lst true 2 []) (c1) (n2:Int) 0 []
abbrev fau_l0_B (k m:Nat):TB:=evC G_fau qnp (evF G_fau (k+1)) m (sub [1,1,0,1,2,3] qnp.code) none
abbrev fau_l0_K (k m:Nat):TK:=qaz 0 (seqK (evC G_fau qnp (evF G_fau (k+1)) m (sub [1,1,1] qnp.code) none) (retK G_fau qnp))
theorem fau_l0_eq (k m:Nat):∀ (n:Nat) (c3 c4:Cell) (i5 i6:Int) (H7:List Entry),qby (some [3,6,7,8]) (fau_l0_B k m) (fau_l0_K k m) n ⟨fT 18 0 [(3,.av (.one (c3))),(6,.av (.one (c4))),(7,.av (.one (Cell.int i5))),(8,.av (.one (Cell.int i6)))],fX 18 0 [],H7⟩=qbub (k+1) m n c3 c4 i5 i6 H7:=by
 intro n
 induction n with
 | zero=>intros;rfl
 | succ n ih=>intros;simp only[qbub,← ih];kernel_rfl
theorem fau_code (k m:Nat)(c1:Cell):evC G_fau qnp (evF G_fau (k+1)) m qnp.code none (retK G_fau qnp) (enter qnp [.one (c1)] [])=fau (k+1) m c1:=by
 simp only[fau,← fau_l0_eq k m]
 kernel_rfl
theorem qrab {c1:Cell}{r:Res}(k:Nat)(h:fau (k+1) (k+1) c1=some r):qqj [.one (c1)] []=some r:=qap (k:=k+2) (Eq.trans (Eq.trans (by kernel_rfl) (fau_code k (k+1) c1)) h)
def pl_faj:List (Nat×Run):=[(qpo,qen),(qtr,qmn),(qot,qfg)]
def G_faj:Ctx:=ctx qbd qbc pl_faj
def qxs:Run:=lim G_faj qdub
theorem ok_faj:FnOk Tryz.prog OkT qdub qxs:=qal (l:=pl_faj) qae tyTab_ok qad okT (.cons ok_fbc (.cons ok_fbf (.cons ok_fbd .nil))) qdub
def qsn (k m:Nat):Nat→ByteArray→Int→Option Res | 0,_,_=>none | n+1,s2,i3=>cond (decide (i3 < (s2.size:Int))) ((bytS s2 i3).bind fun i4=>(qau qmn [.one (.sc (.int .u8 i4))] []).bind fun r5=>cond (qab rk_fbf r5) ((cB (qaa r5 0) 0).bind fun b6=>cond (!b6) (cond (i3==0) (some ([.one (Cell.bool false)],[])) ((bytS s2 i3).bind fun i7=>(qau qfg [.one (.sc (.int .u8 i7))] []).bind fun r8=>cond (qab qkvb r8) ((cB (qaa r8 0) 0).bind fun b9=>cond (!b9) ((bytS s2 i3).bind fun i10=>cond (i10 != 45) (some ([.one (Cell.bool false)],[])) (qsn k m n s2 (IntKind.i64.wrap (i3+1)))) (qsn k m n s2 (IntKind.i64.wrap (i3+1)))) none)) (qsn k m n s2 (IntKind.i64.wrap (i3+1)))) none) ((qau qen [.one (Cell.int (s2.size:Int)),.one (Cell.int 1),.one (Cell.int 10)] []).bind fun r11=>cond (qab qzz r11) ((cB (qaa r11 0) 0).bind fun b12=>some ([.one (Cell.bool b12)],[])) none)
def faj (k m:Nat)(s1:ByteArray):Option Res:=qsn k m m s1 0
abbrev faj_l0_B (k m:Nat):TB:=evC G_faj qpi (evF G_faj (k+1)) m (sub [1,0,1,2,3] qpi.code) none
abbrev faj_l0_K (k m:Nat):TK:=qaz 0 (seqK (evC G_faj qpi (evF G_faj (k+1)) m (sub [1,1] qpi.code) none) (retK G_faj qpi))
theorem faj_l0_eq (k m:Nat):∀ (n:Nat) (s2:ByteArray) (i3:Int),qby (some [0,3]) (faj_l0_B k m) (faj_l0_K k m) n ⟨fT 35 0 [(0,.av (.one (Cell.str s2))),(3,.av (.one (Cell.int i3)))],fX 35 0 [],[]⟩=qsn (k+1) m n s2 i3:=by
 intro n
 induction n with
 | zero=>intros;rfl
 | succ n ih=>intros;simp only[qsn,← ih];kernel_rfl
theorem faj_code (k m:Nat)(s1:ByteArray):evC G_faj qpi (evF G_faj (k+1)) m qpi.code none (retK G_faj qpi) (enter qpi [.one (Cell.str s1)] [])=faj (k+1) m s1:=by
 simp only[faj,← faj_l0_eq k m]
 kernel_rfl
theorem qnab {s1:ByteArray}{r:Res}(k:Nat)(h:faj (k+1) (k+1) s1=some r):qxs [.one (Cell.str s1)] []=some r:=qap (k:=k+2) (Eq.trans (Eq.trans (by kernel_rfl) (faj_code k (k+1) s1)) h)
def pl_fah:List (Nat×Run):=[(qdub,qxs),(qvh,qfs),(qlf,qft),(fid_fey,qui),(fid_fex,qetb)]
def G_fah:Ctx:=ctx qbd qbc pl_fah
def qld:Run:=lim G_fah qfbb
theorem ok_fah:FnOk Tryz.prog OkT qfbb qld:=qal (l:=pl_fah) qae tyTab_ok qad okT (.cons ok_faj (.cons ok_fat (.cons ok_fas (.cons ok_fey (.cons ok_fex .nil))))) qfbb
def qyb (k m:Nat):Nat→Cell→Cell→Int→Int→List Entry→Option Res | 0,_,_,_,_,_=>none | n+1,c4,c5,i6,i7,H8=>cond (decide (i7 < i6)) ((idxA 5 (c5) i7).bind fun c9=>(deref H8 (c9)).bind fun p10=>(cS p10.1 p10.2).bind fun s11=>(cI .i64 p10.1 (p10.2+1)).bind fun i12=>(cI .i64 p10.1 ((p10.2+1)+1)).bind fun i13=>(cI .i64 p10.1 (((p10.2+1)+1)+1)).bind fun i14=>(cC p10.1 ((((p10.2+1)+1)+1)+1)).bind fun c15=>(qau qxs [.one (Cell.str s11)] H8).bind fun r16=>cond (qab rk_faj r16) ((cB (qaa r16 0) 0).bind fun b17=>cond (!b17) (some ([.one (Cell.str (bs []))],H8)) ((qau qft [.agg [Cell.int i12,Cell.int i13,Cell.int i14,c15]] H8).bind fun r18=>cond (qab qpnb r18) ((cB (qaa r18 0) 0).bind fun b19=>cond (!b19) (some ([.one (Cell.str (bs []))],H8)) (cond (decide (i7 > 0)) ((idxA 5 (c4) (IntKind.i64.wrap (i7 - 1))).bind fun c20=>(fldA c20 0).bind fun c21=>(deref H8 (c21)).bind fun p22=>(cS p22.1 p22.2).bind fun s23=>cond (Op.bytesLess s11.toList s23.toList||s11.toList==s23.toList) (some ([.one (Cell.str (bs []))],H8)) ((catS s11 (bs [64])).bind fun s24=>(qau qfs [.agg [Cell.int i12,Cell.int i13,Cell.int i14,c15]] []).bind fun r25=>cond (qab qpbb r25) ((cS (qaa r25 0) 0).bind fun s26=>(catS s24 s26).bind fun s27=>(catS s27 (bs [10])).bind fun s28=>(qui [.one (.bl 215 5 0 0),.one (Cell.str s28)] H8).bind fun r29=>cond (qab rk_fey r29.1) ((cI .i64 (qaa r29.1 0) 0).bind fun i30=>(cC (qaa r29.1 1) 0).bind fun c31=>qyb k m n (c4) (c5) i6 (IntKind.i64.wrap (i7+1)) r29.2) none) none)) ((catS s11 (bs [64])).bind fun s32=>(qau qfs [.agg [Cell.int i12,Cell.int i13,Cell.int i14,c15]] []).bind fun r33=>cond (qab qpbb r33) ((cS (qaa r33 0) 0).bind fun s34=>(catS s32 s34).bind fun s35=>(catS s35 (bs [10])).bind fun s36=>(qui [.one (.bl 215 5 0 0),.one (Cell.str s36)] H8).bind fun r37=>cond (qab rk_fey r37.1) ((cI .i64 (qaa r37.1 0) 0).bind fun i38=>(cC (qaa r37.1 1) 0).bind fun c39=>qyb k m n (c4) (c5) i6 (IntKind.i64.wrap (i7+1)) r37.2) none) none))) none)) none) ((qetb [.one (.bl 215 5 0 0)] H8).bind fun r40=>cond (qab rk_fex r40.1) ((cS (qaa r40.1 0) 0).bind fun s41=>some ([.one (Cell.str s41)],r40.2)) none)
def fah (k m:Nat)(c1:Cell):Option Res:=(lenC c1).bind fun n2=>cond (decide ((n2:Int) > 12)) (some ([.one (Cell.str (bs []))],[])) ((lenC c1).bind fun n3=>qyb k m m (c1) (c1) (n3:Int) 0 [Entry.mk 1 [[Cell.str (bs [])]] 0 false,Entry.mk 1 [] 0 false])
abbrev fah_l0_B (k m:Nat):TB:=evC G_fah qml (evF G_fah (k+1)) m (sub [1,1,1,0,1,2,3] qml.code) none
abbrev fah_l0_K (k m:Nat):TK:=qaz 0 (seqK (evC G_fah qml (evF G_fah (k+1)) m (sub [1,1,1,1] qml.code) none) (retK G_fah qml))
theorem fah_l0_eq (k m:Nat):∀ (n:Nat) (c4 c5:Cell) (i6 i7:Int) (H8:List Entry),qby (some [0,3,9,10,11]) (fah_l0_B k m) (fah_l0_K k m) n ⟨fT 52 0 [(0,.av (.one (c4))),(3,.av (.one (.bl 215 5 0 0))),(9,.av (.one (c5))),(10,.av (.one (Cell.int i6))),(11,.av (.one (Cell.int i7)))],fX 52 0 [],H8⟩=qyb (k+1) m n c4 c5 i6 i7 H8:=by
 intro n
 induction n with
 | zero=>intros;rfl
 | succ n ih=>intros;simp only[qyb,← ih];kernel_rfl
theorem fah_code (k m:Nat)(c1:Cell):evC G_fah qml (evF G_fah (k+1)) m qml.code none (retK G_fah qml) (enter qml [.one (c1)] [])=fah (k+1) m c1:=by
 simp only[fah,← fah_l0_eq k m]
 kernel_rfl
theorem qux {c1:Cell}{r:Res}(k:Nat)(h:fah (k+1) (k+1) c1=some r):qld [.one (c1)] []=some r:=qap (k:=k+2) (Eq.trans (Eq.trans (by kernel_rfl) (fah_code k (k+1) c1)) h)
def pl_fal:List (Nat×Run):=[(qvg,qfr),(qrg,qfj),(qfbb,qld)]
def G_fal:Ctx:=ctx qbd qbc pl_fal
def qyj:Run:=lim G_fal qhnb
theorem ok_fal:FnOk Tryz.prog OkT qhnb qyj:=qal (l:=pl_fal) qae tyTab_ok qad okT (.cons ok_ffa (.cons ok_fao (.cons ok_fah .nil))) qhnb
def qaob (k m:Nat):Nat→ByteArray→Cell→ByteArray→List Entry→Option Res | 0,_,_,_,_=>none | n+1,s2,c3,s4,H5=>cond (!(s4.toList==(bs []).toList)) ((lenC c3).bind fun n6=>cond (decide ((n6:Int)≤12)) ((qau qfr [.one (Cell.str s4),.one (Cell.str (bs [10]))] H5).bind fun r7=>cond (qab rk_ffa r7) ((cS (qaa r7 0) 0).bind fun s8=>(cS (qaa r7 1) 0).bind fun s9=>(cB (qaa r7 2) 0).bind fun b10=>(qau qfr [.one (Cell.str s8),.one (Cell.str (bs [64]))] H5).bind fun r11=>cond (qab rk_ffa r11) ((cS (qaa r11 0) 0).bind fun s12=>(cS (qaa r11 1) 0).bind fun s13=>(cB (qaa r11 2) 0).bind fun b14=>(qjx qfj [.one (Cell.str s13)] H5).bind fun r15=>cond (qab qnhb r15.1) ((cI .i64 (qaa r15.1 0) 0).bind fun i16=>(cI .i64 (qaa r15.1 0) 1).bind fun i17=>(cI .i64 (qaa r15.1 0) 2).bind fun i18=>(cC (qaa r15.1 0) 3).bind fun c19=>(cB (qaa r15.1 1) 0).bind fun b20=>cond (!b20) (some ([.one (.lst true 5 []),.one (Cell.bool false)],r15.2)) ((qbr (r15.2++[Entry.mk 5 [[Cell.str s12,Cell.int i16,Cell.int i17,Cell.int i18,c19]] 0 false]) 5 (.vs r15.2.length 5 0 1 0)).bind fun r21=>(app (r15.2++[Entry.mk 5 [[Cell.str s12,Cell.int i16,Cell.int i17,Cell.int i18,c19]] 0 false]) 5 64 (c3) r21).bind fun p22=>qaob k m n s2 (p22.1) s9 p22.2)) none) none) none) ((qau qld [.one (c3)] H5).bind fun r23=>cond (qab rk_fah r23) ((cS (qaa r23 0) 0).bind fun s24=>cond (!(s24.toList==s2.toList)) (some ([.one (.lst true 5 []),.one (Cell.bool false)],H5)) (some ([.one (c3),.one (Cell.bool true)],H5))) none)) ((qau qld [.one (c3)] H5).bind fun r25=>cond (qab rk_fah r25) ((cS (qaa r25 0) 0).bind fun s26=>cond (!(s26.toList==s2.toList)) (some ([.one (.lst true 5 []),.one (Cell.bool false)],H5)) (some ([.one (c3),.one (Cell.bool true)],H5))) none)
def fal (k m:Nat)(s1:ByteArray):Option Res:=qaob k m m s1 (.lst true 5 []) s1 []
abbrev fal_l0_B (k m:Nat):TB:=evC G_fal qlm (evF G_fal (k+1)) m (sub [1,1,0,1,2,3] qlm.code) none
abbrev fal_l0_K (k m:Nat):TK:=qaz 0 (seqK (evC G_fal qlm (evF G_fal (k+1)) m (sub [1,1,1] qlm.code) none) (retK G_fal qlm))
theorem fal_l0_eq (k m:Nat):∀ (n:Nat) (s2:ByteArray) (c3:Cell) (s4:ByteArray) (H5:List Entry),qby (some [0,4,5]) (fal_l0_B k m) (fal_l0_K k m) n ⟨fT 53 0 [(0,.av (.one (Cell.str s2))),(4,.av (.one (c3))),(5,.av (.one (Cell.str s4)))],fX 53 0 [],H5⟩=qaob (k+1) m n s2 c3 s4 H5:=by
 intro n
 induction n with
 | zero=>intros;rfl
 | succ n ih=>intros;simp only[qaob,← ih];kernel_rfl
theorem fal_code (k m:Nat)(s1:ByteArray):evC G_fal qlm (evF G_fal (k+1)) m qlm.code none (retK G_fal qlm) (enter qlm [.one (Cell.str s1)] [])=fal (k+1) m s1:=by
 simp only[fal,← fal_l0_eq k m]
 kernel_rfl
theorem qqwb {s1:ByteArray}{r:Res}(k:Nat)(h:fal (k+1) (k+1) s1=some r):qyj [.one (Cell.str s1)] []=some r:=qap (k:=k+2) (Eq.trans (Eq.trans (by kernel_rfl) (fal_code k (k+1) s1)) h)
def pl_far:List (Nat×Run):=[(qekb,qql),(qhkb,qqj),(qhnb,qyj)]
def G_far:Ctx:=ctx qbd qbc pl_far
def qwi:Run:=lim G_far qcgb
theorem ok_far:FnOk Tryz.prog OkT qcgb qwi:=qal (l:=pl_far) qae tyTab_ok qad okT (.cons ok_faq (.cons ok_fau (.cons ok_fal .nil))) qcgb
def far (k m:Nat)(c1 c2:Cell)(s3:ByteArray):Option Res:=(qjx qyj [.one (Cell.str s3)] []).bind fun r4=>cond (qab rk_fal r4.1) ((cC (qaa r4.1 0) 0).bind fun c5=>(cB (qaa r4.1 1) 0).bind fun b6=>cond (!b6) (some ([.one (Cell.bool true)],r4.2)) ((callL qqj [.one (c2)] r4.2).bind fun r7=>cond (qab rk_fau r7.1) ((cC (qaa r7.1 0) 0).bind fun c8=>(qau qql [.one (c1),.one (c8),.one (c5)] r7.2).bind fun r9=>cond (qab rk_faq r9) ((cB (qaa r9 0) 0).bind fun b10=>some ([.one (Cell.bool (!b10))],r7.2)) none) none)) none
theorem far_code (k m:Nat)(c1 c2:Cell)(s3:ByteArray):evC G_far qipb (evF G_far (k+1)) m qipb.code none (retK G_far qipb) (enter qipb [.one (c1),.one (c2),.one (Cell.str s3)] [])=far (k+1) m c1 c2 s3:=by
 kernel_rfl
theorem qrrb {c1 c2:Cell}{s3:ByteArray}{r:Res}(k:Nat)(h:far (k+1) (k+1) c1 c2 s3=some r):qwi [.one (c1),.one (c2),.one (Cell.str s3)] []=some r:=qap (k:=k+2) (Eq.trans (Eq.trans (by kernel_rfl) (far_code k (k+1) c1 c2 s3)) h)
def pl_fby:List (Nat×Run):=[(qqo,qjd)]
def G_fby:Ctx:=ctx qbd qbc pl_fby
def quc:Run:=lim G_fby qhbb
theorem ok_fby:FnOk Tryz.prog OkT qhbb quc:=qal (l:=pl_fby) qae tyTab_ok qad okT (.cons ok_fcg .nil) qhbb
def fby (k m:Nat)(s1:ByteArray)(c2:Cell)(s3:ByteArray)(c4:Cell):Option Res:=cond (!(s1.toList==s3.toList)) (some ([.one (Cell.bool false)],[])) ((qau qjd [.one (c2),.one (c4)] []).bind fun r5=>cond (qab rk_fcg r5) ((cB (qaa r5 0) 0).bind fun b6=>cond (!b6) (some ([.one (Cell.bool false)],[])) (some ([.one (Cell.bool true)],[]))) none)
theorem fby_code (k m:Nat)(s1:ByteArray)(c2:Cell)(s3:ByteArray)(c4:Cell):evC G_fby qkhb (evF G_fby (k+1)) m qkhb.code none (retK G_fby qkhb) (enter qkhb [.agg [Cell.str s1,c2],.agg [Cell.str s3,c4]] [])=fby (k+1) m s1 c2 s3 c4:=by
 kernel_rfl
theorem qpsb {s1:ByteArray}{c2:Cell}{s3:ByteArray}{c4:Cell}{r:Res}(k:Nat)(h:fby (k+1) (k+1) s1 c2 s3 c4=some r):quc [.agg [Cell.str s1,c2],.agg [Cell.str s3,c4]] []=some r:=qap (k:=k+2) (Eq.trans (Eq.trans (by kernel_rfl) (fby_code k (k+1) s1 c2 s3 c4)) h)
def pl_fbz:List (Nat×Run):=[(qhbb,quc)]
def G_fbz:Ctx:=ctx qbd qbc pl_fbz
def quy:Run:=lim G_fbz qgib
theorem ok_fbz:FnOk Tryz.prog OkT qgib quy:=qal (l:=pl_fbz) qae tyTab_ok qad okT (.cons ok_fby .nil) qgib
def qzy (k m:Nat):Nat→Cell→Cell→Int→Option Res | 0,_,_,_=>none | n+1,c5,c6,i7=>(lenC c5).bind fun n8=>cond (decide (i7 < (n8:Int))) ((idxA 2 (c5) i7).bind fun c9=>(deref [] (c9)).bind fun p10=>(cS p10.1 p10.2).bind fun s11=>(cC p10.1 (p10.2+1)).bind fun c12=>(idxA 2 (c6) i7).bind fun c13=>(deref [] (c13)).bind fun p14=>(cS p14.1 p14.2).bind fun s15=>(cC p14.1 (p14.2+1)).bind fun c16=>(qau quc [.agg [Cell.str s11,c12],.agg [Cell.str s15,c16]] []).bind fun r17=>cond (qab rk_fby r17) ((cB (qaa r17 0) 0).bind fun b18=>cond (!b18) (some ([.one (Cell.bool false)],[])) (qzy k m n (c5) (c6) (IntKind.i64.wrap (i7+1)))) none) (some ([.one (Cell.bool true)],[]))
def fbz (k m:Nat)(c1 c2:Cell):Option Res:=(lenC c1).bind fun n3=>(lenC c2).bind fun n4=>cond ((n3:Int) != (n4:Int)) (some ([.one (Cell.bool false)],[])) (qzy k m m (c1) (c2) 0)
abbrev fbz_l0_B (k m:Nat):TB:=evC G_fbz qpg (evF G_fbz (k+1)) m (sub [1,1,0,1,2,3] qpg.code) none
abbrev fbz_l0_K (k m:Nat):TK:=qaz 0 (seqK (evC G_fbz qpg (evF G_fbz (k+1)) m (sub [1,1,1] qpg.code) none) (retK G_fbz qpg))
theorem fbz_l0_eq (k m:Nat):∀ (n:Nat) (c5 c6:Cell) (i7:Int),qby (some [0,1,5]) (fbz_l0_B k m) (fbz_l0_K k m) n ⟨fT 27 0 [(0,.av (.one (c5))),(1,.av (.one (c6))),(5,.av (.one (Cell.int i7)))],fX 27 0 [],[]⟩=qzy (k+1) m n c5 c6 i7:=by
 intro n
 induction n with
 | zero=>intros;rfl
 | succ n ih=>intros;simp only[qzy,← ih];kernel_rfl
theorem fbz_code (k m:Nat)(c1 c2:Cell):evC G_fbz qpg (evF G_fbz (k+1)) m qpg.code none (retK G_fbz qpg) (enter qpg [.one (c1),.one (c2)] [])=fbz (k+1) m c1 c2:=by
 simp only[fbz,← fbz_l0_eq k m]
 kernel_rfl
theorem qotb {c1 c2:Cell}{r:Res}(k:Nat)(h:fbz (k+1) (k+1) c1 c2=some r):quy [.one (c1),.one (c2)] []=some r:=qap (k:=k+2) (Eq.trans (Eq.trans (by kernel_rfl) (fbz_code k (k+1) c1 c2)) h)
end
end Go.Ev
