/- What the evaluator says of the functions, each as a Lean function over cells. Printed by a program of this claim. Conditions: none. -/
import Derived.Test.YteenbnljpddleaaGreatDoorSh4
import Derived.KernelRfl
namespace Go.Ev
open Go Go.Proofs
noncomputable section
set_option maxRecDepth 100000
set_option linter.unusedVariables false
set_option linter.unusedSimpArgs false
def qamd:List (Nat×Run):=[(qje,qdb),(qxw,qpn),(qnq,qfp),(qefb,qyh)]
def qxab:Ctx:=ctx qbh qbg qamd
def qvc:Run:=lim qxab qcsb
theorem ok_fbj:FnOk Tryz.prog OkT qcsb qvc:=qaq (l:=qamd) qac tyTab_ok qad okT (.cons qiyb (.cons qaed (.cons qwxb (.cons ok_fax .nil)))) qcsb
def qkp (k m:Nat):Nat→ByteArray→Int→Option Res | 0,_,_=>none | n+1,s2,i3=>cond (decide (i3 < (s2.size:Int))) ((bytS s2 i3).bind fun i4=>(qak qpn [.one (.sc (.int .u8 i4))] []).bind fun r5=>cond (qab qqxc r5) ((cB (qaa r5 0) 0).bind fun b6=>cond (!b6) (cond (decide (i4≥65)) (cond (!(decide (i4≤90))) ((qak qfp [.one (.sc (.int .u8 i4))] []).bind fun r7=>cond (qab qieb r7) ((cB (qaa r7 0) 0).bind fun b8=>cond (!b8) (cond (i4 != 45) (some ([.one (Cell.bool false)],[])) (qkp k m n s2 (IntKind.i64.wrap (i3+1)))) (qkp k m n s2 (IntKind.i64.wrap (i3+1)))) none) (qkp k m n s2 (IntKind.i64.wrap (i3+1)))) ((qak qfp [.one (.sc (.int .u8 i4))] []).bind fun r9=>cond (qab qieb r9) ((cB (qaa r9 0) 0).bind fun b10=>cond (!b10) (cond (i4 != 45) (some ([.one (Cell.bool false)],[])) (qkp k m n s2 (IntKind.i64.wrap (i3+1)))) (qkp k m n s2 (IntKind.i64.wrap (i3+1)))) none)) (qkp k m n s2 (IntKind.i64.wrap (i3+1)))) none) ((qak qdb [.one (Cell.int (s2.size:Int)),.one (Cell.int 1),.one (Cell.int 8)] []).bind fun r11=>cond (qab qqg r11) ((cB (qaa r11 0) 0).bind fun b12=>cond b12 ((qak qyh [.one (Cell.str s2)] []).bind fun r13=>cond (qab qdnd r13) ((cB (qaa r13 0) 0).bind fun b14=>cond (!b14) (some ([.one (Cell.bool true)],[])) (cond (s2.toList==(bs [48]).toList) (some ([.one (Cell.bool true)],[])) ((bytS s2 0).bind fun i15=>some ([.one (Cell.bool (i15 != 48))],[])))) none) (some ([.one (Cell.bool false)],[]))) none)
def fbj (k m:Nat)(s1:ByteArray):Option Res:=qkp k m m s1 0
abbrev qjzc (k m:Nat):TB:=evC qxab qof (evF qxab (k+1)) m (sub [1,0,1,2,3] qof.code) none
abbrev qqpc (k m:Nat):TK:=qay 0 (seqK (evC qxab qof (evF qxab (k+1)) m (sub [1,1] qof.code) none) (retK qxab qof))
theorem qazc (k m:Nat):∀ (n:Nat) (s2:ByteArray) (i3:Int),qca (some [0,3]) (qjzc k m) (qqpc k m) n ⟨fT 52 0 [(0,.av (.one (Cell.str s2))),(3,.av (.one (Cell.int i3)))],fX 52 0 [],[]⟩=qkp (k+1) m n s2 i3:=by
 intro n
 induction n with
 | zero=>intros;rfl
 | succ n ih=>intros;simp only[qkp,← ih];kernel_rfl
theorem qiwc (k m:Nat)(s1:ByteArray):evC qxab qof (evF qxab (k+1)) m qof.code none (retK qxab qof) (enter qof [.one (Cell.str s1)] [])=fbj (k+1) m s1:=by
 simp only[fbj,← qazc k m]
 kernel_rfl
theorem qqjb {s1:ByteArray}{r:Res}(k:Nat)(h:fbj (k+1) (k+1) s1=some r):qvc [.one (Cell.str s1)] []=some r:=qas (k:=k+2) (Eq.trans (Eq.trans (by kernel_rfl) (qiwc k (k+1) s1)) h)
def qakd:List (Nat×Run):=[(qje,qdb),(qcsb,qvc)]
def qdoc:Ctx:=ctx qbh qbg qakd
def qpc:Run:=lim qdoc qxa
theorem qcpd:FnOk Tryz.prog OkT qxa qpc:=qaq (l:=qakd) qac tyTab_ok qad okT (.cons qiyb (.cons ok_fbj .nil)) qxa
def qzy (k m:Nat):Nat→Cell→Int→Int→Int→Int→Int→Cell→Option Res | 0,_,_,_,_,_,_,_=>none | n+1,c6,i7,i8,i9,i10,i11,c12=>cond (decide (i8 < i7)) ((idxA 1 (c6) i8).bind fun c13=>(deref [] (c13)).bind fun p14=>(cS p14.1 p14.2).bind fun s15=>(qak qvc [.one (Cell.str s15)] []).bind fun r16=>cond (qab qufc r16) ((cB (qaa r16 0) 0).bind fun b17=>cond (!b17) (some ([.one (Cell.bool false)],[])) (qzy k m n (c6) i7 (IntKind.i64.wrap (i8+1)) i9 i10 i11 (c12))) none) ((qak qdb [.one (Cell.int i9),.one (Cell.int 0),.one (Cell.int 9999)] []).bind fun r18=>cond (qab qqg r18) ((cB (qaa r18 0) 0).bind fun b19=>cond b19 ((qak qdb [.one (Cell.int i10),.one (Cell.int 0),.one (Cell.int 9999)] []).bind fun r20=>cond (qab qqg r20) ((cB (qaa r20 0) 0).bind fun b21=>cond b21 ((qak qdb [.one (Cell.int i11),.one (Cell.int 0),.one (Cell.int 9999)] []).bind fun r22=>cond (qab qqg r22) ((cB (qaa r22 0) 0).bind fun b23=>cond b23 ((lenC c12).bind fun n24=>some ([.one (Cell.bool (decide ((n24:Int)≤3)))],[])) (some ([.one (Cell.bool false)],[]))) none) (some ([.one (Cell.bool false)],[]))) none) (some ([.one (Cell.bool false)],[]))) none)
def fan (k m:Nat)(i1 i2 i3:Int)(c4:Cell):Option Res:=(lenC c4).bind fun n5=>qzy k m m (c4) (n5:Int) 0 i1 i2 i3 (c4)
abbrev qisc (k m:Nat):TB:=evC qdoc qmh (evF qdoc (k+1)) m (sub [1,0,1,2,3] qmh.code) none
abbrev qhdc (k m:Nat):TK:=qay 0 (seqK (evC qdoc qmh (evF qdoc (k+1)) m (sub [1,1] qmh.code) none) (retK qdoc qmh))
theorem quwb (k m:Nat):∀ (n:Nat) (c6:Cell) (i7 i8 i9 i10 i11:Int) (c12:Cell),qca (some [1,6,7,8]) (qisc k m) (qhdc k m) n ⟨fT 35 0 [(1,.loc 1 0),(6,.av (.one (c6))),(7,.av (.one (Cell.int i7))),(8,.av (.one (Cell.int i8)))],fX 35 0 [(1,[Cell.int i9,Cell.int i10,Cell.int i11,c12])],[]⟩=qzy (k+1) m n c6 i7 i8 i9 i10 i11 c12:=by
 intro n
 induction n with
 | zero=>intros;rfl
 | succ n ih=>intros;simp only[qzy,← ih];kernel_rfl
theorem qnec (k m:Nat)(i1 i2 i3:Int)(c4:Cell):evC qdoc qmh (evF qdoc (k+1)) m qmh.code none (retK qdoc qmh) (enter qmh [.agg [Cell.int i1,Cell.int i2,Cell.int i3,c4]] [])=fan (k+1) m i1 i2 i3 c4:=by
 simp only[fan,← quwb k m]
 kernel_rfl
theorem qqgb {i1 i2 i3:Int}{c4:Cell}{r:Res}(k:Nat)(h:fan (k+1) (k+1) i1 i2 i3 c4=some r):qpc [.agg [Cell.int i1,Cell.int i2,Cell.int i3,c4]] []=some r:=qas (k:=k+2) (Eq.trans (Eq.trans (by kernel_rfl) (qnec k (k+1) i1 i2 i3 c4)) h)
def qbhd:List (Nat×Run):=[(qxa,qpc),(qye,qix),(qeec,qfvb)]
def qeod:Ctx:=ctx qbh qbg qbhd
def qki:Run:=lim qeod qfwb
theorem ok_fao:FnOk Tryz.prog OkT qfwb qki:=qaq (l:=qbhd) qac tyTab_ok qad okT (.cons qcpd (.cons qdud (.cons ok_fen .nil))) qfwb
def fao (k m:Nat)(i1 i2 i3:Int)(c4:Cell):Option Res:=(qak qpc [.agg [Cell.int i1,Cell.int i2,Cell.int i3,c4]] []).bind fun r5=>cond (qab qrhc r5) ((cB (qaa r5 0) 0).bind fun b6=>cond (!b6) (some ([.one (Cell.str (bs []))],[])) ((qak qix [.one (Cell.int i1)] []).bind fun r7=>cond (qab qnmb r7) ((cS (qaa r7 0) 0).bind fun s8=>(catS s8 (bs [46])).bind fun s9=>(qak qix [.one (Cell.int i2)] []).bind fun r10=>cond (qab qnmb r10) ((cS (qaa r10 0) 0).bind fun s11=>(catS s9 s11).bind fun s12=>(catS s12 (bs [46])).bind fun s13=>(qak qix [.one (Cell.int i3)] []).bind fun r14=>cond (qab qnmb r14) ((cS (qaa r14 0) 0).bind fun s15=>(catS s13 s15).bind fun s16=>(lenC c4).bind fun n17=>cond (decide ((n17:Int) > 0)) ((qak qfvb [.one (c4),.one (Cell.str (bs [46]))] []).bind fun r18=>cond (qab qxcc r18) ((cS (qaa r18 0) 0).bind fun s19=>(catS (bs [45]) s19).bind fun s20=>(catS s16 s20).bind fun s21=>some ([.one (Cell.str s21)],[])) none) (some ([.one (Cell.str s16)],[]))) none) none) none)) none
theorem qkmc (k m:Nat)(i1 i2 i3:Int)(c4:Cell):evC qeod qijb (evF qeod (k+1)) m qijb.code none (retK qeod qijb) (enter qijb [.agg [Cell.int i1,Cell.int i2,Cell.int i3,c4]] [])=fao (k+1) m i1 i2 i3 c4:=by
 kernel_rfl
theorem qodb {i1 i2 i3:Int}{c4:Cell}{r:Res}(k:Nat)(h:fao (k+1) (k+1) i1 i2 i3 c4=some r):qki [.agg [Cell.int i1,Cell.int i2,Cell.int i3,c4]] []=some r:=qas (k:=k+2) (Eq.trans (Eq.trans (by kernel_rfl) (qkmc k (k+1) i1 i2 i3 c4)) h)
def qzrc:List (Nat×Run):=[(qcqb,qrj),(qlx,qex),(qvu,qio),(qfwb,qki)]
def qapc:Ctx:=ctx qbh qbg qzrc
def qhg:Run:=lim qapc qvd
theorem qwzc:FnOk Tryz.prog OkT qvd qhg:=qaq (l:=qzrc) qac tyTab_ok qad okT (.cons ok_fek (.cons qsxb (.cons qvac (.cons ok_fao .nil)))) qvd
def qpq (k m:Nat):Nat→ByteArray→ByteArray→Bool→Cell→Cell→Cell→Cell→Cell→Int→List Entry→Option Res | 0,_,_,_,_,_,_,_,_,_,_=>none | n+1,s9,s10,b11,c12,c13,c14,c15,c16,i17,H18=>cond (decide (i17 < 3)) (if 0≤i17∧i17 < 3 then ((cC [c14,c15,c16] (i17.toNat*1)).bind fun c19=>(idxA 1 (c12) i17).bind fun c20=>(deref H18 (c20)).bind fun p21=>(cS p21.1 p21.2).bind fun s22=>(qak qio [.one (Cell.str s22),.one (Cell.int 9999)] H18).bind fun r23=>cond (qab qjac r23) ((cI .i64 (qaa r23 0) 0).bind fun i24=>(cB (qaa r23 1) 0).bind fun b25=>cond (!b25) (some ([.agg [Cell.int 0,Cell.int 0,Cell.int 0,.lst true 1 []],.one (Cell.bool false)],H18)) ((ptrC c19).bind fun c26=>(qbm H18 (c26) [Cell.int i24]).bind fun h27=>qpq k m n s9 s10 b11 (c12) (c13) (c14) (c15) (c16) (IntKind.i64.wrap (i17+1)) h27)) none) else none) (cond b11 ((qek qex [.one (Cell.str s10),.one (Cell.str (bs [46]))] H18).bind fun r28=>cond (qab qikb r28.1) ((cC (qaa r28.1 0) 0).bind fun c29=>(fldA c13 3).bind fun c30=>(qbm r28.2 (c30) [c29]).bind fun h31=>(deref h31 (c13)).bind fun p32=>(cI .i64 p32.1 p32.2).bind fun i33=>(cI .i64 p32.1 (p32.2+1)).bind fun i34=>(cI .i64 p32.1 ((p32.2+1)+1)).bind fun i35=>(cC p32.1 (((p32.2+1)+1)+1)).bind fun c36=>(qak qki [.agg [Cell.int i33,Cell.int i34,Cell.int i35,c36]] h31).bind fun r37=>cond (qab qqyc r37) ((cS (qaa r37 0) 0).bind fun s38=>cond (!(s38.toList==s9.toList)) (some ([.agg [Cell.int 0,Cell.int 0,Cell.int 0,.lst true 1 []],.one (Cell.bool false)],h31)) ((deref h31 (c13)).bind fun p39=>(cI .i64 p39.1 p39.2).bind fun i40=>(cI .i64 p39.1 (p39.2+1)).bind fun i41=>(cI .i64 p39.1 ((p39.2+1)+1)).bind fun i42=>(cC p39.1 (((p39.2+1)+1)+1)).bind fun c43=>some ([.agg [Cell.int i40,Cell.int i41,Cell.int i42,c43],.one (Cell.bool true)],h31))) none) none) ((deref H18 (c13)).bind fun p44=>(cI .i64 p44.1 p44.2).bind fun i45=>(cI .i64 p44.1 (p44.2+1)).bind fun i46=>(cI .i64 p44.1 ((p44.2+1)+1)).bind fun i47=>(cC p44.1 (((p44.2+1)+1)+1)).bind fun c48=>(qak qki [.agg [Cell.int i45,Cell.int i46,Cell.int i47,c48]] H18).bind fun r49=>cond (qab qqyc r49) ((cS (qaa r49 0) 0).bind fun s50=>cond (!(s50.toList==s9.toList)) (some ([.agg [Cell.int 0,Cell.int 0,Cell.int 0,.lst true 1 []],.one (Cell.bool false)],H18)) ((deref H18 (c13)).bind fun p51=>(cI .i64 p51.1 p51.2).bind fun i52=>(cI .i64 p51.1 (p51.2+1)).bind fun i53=>(cI .i64 p51.1 ((p51.2+1)+1)).bind fun i54=>(cC p51.1 (((p51.2+1)+1)+1)).bind fun c55=>some ([.agg [Cell.int i52,Cell.int i53,Cell.int i54,c55],.one (Cell.bool true)],H18))) none))
def fah (k m:Nat)(s1:ByteArray):Option Res:=(qak qrj [.one (Cell.str s1),.one (Cell.str (bs [45]))] []).bind fun r2=>cond (qab qaid r2) ((cS (qaa r2 0) 0).bind fun s3=>(cS (qaa r2 1) 0).bind fun s4=>(cB (qaa r2 2) 0).bind fun b5=>(qek qex [.one (Cell.str s3),.one (Cell.str (bs [46]))] []).bind fun r6=>cond (qab qikb r6.1) ((cC (qaa r6.1 0) 0).bind fun c7=>(lenC c7).bind fun n8=>cond ((n8:Int) != 3) (some ([.agg [Cell.int 0,Cell.int 0,Cell.int 0,.lst true 1 []],.one (Cell.bool false)],r6.2)) (qpq k m m s1 s4 b5 (c7) (.ptr r6.2.length 4 0 0 0) (.ptr r6.2.length 4 0 0 0) (.ptr r6.2.length 4 0 1 0) (.ptr r6.2.length 4 0 2 0) 0 (r6.2++[Entry.mk 4 [[Cell.int 0,Cell.int 0,Cell.int 0,.lst true 1 []]] 0 false]))) none) none
abbrev qpac (k m:Nat):TB:=evC qapc qmr (evF qapc (k+1)) m (sub [1,1,1,1,1,0,1,2,3] qmr.code) none
abbrev qikc (k m:Nat):TK:=qay 0 (seqK (evC qapc qmr (evF qapc (k+1)) m (sub [1,1,1,1,1,1] qmr.code) none) (retK qapc qmr))
theorem qtnb (k m:Nat):∀ (n:Nat) (s9 s10:ByteArray) (b11:Bool) (c12 c13 c14 c15 c16:Cell) (i17:Int) (H18:List Entry),qca (some [0,2,5,6,7,8,28,29]) (qpac k m) (qikc k m) n ⟨fT 58 0 [(0,.av (.one (Cell.str s9))),(2,.loc 2 0),(5,.av (.one (Cell.str s10))),(6,.av (.one (Cell.bool b11))),(7,.av (.one (c12))),(8,.av (.one (c13))),(28,.av (.agg [c14,c15,c16])),(29,.av (.one (Cell.int i17)))],fX 58 0 [(2,[Cell.int 0,Cell.int 0,Cell.int 0,.lst true 1 []])],H18⟩=qpq (k+1) m n s9 s10 b11 c12 c13 c14 c15 c16 i17 H18:=by
 intro n
 induction n with
 | zero=>intros;rfl
 | succ n ih=>intros;simp only[qpq,← ih];kernel_rfl
theorem qpyc (k m:Nat)(s1:ByteArray):evC qapc qmr (evF qapc (k+1)) m qmr.code none (retK qapc qmr) (enter qmr [.one (Cell.str s1)] [])=fah (k+1) m s1:=by
 simp only[fah,← qtnb k m]
 kernel_rfl
theorem qvh {s1:ByteArray}{r:Res}(k:Nat)(h:fah (k+1) (k+1) s1=some r):qhg [.one (Cell.str s1)] []=some r:=qas (k:=k+2) (Eq.trans (Eq.trans (by kernel_rfl) (qpyc k (k+1) s1)) h)
def qyrc:List (Nat×Run):=[]
def qfhd:Ctx:=ctx qbh qbg qyrc
def qvf:Run:=lim qfhd qcvb
theorem ok_fbs:FnOk Tryz.prog OkT qcvb qvf:=qaq (l:=qyrc) qac tyTab_ok qad okT .nil qcvb
def fbs (k m:Nat)(s1 s2:ByteArray):Option Res:=cond (decide ((s1.size:Int)≥(s2.size:Int))) ((subS s1 0 (s2.size:Int)).bind fun s3=>some ([.one (Cell.bool (s3.toList==s2.toList))],[])) (some ([.one (Cell.bool false)],[]))
theorem qppc (k m:Nat)(s1 s2:ByteArray):evC qfhd qhlb (evF qfhd (k+1)) m qhlb.code none (retK qfhd qhlb) (enter qhlb [.one (Cell.str s1),.one (Cell.str s2)] [])=fbs (k+1) m s1 s2:=by
 kernel_rfl
theorem qlyb {s1 s2:ByteArray}{r:Res}(k:Nat)(h:fbs (k+1) (k+1) s1 s2=some r):qvf [.one (Cell.str s1),.one (Cell.str s2)] []=some r:=qas (k:=k+2) (Eq.trans (Eq.trans (by kernel_rfl) (qppc k (k+1) s1 s2)) h)
def qtyc:List (Nat×Run):=[(qcvb,qvf)]
def qgqd:Ctx:=ctx qbh qbg qtyc
def qtw:Run:=lim qgqd qgwb
theorem ok_fbr:FnOk Tryz.prog OkT qgwb qtw:=qaq (l:=qtyc) qac tyTab_ok qad okT (.cons ok_fbs .nil) qgwb
def fbr (k m:Nat)(s1 s2:ByteArray):Option Res:=(qak qvf [.one (Cell.str s1),.one (Cell.str s2)] []).bind fun r3=>cond (qab qapd r3) ((cB (qaa r3 0) 0).bind fun b4=>cond (!b4) (some ([.one (Cell.str s1),.one (Cell.bool false)],[])) ((subS s1 (s2.size:Int) (s1.size:Int)).bind fun s5=>some ([.one (Cell.str s5),.one (Cell.bool true)],[]))) none
theorem qpgc (k m:Nat)(s1 s2:ByteArray):evC qgqd qifb (evF qgqd (k+1)) m qifb.code none (retK qgqd qifb) (enter qifb [.one (Cell.str s1),.one (Cell.str s2)] [])=fbr (k+1) m s1 s2:=by
 kernel_rfl
theorem qolb {s1 s2:ByteArray}{r:Res}(k:Nat)(h:fbr (k+1) (k+1) s1 s2=some r):qtw [.one (Cell.str s1),.one (Cell.str s2)] []=some r:=qas (k:=k+2) (Eq.trans (Eq.trans (by kernel_rfl) (qpgc k (k+1) s1 s2)) h)
def qbbd:List (Nat×Run):=[(qgwb,qtw)]
def qgfd:Ctx:=ctx qbh qbg qbbd
def qwo:Run:=lim qgfd qdfb
theorem ok_fel:FnOk Tryz.prog OkT qdfb qwo:=qaq (l:=qbbd) qac tyTab_ok qad okT (.cons ok_fbr .nil) qdfb
def fel (k m:Nat)(s1 s2:ByteArray):Option Res:=(qak qtw [.one (Cell.str s1),.one (Cell.str s2)] []).bind fun r3=>cond (qab qvvc r3) ((cS (qaa r3 0) 0).bind fun s4=>(cB (qaa r3 1) 0).bind fun b5=>some ([.one (Cell.str s4),.one (Cell.bool b5)],[])) none
theorem qmkc (k m:Nat)(s1 s2:ByteArray):evC qgfd qkjb (evF qgfd (k+1)) m qkjb.code none (retK qgfd qkjb) (enter qkjb [.one (Cell.str s1),.one (Cell.str s2)] [])=fel (k+1) m s1 s2:=by
 kernel_rfl
theorem qrib {s1 s2:ByteArray}{r:Res}(k:Nat)(h:fel (k+1) (k+1) s1 s2=some r):qwo [.one (Cell.str s1),.one (Cell.str s2)] []=some r:=qas (k:=k+2) (Eq.trans (Eq.trans (by kernel_rfl) (qmkc k (k+1) s1 s2)) h)
def qyhc:List (Nat×Run):=[(qlx,qex),(qvd,qhg),(qvu,qio)]
def qgkb:Ctx:=ctx qbh qbg qyhc
def qwa:Run:=lim qgkb qckb
theorem ok_fbi:FnOk Tryz.prog OkT qckb qwa:=qaq (l:=qyhc) qac tyTab_ok qad okT (.cons qsxb (.cons qwzc (.cons qvac .nil))) qckb
def qol (k m:Nat):Nat→Int→Cell→Int→Int→Int→Int→List Entry→Option Res | 0,_,_,_,_,_,_,_=>none | n+1,i19,c20,i21,i22,i23,i24,H25=>cond (decide (i22 < i21)) ((idxA 1 (c20) i22).bind fun c26=>(deref H25 (c26)).bind fun p27=>(cS p27.1 p27.2).bind fun s28=>(qak qio [.one (Cell.str s28),.one (Cell.int 9999)] H25).bind fun r29=>cond (qab qjac r29) ((cI .i64 (qaa r29 0) 0).bind fun i30=>(cB (qaa r29 1) 0).bind fun b31=>cond (!b31) (some ([.agg [Cell.int 0,Cell.int 0,Cell.int 0,.lst true 1 []],.one (Cell.int 0),.one (Cell.bool false)],H25)) (if i22=1 then (qol k m n i19 (c20) i21 (IntKind.i64.wrap (i22+1)) i23 i30 H25) else if i22=0 then (qol k m n i19 (c20) i21 (IntKind.i64.wrap (i22+1)) i30 i24 H25) else none)) none) (some ([.agg [Cell.int i23,Cell.int i24,Cell.int 0,.lst true 1 []],.one (Cell.int i19),.one (Cell.bool true)],H25))
def qqi (k m:Nat):Nat→Cell→Int→List Entry→Option Res | 0,_,_,_=>none | n+1,c11,i12,H13=>cond (decide (i12 > 1)) ((idxA 1 (c11) (IntKind.i64.wrap (i12 - 1))).bind fun c14=>(deref H13 (c14)).bind fun p15=>(cS p15.1 p15.2).bind fun s16=>cond (s16.toList==(bs [120]).toList) (qqi k m n (c11) (IntKind.i64.wrap (i12 - 1)) H13) (cond (decide (i12 > 2)) (some ([.agg [Cell.int 0,Cell.int 0,Cell.int 0,.lst true 1 []],.one (Cell.int 0),.one (Cell.bool false)],H13)) ((slcC 1 (c11) 0 (some i12) none).bind fun c17=>(lenC c17).bind fun n18=>qol k m m i12 (c17) (n18:Int) 0 0 0 H13))) (cond (decide (i12 > 2)) (some ([.agg [Cell.int 0,Cell.int 0,Cell.int 0,.lst true 1 []],.one (Cell.int 0),.one (Cell.bool false)],H13)) ((slcC 1 (c11) 0 (some i12) none).bind fun c32=>(lenC c32).bind fun n33=>qol k m m i12 (c32) (n33:Int) 0 0 0 H13))
def fbi (k m:Nat)(s1:ByteArray):Option Res:=(qek qhg [.one (Cell.str s1)] []).bind fun r2=>cond (qab qtbb r2.1) ((cI .i64 (qaa r2.1 0) 0).bind fun i3=>(cI .i64 (qaa r2.1 0) 1).bind fun i4=>(cI .i64 (qaa r2.1 0) 2).bind fun i5=>(cC (qaa r2.1 0) 3).bind fun c6=>(cB (qaa r2.1 1) 0).bind fun b7=>cond b7 (some ([.agg [Cell.int i3,Cell.int i4,Cell.int i5,c6],.one (Cell.int 3),.one (Cell.bool true)],r2.2)) ((qek qex [.one (Cell.str s1),.one (Cell.str (bs [46]))] r2.2).bind fun r8=>cond (qab qikb r8.1) ((cC (qaa r8.1 0) 0).bind fun c9=>(lenC c9).bind fun n10=>cond (decide ((n10:Int) > 3)) (some ([.agg [Cell.int 0,Cell.int 0,Cell.int 0,.lst true 1 []],.one (Cell.int 0),.one (Cell.bool false)],r8.2)) (qqi k m m (c9) (n10:Int) r8.2)) none)) none
abbrev qhhc (k m:Nat):TB:=evC qgkb qhc (evF qgkb (k+1)) m (sub [1,1,1,1,1,0,2,3] qhc.code) none
abbrev qtfc (k m:Nat):TK:=qay 0 (seqK (evC qgkb qhc (evF qgkb (k+1)) m (sub [1,1,1,1,1,1] qhc.code) none) (retK qgkb qhc))
abbrev qhyc (k m:Nat):TB:=evC qgkb qhc (evF qgkb (k+1)) m (sub [1,1,1,1,1,1,1,1,0,1,2,3] qhc.code) none
abbrev qlyc (k m:Nat):TK:=qay 2 (seqK (evC qgkb qhc (evF qgkb (k+1)) m (sub [1,1,1,1,1,1,1,1,1] qhc.code) none) (retK qgkb qhc))
theorem qzsb (k m:Nat):∀ (n:Nat) (i19:Int) (c20:Cell) (i21 i22 i23 i24:Int) (H25:List Entry),qca (some [2,8,9,45,46,47]) (qhyc k m) (qlyc k m) n ⟨fT 70 0 [(2,.loc 2 0),(8,.av (.one (Cell.int i19))),(9,.loc 9 0),(45,.av (.one (c20))),(46,.av (.one (Cell.int i21))),(47,.av (.one (Cell.int i22)))],fX 70 0 [(2,[Cell.int 0,Cell.int 0,Cell.int 0,.lst true 1 []]),(9,[Cell.int i23,Cell.int i24])],H25⟩=qol (k+1) m n i19 c20 i21 i22 i23 i24 H25:=by
 intro n
 induction n with
 | zero=>intros;rfl
 | succ n ih=>intros;simp only[qol,← ih];kernel_rfl
theorem qypb (k m:Nat):∀ (n:Nat) (c11:Cell) (i12:Int) (H13:List Entry),qca (some [2,7,8]) (qhhc k m) (qtfc k m) n ⟨fT 70 0 [(2,.loc 2 0),(7,.av (.one (c11))),(8,.av (.one (Cell.int i12)))],fX 70 0 [(2,[Cell.int 0,Cell.int 0,Cell.int 0,.lst true 1 []])],H13⟩=qqi (k+1) m n c11 i12 H13:=by
 intro n
 induction n with
 | zero=>intros;rfl
 | succ n ih=>intros;simp only[qqi,← qzsb k m,← ih];kernel_rfl
theorem qioc (k m:Nat)(s1:ByteArray):evC qgkb qhc (evF qgkb (k+1)) m qhc.code none (retK qgkb qhc) (enter qhc [.one (Cell.str s1)] [])=fbi (k+1) m s1:=by
 simp only[fbi,← qypb k m]
 kernel_rfl
theorem qoq {s1:ByteArray}{r:Res}(k:Nat)(h:fbi (k+1) (k+1) s1=some r):qwa [.one (Cell.str s1)] []=some r:=qas (k:=k+2) (Eq.trans (Eq.trans (by kernel_rfl) (qioc k (k+1) s1)) h)
def qvkc:List (Nat×Run):=[]
def qetd:Ctx:=ctx qbh qbg qvkc
def qid:Run:=lim qetd qcrb
theorem ok_fbh:FnOk Tryz.prog OkT qcrb qid:=qaq (l:=qvkc) qac tyTab_ok qad okT .nil qcrb
def fbh (k m:Nat)(i1 i2 i3:Int)(c4:Cell)(i5:Int):Option Res:=cond (i5==1) (some ([.agg [Cell.int (IntKind.i64.wrap (i1+1)),Cell.int 0,Cell.int 0,.lst true 1 []]],[])) (cond (i5==2) (some ([.agg [Cell.int i1,Cell.int (IntKind.i64.wrap (i2+1)),Cell.int 0,.lst true 1 []]],[])) (some ([.agg [Cell.int i1,Cell.int i2,Cell.int (IntKind.i64.wrap (i3+1)),.lst true 1 []]],[])))
theorem qmac (k m:Nat)(i1 i2 i3:Int)(c4:Cell)(i5:Int):evC qetd qkrb (evF qetd (k+1)) m qkrb.code none (retK qetd qkrb) (enter qkrb [.agg [Cell.int i1,Cell.int i2,Cell.int i3,c4],.one (Cell.int i5)] [])=fbh (k+1) m i1 i2 i3 c4 i5:=by
 kernel_rfl
theorem qxk {i1 i2 i3:Int}{c4:Cell}{i5:Int}{r:Res}(k:Nat)(h:fbh (k+1) (k+1) i1 i2 i3 c4 i5=some r):qid [.agg [Cell.int i1,Cell.int i2,Cell.int i3,c4],.one (Cell.int i5)] []=some r:=qas (k:=k+2) (Eq.trans (Eq.trans (by kernel_rfl) (qmac k (k+1) i1 i2 i3 c4 i5)) h)
def qvic:List (Nat×Run):=[]
def qgkd:Ctx:=ctx qbh qbg qvic
def qka:Run:=lim qgkd qgyb
theorem ok_fap:FnOk Tryz.prog OkT qgyb qka:=qaq (l:=qvic) qac tyTab_ok qad okT .nil qgyb
def fap (k m:Nat)(i1 i2 i3:Int)(c4:Cell):Option Res:=some ([.agg [Cell.int 1,Cell.int i1,Cell.int i2,Cell.int i3,.lst true 1 [[Cell.str (bs [48])]]]],[])
theorem qquc (k m:Nat)(i1 i2 i3:Int)(c4:Cell):evC qgkd qkmb (evF qgkd (k+1)) m qkmb.code none (retK qgkd qkmb) (enter qkmb [.agg [Cell.int i1,Cell.int i2,Cell.int i3,c4]] [])=fap (k+1) m i1 i2 i3 c4:=by
 kernel_rfl
theorem qplb {i1 i2 i3:Int}{c4:Cell}{r:Res}(k:Nat)(h:fap (k+1) (k+1) i1 i2 i3 c4=some r):qka [.agg [Cell.int i1,Cell.int i2,Cell.int i3,c4]] []=some r:=qas (k:=k+2) (Eq.trans (Eq.trans (by kernel_rfl) (qquc k (k+1) i1 i2 i3 c4)) h)
def qxec:List (Nat×Run):=[]
def qged:Ctx:=ctx qbh qbg qxec
def qvg:Run:=lim qged qeib
theorem ok_faq:FnOk Tryz.prog OkT qeib qvg:=qaq (l:=qxec) qac tyTab_ok qad okT .nil qeib
def faq (k m:Nat)(i1 i2 i3:Int)(c4:Cell)(i5:Int):Option Res:=cond (i1 != 0) (some ([.agg [Cell.int (IntKind.i64.wrap (i1+1)),Cell.int 0,Cell.int 0,.lst true 1 []]],[])) (cond (i5==1) (some ([.agg [Cell.int (IntKind.i64.wrap (i1+1)),Cell.int 0,Cell.int 0,.lst true 1 []]],[])) (cond (i2 != 0) (some ([.agg [Cell.int 0,Cell.int (IntKind.i64.wrap (i2+1)),Cell.int 0,.lst true 1 []]],[])) (cond (i5==2) (some ([.agg [Cell.int 0,Cell.int (IntKind.i64.wrap (i2+1)),Cell.int 0,.lst true 1 []]],[])) (some ([.agg [Cell.int 0,Cell.int 0,Cell.int (IntKind.i64.wrap (i3+1)),.lst true 1 []]],[])))))
theorem qnbc (k m:Nat)(i1 i2 i3:Int)(c4:Cell)(i5:Int):evC qged qipb (evF qged (k+1)) m qipb.code none (retK qged qipb) (enter qipb [.agg [Cell.int i1,Cell.int i2,Cell.int i3,c4],.one (Cell.int i5)] [])=faq (k+1) m i1 i2 i3 c4 i5:=by
 kernel_rfl
theorem qofb {i1 i2 i3:Int}{c4:Cell}{i5:Int}{r:Res}(k:Nat)(h:faq (k+1) (k+1) i1 i2 i3 c4 i5=some r):qvg [.agg [Cell.int i1,Cell.int i2,Cell.int i3,c4],.one (Cell.int i5)] []=some r:=qas (k:=k+2) (Eq.trans (Eq.trans (by kernel_rfl) (qnbc k (k+1) i1 i2 i3 c4 i5)) h)
def qwrc:List (Nat×Run):=[(qcrb,qid),(qgyb,qka),(qeib,qvg)]
def qezd:Ctx:=ctx qbh qbg qwrc
def qvy:Run:=lim qezd qglb
theorem ok_fbm:FnOk Tryz.prog OkT qglb qvy:=qaq (l:=qwrc) qac tyTab_ok qad okT (.cons ok_fbh (.cons ok_fap (.cons ok_faq .nil))) qglb
def fbm (k m:Nat)(s1:ByteArray)(i2 i3 i4:Int)(c5:Cell)(i6:Int):Option Res:=(callL qid [.agg [Cell.int i2,Cell.int i3,Cell.int i4,c5],.one (Cell.int i6)] []).bind fun r7=>cond (qab qslc r7.1) ((cI .i64 (qaa r7.1 0) 0).bind fun i8=>(cI .i64 (qaa r7.1 0) 1).bind fun i9=>(cI .i64 (qaa r7.1 0) 2).bind fun i10=>(cC (qaa r7.1 0) 3).bind fun c11=>cond (s1.toList==(bs [62,61]).toList) (restK [Cell.int 4,Cell.int i2,Cell.int i3,Cell.int i4,c5] fun d12=>some ([.one ((.lst true 5 (chunks 5 1 d12)))],r7.2)) (cond (s1.toList==(bs [60]).toList) (restK [Cell.int 1,Cell.int i2,Cell.int i3,Cell.int i4,c5] fun d13=>some ([.one ((.lst true 5 (chunks 5 1 d13)))],r7.2)) (cond (s1.toList==(bs [62]).toList) (cond (decide (i6 < 3)) (restK [Cell.int 4,Cell.int i8,Cell.int i9,Cell.int i10,c11] fun d14=>some ([.one ((.lst true 5 (chunks 5 1 d14)))],r7.2)) (restK [Cell.int 3,Cell.int i2,Cell.int i3,Cell.int i4,c5] fun d15=>some ([.one ((.lst true 5 (chunks 5 1 d15)))],r7.2))) (cond (s1.toList==(bs [60,61]).toList) (cond (decide (i6 < 3)) ((callL qka [.agg [Cell.int i8,Cell.int i9,Cell.int i10,c11]] r7.2).bind fun r16=>cond (qab qrlb r16.1) ((cI .i64 (qaa r16.1 0) 0).bind fun i17=>(cI .i64 (qaa r16.1 0) 1).bind fun i18=>(cI .i64 (qaa r16.1 0) 2).bind fun i19=>(cI .i64 (qaa r16.1 0) 3).bind fun i20=>(cC (qaa r16.1 0) 4).bind fun c21=>restK [Cell.int i17,Cell.int i18,Cell.int i19,Cell.int i20,c21] fun d22=>some ([.one ((.lst true 5 (chunks 5 1 d22)))],r16.2)) none) (restK [Cell.int 2,Cell.int i2,Cell.int i3,Cell.int i4,c5] fun d23=>some ([.one ((.lst true 5 (chunks 5 1 d23)))],r7.2))) (cond (s1.toList==(bs [126]).toList) ((callL qid [.agg [Cell.int i2,Cell.int i3,Cell.int 0,.lst true 1 []],.one (Cell.int (if 2 < i6 then 2 else i6))] []).bind fun r24=>cond (qab qslc r24.1) ((cI .i64 (qaa r24.1 0) 0).bind fun i25=>(cI .i64 (qaa r24.1 0) 1).bind fun i26=>(cI .i64 (qaa r24.1 0) 2).bind fun i27=>(cC (qaa r24.1 0) 3).bind fun c28=>qkm r24.2 ((callL qka [.agg [Cell.int i25,Cell.int i26,Cell.int i27,c28]] []).bind fun r29=>cond (qab qrlb r29.1) ((cI .i64 (qaa r29.1 0) 0).bind fun i30=>(cI .i64 (qaa r29.1 0) 1).bind fun i31=>(cI .i64 (qaa r29.1 0) 2).bind fun i32=>(cI .i64 (qaa r29.1 0) 3).bind fun i33=>(cC (qaa r29.1 0) 4).bind fun c34=>qkm r29.2 (restK [Cell.int 4,Cell.int i2,Cell.int i3,Cell.int i4,c5,Cell.int i30,Cell.int i31,Cell.int i32,Cell.int i33,c34] fun d35=>some ([.one ((.lst true 5 (chunks 5 2 d35)))],r7.2))) none)) none) (cond (s1.toList==(bs [94]).toList) ((callL qvg [.agg [Cell.int i2,Cell.int i3,Cell.int i4,c5],.one (Cell.int i6)] []).bind fun r36=>cond (qab qemd r36.1) ((cI .i64 (qaa r36.1 0) 0).bind fun i37=>(cI .i64 (qaa r36.1 0) 1).bind fun i38=>(cI .i64 (qaa r36.1 0) 2).bind fun i39=>(cC (qaa r36.1 0) 3).bind fun c40=>qkm r36.2 ((callL qka [.agg [Cell.int i37,Cell.int i38,Cell.int i39,c40]] []).bind fun r41=>cond (qab qrlb r41.1) ((cI .i64 (qaa r41.1 0) 0).bind fun i42=>(cI .i64 (qaa r41.1 0) 1).bind fun i43=>(cI .i64 (qaa r41.1 0) 2).bind fun i44=>(cI .i64 (qaa r41.1 0) 3).bind fun i45=>(cC (qaa r41.1 0) 4).bind fun c46=>qkm r41.2 (restK [Cell.int 4,Cell.int i2,Cell.int i3,Cell.int i4,c5,Cell.int i42,Cell.int i43,Cell.int i44,Cell.int i45,c46] fun d47=>some ([.one ((.lst true 5 (chunks 5 2 d47)))],r7.2))) none)) none) (cond (decide (i6 < 3)) ((callL qka [.agg [Cell.int i8,Cell.int i9,Cell.int i10,c11]] []).bind fun r48=>cond (qab qrlb r48.1) ((cI .i64 (qaa r48.1 0) 0).bind fun i49=>(cI .i64 (qaa r48.1 0) 1).bind fun i50=>(cI .i64 (qaa r48.1 0) 2).bind fun i51=>(cI .i64 (qaa r48.1 0) 3).bind fun i52=>(cC (qaa r48.1 0) 4).bind fun c53=>qkm r48.2 (restK [Cell.int 4,Cell.int i2,Cell.int i3,Cell.int i4,c5,Cell.int i49,Cell.int i50,Cell.int i51,Cell.int i52,c53] fun d54=>some ([.one ((.lst true 5 (chunks 5 2 d54)))],r7.2))) none) (restK [Cell.int 0,Cell.int i2,Cell.int i3,Cell.int i4,c5] fun d55=>some ([.one ((.lst true 5 (chunks 5 1 d55)))],r7.2))))))))) none
theorem qjtc (k m:Nat)(s1:ByteArray)(i2 i3 i4:Int)(c5:Cell)(i6:Int):evC qezd qisb (evF qezd (k+1)) m qisb.code none (retK qezd qisb) (enter qisb [.one (Cell.str s1),.agg [Cell.int i2,Cell.int i3,Cell.int i4,c5],.one (Cell.int i6)] [])=fbm (k+1) m s1 i2 i3 i4 c5 i6:=by
 kernel_rfl
theorem qrpb {s1:ByteArray}{i2 i3 i4:Int}{c5:Cell}{i6:Int}{r:Res}(k:Nat)(h:fbm (k+1) (k+1) s1 i2 i3 i4 c5 i6=some r):qvy [.one (Cell.str s1),.agg [Cell.int i2,Cell.int i3,Cell.int i4,c5],.one (Cell.int i6)] []=some r:=qas (k:=k+2) (Eq.trans (Eq.trans (by kernel_rfl) (qjtc k (k+1) s1 i2 i3 i4 c5 i6)) h)
def qdrd:List (Nat×Run):=[(qdfb,qwo),(qckb,qwa),(qglb,qvy)]
def qsob:Ctx:=ctx qbh qbg qdrd
def qvv:Run:=lim qsob qdyb
theorem ok_fat:FnOk Tryz.prog OkT qdyb qvv:=qaq (l:=qdrd) qac tyTab_ok qad okT (.cons ok_fel (.cons ok_fbi (.cons ok_fbm .nil))) qdyb
def qyt (k m:Nat):Nat→ByteArray→Int→Option Res | 0,_,_=>none | n+1,s2,i3=>cond (decide (i3 < 8)) (if 0≤i3∧i3 < 8 then ((cS [Cell.str (bs [94]),Cell.str (bs [126]),Cell.str (bs [62,61]),Cell.str (bs [62]),Cell.str (bs [60,61]),Cell.str (bs [60]),Cell.str (bs [61]),Cell.str (bs [])] (i3.toNat*1)).bind fun s4=>(qak qwo [.one (Cell.str s2),.one (Cell.str s4)] []).bind fun r5=>cond (qab qttc r5) ((cS (qaa r5 0) 0).bind fun s6=>(cB (qaa r5 1) 0).bind fun b7=>cond (!b7) (qyt k m n s2 (IntKind.i64.wrap (i3+1))) ((callL qwa [.one (Cell.str s6)] []).bind fun r8=>cond (qab qyec r8.1) ((cI .i64 (qaa r8.1 0) 0).bind fun i9=>(cI .i64 (qaa r8.1 0) 1).bind fun i10=>(cI .i64 (qaa r8.1 0) 2).bind fun i11=>(cC (qaa r8.1 0) 3).bind fun c12=>(cI .i64 (qaa r8.1 1) 0).bind fun i13=>(cB (qaa r8.1 2) 0).bind fun b14=>cond (!b14) (some ([.one (.lst true 5 []),.one (Cell.bool false)],r8.2)) ((callL qvy [.one (Cell.str s4),.agg [Cell.int i9,Cell.int i10,Cell.int i11,c12],.one (Cell.int i13)] r8.2).bind fun r15=>cond (qab quyc r15.1) ((cC (qaa r15.1 0) 0).bind fun c16=>some ([.one (c16),.one (Cell.bool true)],r15.2)) none)) none)) none) else none) (some ([.one (.lst true 5 []),.one (Cell.bool false)],[]))
def fat (k m:Nat)(s1:ByteArray):Option Res:=cond (s1.toList==(bs [42]).toList) (some ([.one (.lst true 5 [[Cell.int 4,Cell.int 0,Cell.int 0,Cell.int 0,.lst true 1 []]]),.one (Cell.bool true)],[])) (qyt k m m s1 0)
abbrev qrlc (k m:Nat):TB:=evC qsob qmj (evF qsob (k+1)) m (sub [1,1,0,1,2,3] qmj.code) none
abbrev qidc (k m:Nat):TK:=qay 0 (seqK (evC qsob qmj (evF qsob (k+1)) m (sub [1,1,1] qmj.code) none) (retK qsob qmj))
theorem qbcc (k m:Nat):∀ (n:Nat) (s2:ByteArray) (i3:Int),qca (some [0,15,16]) (qrlc k m) (qidc k m) n ⟨fT 40 0 [(0,.av (.one (Cell.str s2))),(15,.av (.agg [Cell.str (bs [94]),Cell.str (bs [126]),Cell.str (bs [62,61]),Cell.str (bs [62]),Cell.str (bs [60,61]),Cell.str (bs [60]),Cell.str (bs [61]),Cell.str (bs [])])),(16,.av (.one (Cell.int i3)))],fX 40 0 [],[]⟩=qyt (k+1) m n s2 i3:=by
 intro n
 induction n with
 | zero=>intros;rfl
 | succ n ih=>intros;simp only[qyt,← ih];kernel_rfl
theorem qqwc (k m:Nat)(s1:ByteArray):evC qsob qmj (evF qsob (k+1)) m qmj.code none (retK qsob qmj) (enter qmj [.one (Cell.str s1)] [])=fat (k+1) m s1:=by
 simp only[fat,← qbcc k m]
 kernel_rfl
theorem qxh {s1:ByteArray}{r:Res}(k:Nat)(h:fat (k+1) (k+1) s1=some r):qvv [.one (Cell.str s1)] []=some r:=qas (k:=k+2) (Eq.trans (Eq.trans (by kernel_rfl) (qqwc k (k+1) s1)) h)
def qced:List (Nat×Run):=[(qlx,qex),(qeuc,qdbb),(qvd,qhg),(qdyb,qvv),(qxa,qpc)]
def qdob:Ctx:=ctx qbh qbg qced
def qzb:Run:=lim qdob qeeb
theorem ok_fbc:FnOk Tryz.prog OkT qeeb qzb:=qaq (l:=qced) qac tyTab_ok qad okT (.cons qsxb (.cons ok_fep (.cons qwzc (.cons ok_fat (.cons qcpd .nil))))) qeeb
def qamb (k m:Nat):Nat→Cell→Cell→Int→Int→List Entry→Option Res | 0,_,_,_,_,_=>none | n+1,c43,c44,i45,i46,H47=>cond (decide (i46 < i45)) ((idxA 5 (c44) i46).bind fun c48=>(deref H47 (c48)).bind fun p49=>(cI .i64 p49.1 p49.2).bind fun i50=>(cI .i64 p49.1 (p49.2+1)).bind fun i51=>(cI .i64 p49.1 ((p49.2+1)+1)).bind fun i52=>(cI .i64 p49.1 (((p49.2+1)+1)+1)).bind fun i53=>(cC p49.1 ((((p49.2+1)+1)+1)+1)).bind fun c54=>(qak qpc [.agg [Cell.int i51,Cell.int i52,Cell.int i53,c54]] H47).bind fun r55=>cond (qab qrhc r55) ((cB (qaa r55 0) 0).bind fun b56=>cond (!b56) (some ([.one (.lst true 5 []),.one (Cell.bool false)],H47)) (qamb k m n (c43) (c44) i45 (IntKind.i64.wrap (i46+1)) H47)) none) ((lenC c43).bind fun n57=>some ([.one (c43),.one (Cell.bool (decide ((n57:Int)≤4)))],H47))
def qsl (k m:Nat):Nat→Cell→Cell→Int→Int→List Entry→Option Res | 0,_,_,_,_,_=>none | n+1,c29,c30,i31,i32,H33=>cond (decide (i32 < i31)) ((idxA 1 (c30) i32).bind fun c34=>(deref H33 (c34)).bind fun p35=>(cS p35.1 p35.2).bind fun s36=>(callL qvv [.one (Cell.str s36)] H33).bind fun r37=>cond (qab qcad r37.1) ((cC (qaa r37.1 0) 0).bind fun c38=>(cB (qaa r37.1 1) 0).bind fun b39=>cond (!b39) (some ([.one (.lst true 5 []),.one (Cell.bool false)],r37.2)) ((qcy r37.2 5 c38).bind fun r40=>(app r37.2 5 56 (c29) r40).bind fun p41=>qsl k m n (p41.1) (c30) i31 (IntKind.i64.wrap (i32+1)) p41.2)) none) ((lenC c29).bind fun n42=>qamb k m m (c29) (c29) (n42:Int) 0 H33)
def fbc (k m:Nat)(s1:ByteArray):Option Res:=(qak qdbb [.one (Cell.str s1),.one (Cell.str (bs [32]))] []).bind fun r2=>cond (qab qdcd r2) ((cS (qaa r2 0) 0).bind fun s3=>(qek qex [.one (Cell.str s3),.one (Cell.str (bs [32]))] []).bind fun r4=>cond (qab qikb r4.1) ((cC (qaa r4.1 0) 0).bind fun c5=>(lenC c5).bind fun n6=>cond ((n6:Int)==3) ((idxA 1 (c5) 1).bind fun c7=>(deref r4.2 (c7)).bind fun p8=>(cS p8.1 p8.2).bind fun s9=>cond (s9.toList==(bs [45]).toList) ((idxA 1 (c5) 0).bind fun c10=>(deref r4.2 (c10)).bind fun p11=>(cS p11.1 p11.2).bind fun s12=>(qek qhg [.one (Cell.str s12)] r4.2).bind fun r13=>cond (qab qtbb r13.1) ((cI .i64 (qaa r13.1 0) 0).bind fun i14=>(cI .i64 (qaa r13.1 0) 1).bind fun i15=>(cI .i64 (qaa r13.1 0) 2).bind fun i16=>(cC (qaa r13.1 0) 3).bind fun c17=>(cB (qaa r13.1 1) 0).bind fun b18=>(idxA 1 (c5) 2).bind fun c19=>(deref r13.2 (c19)).bind fun p20=>(cS p20.1 p20.2).bind fun s21=>(qek qhg [.one (Cell.str s21)] r13.2).bind fun r22=>cond (qab qtbb r22.1) ((cI .i64 (qaa r22.1 0) 0).bind fun i23=>(cI .i64 (qaa r22.1 0) 1).bind fun i24=>(cI .i64 (qaa r22.1 0) 2).bind fun i25=>(cC (qaa r22.1 0) 3).bind fun c26=>(cB (qaa r22.1 1) 0).bind fun b27=>cond b18 (some ([.one ((.vs r22.2.length 5 0 2 0)),.one (Cell.bool b27)],(r22.2++[Entry.mk 5 [[Cell.int 4,Cell.int i14,Cell.int i15,Cell.int i16,c17],[Cell.int 2,Cell.int i23,Cell.int i24,Cell.int i25,c26]] 0 false]))) (some ([.one ((.vs r22.2.length 5 0 2 0)),.one (Cell.bool false)],(r22.2++[Entry.mk 5 [[Cell.int 4,Cell.int i14,Cell.int i15,Cell.int i16,c17],[Cell.int 2,Cell.int i23,Cell.int i24,Cell.int i25,c26]] 0 false])))) none) none) ((lenC c5).bind fun n28=>qsl k m m (.lst true 5 []) (c5) (n28:Int) 0 r4.2)) ((lenC c5).bind fun n58=>qsl k m m (.lst true 5 []) (c5) (n58:Int) 0 r4.2)) none) none
abbrev qjvc (k m:Nat):TB:=evC qdob qha (evF qdob (k+1)) m (sub [1,1,1,1,0,1,2,3] qha.code) none
abbrev qrdc (k m:Nat):TK:=qay 0 (seqK (evC qdob qha (evF qdob (k+1)) m (sub [1,1,1,1,1] qha.code) none) (retK qdob qha))
abbrev qqfc (k m:Nat):TB:=evC qdob qha (evF qdob (k+1)) m (sub [1,1,1,1,1,0,1,2,3] qha.code) none
abbrev qmlc (k m:Nat):TK:=qay 2 (seqK (evC qdob qha (evF qdob (k+1)) m (sub [1,1,1,1,1,1] qha.code) none) (retK qdob qha))
theorem qyab (k m:Nat):∀ (n:Nat) (c43 c44:Cell) (i45 i46:Int) (H47:List Entry),qca (some [9,68,69,70]) (qqfc k m) (qmlc k m) n ⟨fT 83 0 [(9,.av (.one (c43))),(68,.av (.one (c44))),(69,.av (.one (Cell.int i45))),(70,.av (.one (Cell.int i46)))],fX 83 0 [],H47⟩=qamb (k+1) m n c43 c44 i45 i46 H47:=by
 intro n
 induction n with
 | zero=>intros;rfl
 | succ n ih=>intros;simp only[qamb,← ih];kernel_rfl
theorem qaqc (k m:Nat):∀ (n:Nat) (c29 c30:Cell) (i31 i32:Int) (H33:List Entry),qca (some [9,51,52,53]) (qjvc k m) (qrdc k m) n ⟨fT 83 0 [(9,.av (.one (c29))),(51,.av (.one (c30))),(52,.av (.one (Cell.int i31))),(53,.av (.one (Cell.int i32)))],fX 83 0 [],H33⟩=qsl (k+1) m n c29 c30 i31 i32 H33:=by
 intro n
 induction n with
 | zero=>intros;rfl
 | succ n ih=>intros;simp only[qsl,← qyab k m,← ih];kernel_rfl
theorem qkjc (k m:Nat)(s1:ByteArray):evC qdob qha (evF qdob (k+1)) m qha.code none (retK qdob qha) (enter qha [.one (Cell.str s1)] [])=fbc (k+1) m s1:=by
 simp only[fbc,← qaqc k m]
 kernel_rfl
theorem qtt {s1:ByteArray}{r:Res}(k:Nat)(h:fbc (k+1) (k+1) s1=some r):qzb [.one (Cell.str s1)] []=some r:=qas (k:=k+2) (Eq.trans (Eq.trans (by kernel_rfl) (qkjc k (k+1) s1)) h)
def qytc:List (Nat×Run):=[(qlx,qex),(qeeb,qzb)]
def qdrc:Ctx:=ctx qbh qbg qytc
def qux:Run:=lim qdrc qddb
theorem ok_fag:FnOk Tryz.prog OkT qddb qux:=qaq (l:=qytc) qac tyTab_ok qad okT (.cons qsxb (.cons ok_fbc .nil)) qddb
def qbvb (k m:Nat):Nat→Cell→Cell→Int→Int→List Entry→Option Res | 0,_,_,_,_,_=>none | n+1,c6,c7,i8,i9,H10=>cond (decide (i9 < i8)) ((idxA 1 (c7) i9).bind fun c11=>(deref H10 (c11)).bind fun p12=>(cS p12.1 p12.2).bind fun s13=>(callL qzb [.one (Cell.str s13)] H10).bind fun r14=>cond (qab qvdc r14.1) ((cC (qaa r14.1 0) 0).bind fun c15=>(cB (qaa r14.1 1) 0).bind fun b16=>cond (!b16) (some ([.one (.lst true 1 []),.one (Cell.bool false)],r14.2)) (restK [c15] fun d17=>(qcy r14.2 1 (.lst true 1 (chunks 1 1 d17))).bind fun r18=>(app r14.2 1 24 (c6) r18).bind fun p19=>qbvb k m n (p19.1) (c7) i8 (IntKind.i64.wrap (i9+1)) p19.2)) none) (some ([.one (c6),.one (Cell.bool true)],H10))
def fag (k m:Nat)(s1:ByteArray):Option Res:=(qek qex [.one (Cell.str s1),.one (Cell.str (bs [124,124]))] []).bind fun r2=>cond (qab qikb r2.1) ((cC (qaa r2.1 0) 0).bind fun c3=>(lenC c3).bind fun n4=>cond (decide ((n4:Int) > 4)) (some ([.one (.lst true 1 []),.one (Cell.bool false)],r2.2)) ((lenC c3).bind fun n5=>qbvb k m m (.lst true 1 []) (c3) (n5:Int) 0 r2.2)) none
abbrev qqoc (k m:Nat):TB:=evC qdrc qpf (evF qdrc (k+1)) m (sub [1,1,1,1,0,1,2,3] qpf.code) none
abbrev qjyc (k m:Nat):TK:=qay 0 (seqK (evC qdrc qpf (evF qdrc (k+1)) m (sub [1,1,1,1,1] qpf.code) none) (retK qdrc qpf))
theorem qzbb (k m:Nat):∀ (n:Nat) (c6 c7:Cell) (i8 i9:Int) (H10:List Entry),qca (some [5,15,16,17]) (qqoc k m) (qjyc k m) n ⟨fT 34 0 [(5,.av (.one (c6))),(15,.av (.one (c7))),(16,.av (.one (Cell.int i8))),(17,.av (.one (Cell.int i9)))],fX 34 0 [],H10⟩=qbvb (k+1) m n c6 c7 i8 i9 H10:=by
 intro n
 induction n with
 | zero=>intros;rfl
 | succ n ih=>intros;simp only[qbvb,← ih];kernel_rfl
theorem qqjc (k m:Nat)(s1:ByteArray):evC qdrc qpf (evF qdrc (k+1)) m qpf.code none (retK qdrc qpf) (enter qpf [.one (Cell.str s1)] [])=fag (k+1) m s1:=by
 simp only[fag,← qzbb k m]
 kernel_rfl
theorem qwm {s1:ByteArray}{r:Res}(k:Nat)(h:fag (k+1) (k+1) s1=some r):qux [.one (Cell.str s1)] []=some r:=qas (k:=k+2) (Eq.trans (Eq.trans (by kernel_rfl) (qqjc k (k+1) s1)) h)
def qand:List (Nat×Run):=[(qme,qga),(qddb,qux)]
def qgbd:Ctx:=ctx qbh qbg qand
def qyy:Run:=lim qgbd qdeb
theorem ok_fbe:FnOk Tryz.prog OkT qdeb qyy:=qaq (l:=qand) qac tyTab_ok qad okT (.cons qygb (.cons ok_fag .nil)) qdeb
def fbe (k m:Nat)(s1 s2:ByteArray):Option Res:=(callL qux [.one (Cell.str s2)] []).bind fun r3=>cond (qab qwgc r3.1) ((cC (qaa r3.1 0) 0).bind fun c4=>(cB (qaa r3.1 1) 0).bind fun b5=>cond b5 ((qak qga [.one (Cell.str s1)] r3.2).bind fun r6=>cond (qab qnjb r6) ((cB (qaa r6 0) 0).bind fun b7=>cond b7 (some ([.one (Cell.bool (decide ((s2.size:Int)≤20)))],r3.2)) (some ([.one (Cell.bool false)],r3.2))) none) (some ([.one (Cell.bool false)],r3.2))) none
theorem qpoc (k m:Nat)(s1 s2:ByteArray):evC qgbd qjbb (evF qgbd (k+1)) m qjbb.code none (retK qgbd qjbb) (enter qjbb [.agg [Cell.str s1,Cell.str s2]] [])=fbe (k+1) m s1 s2:=by
 kernel_rfl
theorem qoob {s1 s2:ByteArray}{r:Res}(k:Nat)(h:fbe (k+1) (k+1) s1 s2=some r):qyy [.agg [Cell.str s1,Cell.str s2]] []=some r:=qas (k:=k+2) (Eq.trans (Eq.trans (by kernel_rfl) (qpoc k (k+1) s1 s2)) h)
def qxfc:List (Nat×Run):=[(qdeb,qyy)]
def qcwc:Ctx:=ctx qbh qbg qxfc
def quy:Run:=lim qcwc qdcb
theorem ok_fbg:FnOk Tryz.prog OkT qdcb quy:=qaq (l:=qxfc) qac tyTab_ok qad okT (.cons ok_fbe .nil) qdcb
def qum (k m:Nat):Nat→Cell→Cell→Int→Int→Option Res | 0,_,_,_,_=>none | n+1,c3,c4,i5,i6=>cond (decide (i6 < i5)) ((idxA 2 (c4) i6).bind fun c7=>(deref [] (c7)).bind fun p8=>(cS p8.1 p8.2).bind fun s9=>(cS p8.1 (p8.2+1)).bind fun s10=>(qak qyy [.agg [Cell.str s9,Cell.str s10]] []).bind fun r11=>cond (qab qtsc r11) ((cB (qaa r11 0) 0).bind fun b12=>cond (!b12) (some ([.one (Cell.bool false)],[])) (cond (decide (i6 > 0)) ((idxA 2 (c3) (IntKind.i64.wrap (i6 - 1))).bind fun c13=>(fldA c13 0).bind fun c14=>(deref [] (c14)).bind fun p15=>(cS p15.1 p15.2).bind fun s16=>cond (Op.bytesLess s9.toList s16.toList||s9.toList==s16.toList) (some ([.one (Cell.bool false)],[])) (qum k m n (c3) (c4) i5 (IntKind.i64.wrap (i6+1)))) (qum k m n (c3) (c4) i5 (IntKind.i64.wrap (i6+1))))) none) ((lenC c3).bind fun n17=>some ([.one (Cell.bool (decide ((n17:Int)≤4)))],[]))
def fbg (k m:Nat)(c1:Cell):Option Res:=(lenC c1).bind fun n2=>qum k m m (c1) (c1) (n2:Int) 0
abbrev qkwc (k m:Nat):TB:=evC qcwc qpm (evF qcwc (k+1)) m (sub [1,0,1,2,3] qpm.code) none
abbrev qjmc (k m:Nat):TK:=qay 0 (seqK (evC qcwc qpm (evF qcwc (k+1)) m (sub [1,1] qpm.code) none) (retK qcwc qpm))
theorem qxxb (k m:Nat):∀ (n:Nat) (c3 c4:Cell) (i5 i6:Int),qca (some [0,5,6,7]) (qkwc k m) (qjmc k m) n ⟨fT 34 0 [(0,.av (.one (c3))),(5,.av (.one (c4))),(6,.av (.one (Cell.int i5))),(7,.av (.one (Cell.int i6)))],fX 34 0 [],[]⟩=qum (k+1) m n c3 c4 i5 i6:=by
 intro n
 induction n with
 | zero=>intros;rfl
 | succ n ih=>intros;simp only[qum,← ih];kernel_rfl
theorem qqhc (k m:Nat)(c1:Cell):evC qcwc qpm (evF qcwc (k+1)) m qpm.code none (retK qcwc qpm) (enter qpm [.one (c1)] [])=fbg (k+1) m c1:=by
 simp only[fbg,← qxxb k m]
 kernel_rfl
theorem qpbb {c1:Cell}{r:Res}(k:Nat)(h:fbg (k+1) (k+1) c1=some r):quy [.one (c1)] []=some r:=qas (k:=k+2) (Eq.trans (Eq.trans (by kernel_rfl) (qqhc k (k+1) c1)) h)
end
end Go.Ev
