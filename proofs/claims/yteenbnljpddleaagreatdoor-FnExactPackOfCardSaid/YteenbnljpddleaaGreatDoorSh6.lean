/- What the evaluator says of the functions, each as a Lean function over cells. Printed by a program of this claim. Conditions: none. -/
import Derived.Test.YteenbnljpddleaaGreatDoorSh5
import Derived.KernelRfl
namespace Go.Ev
open Go Go.Proofs
noncomputable section
set_option maxRecDepth 100000
set_option linter.unusedVariables false
set_option linter.unusedSimpArgs false
def qukc:List (Nat×Run):=[(qerb,qub),(qme,qga),(qfdb,qrt),(qwx,qjw),(qdcb,quy)]
def qvtb:Ctx:=ctx qbh qbg qukc
def qrd:Run:=lim qvtb qfrb
theorem ok_fad:FnOk Tryz.prog OkT qfrb qrd:=qaq (l:=qukc) qac tyTab_ok qad okT (.cons ok_far (.cons qygb (.cons ok_fbd (.cons qecd (.cons ok_fbg .nil))))) qfrb
def qyk (k m:Nat):Nat→Cell→Int→Int→ByteArray→Cell→Cell→Cell→Option Res | 0,_,_,_,_,_,_,_=>none | n+1,c6,i7,i8,s9,c10,c11,c12=>cond (decide (i8 < i7)) ((idxA 2 (c6) i8).bind fun c13=>(deref [] (c13)).bind fun p14=>(cS p14.1 p14.2).bind fun s15=>(cC p14.1 (p14.2+1)).bind fun c16=>(qak qub [.agg [Cell.str s15,c16]] []).bind fun r17=>cond (qab qdqd r17) ((cB (qaa r17 0) 0).bind fun b18=>cond (!b18) (some ([.one (Cell.bool false)],[])) (cond (decide (i8 > 0)) ((idxA 2 (c12) (IntKind.i64.wrap (i8 - 1))).bind fun c19=>(fldA c19 0).bind fun c20=>(deref [] (c20)).bind fun p21=>(cS p21.1 p21.2).bind fun s22=>cond (Op.bytesLess s15.toList s22.toList||s15.toList==s22.toList) (some ([.one (Cell.bool false)],[])) (qyk k m n (c6) i7 (IntKind.i64.wrap (i8+1)) s9 (c10) (c11) (c12))) (qyk k m n (c6) i7 (IntKind.i64.wrap (i8+1)) s9 (c10) (c11) (c12)))) none) ((qak qga [.one (Cell.str s9)] []).bind fun r23=>cond (qab qnjb r23) ((cB (qaa r23 0) 0).bind fun b24=>cond b24 ((qak qrt [.one (c10),.one (Cell.int 4)] []).bind fun r25=>cond (qab quxc r25) ((cB (qaa r25 0) 0).bind fun b26=>cond b26 ((qak qjw [.one (c10)] []).bind fun r27=>cond (qab qbnc r27) ((cB (qaa r27 0) 0).bind fun b28=>cond b28 ((qak quy [.one (c11)] []).bind fun r29=>cond (qab qacd r29) ((cB (qaa r29 0) 0).bind fun b30=>cond b30 ((lenC c12).bind fun n31=>some ([.one (Cell.bool (decide ((n31:Int)≤4)))],[])) (some ([.one (Cell.bool false)],[]))) none) (some ([.one (Cell.bool false)],[]))) none) (some ([.one (Cell.bool false)],[]))) none) (some ([.one (Cell.bool false)],[]))) none)
def fad (k m:Nat)(s1:ByteArray)(c2 c3 c4:Cell):Option Res:=(lenC c4).bind fun n5=>qyk k m m (c4) (n5:Int) 0 s1 (c2) (c3) (c4)
abbrev qiec (k m:Nat):TB:=evC qvtb qoz (evF qvtb (k+1)) m (sub [1,0,1,2,3] qoz.code) none
abbrev qnsc (k m:Nat):TK:=qay 0 (seqK (evC qvtb qoz (evF qvtb (k+1)) m (sub [1,1] qoz.code) none) (retK qvtb qoz))
theorem qvhb (k m:Nat):∀ (n:Nat) (c6:Cell) (i7 i8:Int) (s9:ByteArray) (c10 c11 c12:Cell),qca (some [1,6,7,8]) (qiec k m) (qnsc k m) n ⟨fT 57 0 [(1,.loc 1 0),(6,.av (.one (c6))),(7,.av (.one (Cell.int i7))),(8,.av (.one (Cell.int i8)))],fX 57 0 [(1,[Cell.str s9,c10,c11,c12])],[]⟩=qyk (k+1) m n c6 i7 i8 s9 c10 c11 c12:=by
 intro n
 induction n with
 | zero=>intros;rfl
 | succ n ih=>intros;simp only[qyk,← ih];kernel_rfl
theorem qmnc (k m:Nat)(s1:ByteArray)(c2 c3 c4:Cell):evC qvtb qoz (evF qvtb (k+1)) m qoz.code none (retK qvtb qoz) (enter qoz [.agg [Cell.str s1,c2,c3,c4]] [])=fad (k+1) m s1 c2 c3 c4:=by
 simp only[fad,← qvhb k m]
 kernel_rfl
theorem qpob {s1:ByteArray}{c2 c3 c4:Cell}{r:Res}(k:Nat)(h:fad (k+1) (k+1) s1 c2 c3 c4=some r):qrd [.agg [Cell.str s1,c2,c3,c4]] []=some r:=qas (k:=k+2) (Eq.trans (Eq.trans (by kernel_rfl) (qmnc k (k+1) s1 c2 c3 c4)) h)
def qvyc:List (Nat×Run):=[(qro,qib),(qfeb,qun),(qdjb,qus),(qfrb,qrd)]
def qxzb:Ctx:=ctx qbh qbg qvyc
def qjz:Run:=lim qxzb qhgb
theorem ok_fac:FnOk Tryz.prog OkT qhgb qjz:=qaq (l:=qvyc) qac tyTab_ok qad okT (.cons qpvc (.cons ok_faj (.cons ok_fae (.cons ok_fad .nil)))) qhgb
def qajb (k m:Nat):Nat→Cell→Int→Int→Int→Int→ByteArray→Cell→Cell→List Entry→Option Res | 0,_,_,_,_,_,_,_,_,_=>none | n+1,c11,i12,i13,i14,i15,s16,c17,c18,H19=>cond (decide (i13 < i12)) ((idxA 1 (c11) i13).bind fun c20=>(deref H19 (c20)).bind fun p21=>(cS p21.1 p21.2).bind fun s22=>(idxA 5 (c17) i13).bind fun c23=>(deref H19 (c23)).bind fun p24=>(cI .i64 p24.1 p24.2).bind fun i25=>(cI .i64 p24.1 (p24.2+1)).bind fun i26=>(cS p24.1 ((p24.2+1)+1)).bind fun s27=>(cC p24.1 (((p24.2+1)+1)+1)).bind fun c28=>(cC p24.1 ((((p24.2+1)+1)+1)+1)).bind fun c29=>(qus [.one (.ptr 0 4 0 0 0),.one (Cell.str s22),.agg [Cell.int i25,Cell.int i26,Cell.str s27,c28,c29]] H19).bind fun r30=>cond (qab qxvc r30.1) ((cB (qaa r30.1 0) 0).bind fun b31=>cond (!b31) (some ([.agg [Cell.str (bs []),.lst true 1 [],.lst true 2 [],.lst true 2 []],.one (Cell.bool false)],r30.2)) (qajb k m n (c11) i12 (IntKind.i64.wrap (i13+1)) i14 i15 s16 (c17) (c18) r30.2)) none) ((deref H19 (.ptr 0 4 0 0 0)).bind fun p32=>(cS p32.1 p32.2).bind fun s33=>(cC p32.1 (p32.2+1)).bind fun c34=>(cC p32.1 ((p32.2+1)+1)).bind fun c35=>(cC p32.1 (((p32.2+1)+1)+1)).bind fun c36=>(qak qrd [.agg [Cell.str s33,c34,c35,c36]] H19).bind fun r37=>cond (qab qzpc r37) ((cB (qaa r37 0) 0).bind fun b38=>cond (!b38) (some ([.agg [Cell.str (bs []),.lst true 1 [],.lst true 2 [],.lst true 2 []],.one (Cell.bool false)],H19)) ((deref H19 (.ptr 0 4 0 0 0)).bind fun p39=>(cS p39.1 p39.2).bind fun s40=>(cC p39.1 (p39.2+1)).bind fun c41=>(cC p39.1 ((p39.2+1)+1)).bind fun c42=>(cC p39.1 (((p39.2+1)+1)+1)).bind fun c43=>some ([.agg [Cell.str s40,c41,c42,c43],.one (Cell.bool true)],H19))) none)
def fac (k m:Nat)(i1 i2:Int)(s3:ByteArray)(c4 c5:Cell):Option Res:=(qak qib [.agg [Cell.int i1,Cell.int i2,Cell.str s3,c4,c5]] []).bind fun r6=>cond (qab qwvb r6) ((cB (qaa r6 0) 0).bind fun b7=>cond (!b7) (some ([.agg [Cell.str (bs []),.lst true 1 [],.lst true 2 [],.lst true 2 []],.one (Cell.bool false)],[])) ((qak qun [.agg [Cell.int i1,Cell.int i2,Cell.str s3,c4,c5]] []).bind fun r8=>cond (qab qvmc r8) ((cB (qaa r8 0) 0).bind fun b9=>cond (!b9) (some ([.agg [Cell.str (bs []),.lst true 1 [],.lst true 2 [],.lst true 2 []],.one (Cell.bool false)],[])) ((lenC c5).bind fun n10=>qajb k m m (c5) (n10:Int) 0 i1 i2 s3 (c4) (c5) [Entry.mk 4 [[Cell.str (bs []),.lst true 1 [],.lst true 2 [],.lst true 2 []]] 0 false])) none)) none
abbrev qrwc (k m:Nat):TB:=evC qxzb qmu (evF qxzb (k+1)) m (sub [1,1,1,0,1,2,3] qmu.code) none
abbrev qgoc (k m:Nat):TK:=qay 0 (seqK (evC qxzb qmu (evF qxzb (k+1)) m (sub [1,1,1,1] qmu.code) none) (retK qxzb qmu))
theorem qshb (k m:Nat):∀ (n:Nat) (c11:Cell) (i12 i13 i14 i15:Int) (s16:ByteArray) (c17 c18:Cell) (H19:List Entry),qca (some [1,2,4,17,18,19]) (qrwc k m) (qgoc k m) n ⟨fT 39 0 [(1,.loc 1 0),(2,.loc 2 0),(4,.av (.one (.ptr 0 4 0 0 0))),(17,.av (.one (c11))),(18,.av (.one (Cell.int i12))),(19,.av (.one (Cell.int i13)))],fX 39 0 [(1,[Cell.int i14,Cell.int i15,Cell.str s16,c17,c18]),(2,[Cell.str (bs []),.lst true 1 [],.lst true 2 [],.lst true 2 []])],H19⟩=qajb (k+1) m n c11 i12 i13 i14 i15 s16 c17 c18 H19:=by
 intro n
 induction n with
 | zero=>intros;rfl
 | succ n ih=>intros;simp only[qajb,← ih];kernel_rfl
theorem qhic (k m:Nat)(i1 i2:Int)(s3:ByteArray)(c4 c5:Cell):evC qxzb qmu (evF qxzb (k+1)) m qmu.code none (retK qxzb qmu) (enter qmu [.agg [Cell.int i1,Cell.int i2,Cell.str s3,c4,c5]] [])=fac (k+1) m i1 i2 s3 c4 c5:=by
 simp only[fac,← qshb k m]
 kernel_rfl
theorem qng {i1 i2:Int}{s3:ByteArray}{c4 c5:Cell}{r:Res}(k:Nat)(h:fac (k+1) (k+1) i1 i2 s3 c4 c5=some r):qjz [.agg [Cell.int i1,Cell.int i2,Cell.str s3,c4,c5]] []=some r:=qas (k:=k+2) (Eq.trans (Eq.trans (by kernel_rfl) (qhic k (k+1) i1 i2 s3 c4 c5)) h)
def qugc:List (Nat×Run):=[]
def qyqb:Ctx:=ctx qbh qbg qugc
def qig:Run:=lim qyqb qqy
theorem qgqc:FnOk Tryz.prog OkT qqy qig:=qaq (l:=qugc) qac tyTab_ok qad okT .nil qqy
def qzr (k m:Nat):Nat→Cell→Cell→Int→Option Res | 0,_,_,_=>none | n+1,c5,c6,i7=>(lenC c5).bind fun n8=>cond (decide (i7 < (n8:Int))) ((idxA 1 (c5) i7).bind fun c9=>(deref [] (c9)).bind fun p10=>(cS p10.1 p10.2).bind fun s11=>(idxA 1 (c6) i7).bind fun c12=>(deref [] (c12)).bind fun p13=>(cS p13.1 p13.2).bind fun s14=>cond (!(s11.toList==s14.toList)) (some ([.one (Cell.bool false)],[])) (qzr k m n (c5) (c6) (IntKind.i64.wrap (i7+1)))) (some ([.one (Cell.bool true)],[]))
def fcb (k m:Nat)(c1 c2:Cell):Option Res:=(lenC c1).bind fun n3=>(lenC c2).bind fun n4=>cond ((n3:Int) != (n4:Int)) (some ([.one (Cell.bool false)],[])) (qzr k m m (c1) (c2) 0)
abbrev qqlc (k m:Nat):TB:=evC qyqb qom (evF qyqb (k+1)) m (sub [1,1,0,1,2,3] qom.code) none
abbrev qixc (k m:Nat):TK:=qay 0 (seqK (evC qyqb qom (evF qyqb (k+1)) m (sub [1,1,1] qom.code) none) (retK qyqb qom))
theorem qvob (k m:Nat):∀ (n:Nat) (c5 c6:Cell) (i7:Int),qca (some [0,1,5]) (qqlc k m) (qixc k m) n ⟨fT 26 0 [(0,.av (.one (c5))),(1,.av (.one (c6))),(5,.av (.one (Cell.int i7)))],fX 26 0 [],[]⟩=qzr (k+1) m n c5 c6 i7:=by
 intro n
 induction n with
 | zero=>intros;rfl
 | succ n ih=>intros;simp only[qzr,← ih];kernel_rfl
theorem qfpc (k m:Nat)(c1 c2:Cell):evC qyqb qom (evF qyqb (k+1)) m qom.code none (retK qyqb qom) (enter qom [.one (c1),.one (c2)] [])=fcb (k+1) m c1 c2:=by
 simp only[fcb,← qvob k m]
 kernel_rfl
theorem qosb {c1 c2:Cell}{r:Res}(k:Nat)(h:fcb (k+1) (k+1) c1 c2=some r):qig [.one (c1),.one (c2)] []=some r:=qas (k:=k+2) (Eq.trans (Eq.trans (by kernel_rfl) (qfpc k (k+1) c1 c2)) h)
def qcjd:List (Nat×Run):=[]
def qgod:Ctx:=ctx qbh qbg qcjd
def qxy:Run:=lim qgod qgfb
theorem ok_fby:FnOk Tryz.prog OkT qgfb qxy:=qaq (l:=qcjd) qac tyTab_ok qad okT .nil qgfb
def fby (k m:Nat)(s1 s2 s3 s4:ByteArray):Option Res:=cond (!(s1.toList==s3.toList)) (some ([.one (Cell.bool false)],[])) (cond (!(s2.toList==s4.toList)) (some ([.one (Cell.bool false)],[])) (some ([.one (Cell.bool true)],[])))
theorem qqrc (k m:Nat)(s1 s2 s3 s4:ByteArray):evC qgod qitb (evF qgod (k+1)) m qitb.code none (retK qgod qitb) (enter qitb [.agg [Cell.str s1,Cell.str s2],.agg [Cell.str s3,Cell.str s4]] [])=fby (k+1) m s1 s2 s3 s4:=by
 kernel_rfl
theorem qqvb {s1 s2 s3 s4:ByteArray}{r:Res}(k:Nat)(h:fby (k+1) (k+1) s1 s2 s3 s4=some r):qxy [.agg [Cell.str s1,Cell.str s2],.agg [Cell.str s3,Cell.str s4]] []=some r:=qas (k:=k+2) (Eq.trans (Eq.trans (by kernel_rfl) (qqrc k (k+1) s1 s2 s3 s4)) h)
def qtqc:List (Nat×Run):=[(qgfb,qxy)]
def qduc:Ctx:=ctx qbh qbg qtqc
def qxd:Run:=lim qduc qezb
theorem ok_fbz:FnOk Tryz.prog OkT qezb qxd:=qaq (l:=qtqc) qac tyTab_ok qad okT (.cons ok_fby .nil) qezb
def qalb (k m:Nat):Nat→Cell→Cell→Int→Option Res | 0,_,_,_=>none | n+1,c5,c6,i7=>(lenC c5).bind fun n8=>cond (decide (i7 < (n8:Int))) ((idxA 2 (c5) i7).bind fun c9=>(deref [] (c9)).bind fun p10=>(cS p10.1 p10.2).bind fun s11=>(cS p10.1 (p10.2+1)).bind fun s12=>(idxA 2 (c6) i7).bind fun c13=>(deref [] (c13)).bind fun p14=>(cS p14.1 p14.2).bind fun s15=>(cS p14.1 (p14.2+1)).bind fun s16=>(qak qxy [.agg [Cell.str s11,Cell.str s12],.agg [Cell.str s15,Cell.str s16]] []).bind fun r17=>cond (qab qdgd r17) ((cB (qaa r17 0) 0).bind fun b18=>cond (!b18) (some ([.one (Cell.bool false)],[])) (qalb k m n (c5) (c6) (IntKind.i64.wrap (i7+1)))) none) (some ([.one (Cell.bool true)],[]))
def fbz (k m:Nat)(c1 c2:Cell):Option Res:=(lenC c1).bind fun n3=>(lenC c2).bind fun n4=>cond ((n3:Int) != (n4:Int)) (some ([.one (Cell.bool false)],[])) (qalb k m m (c1) (c2) 0)
abbrev qkuc (k m:Nat):TB:=evC qduc qlg (evF qduc (k+1)) m (sub [1,1,0,1,2,3] qlg.code) none
abbrev qihc (k m:Nat):TK:=qay 0 (seqK (evC qduc qlg (evF qduc (k+1)) m (sub [1,1,1] qlg.code) none) (retK qduc qlg))
theorem qyzb (k m:Nat):∀ (n:Nat) (c5 c6:Cell) (i7:Int),qca (some [0,1,5]) (qkuc k m) (qihc k m) n ⟨fT 27 0 [(0,.av (.one (c5))),(1,.av (.one (c6))),(5,.av (.one (Cell.int i7)))],fX 27 0 [],[]⟩=qalb (k+1) m n c5 c6 i7:=by
 intro n
 induction n with
 | zero=>intros;rfl
 | succ n ih=>intros;simp only[qalb,← ih];kernel_rfl
theorem qosc (k m:Nat)(c1 c2:Cell):evC qduc qlg (evF qduc (k+1)) m qlg.code none (retK qduc qlg) (enter qlg [.one (c1),.one (c2)] [])=fbz (k+1) m c1 c2:=by
 simp only[fbz,← qyzb k m]
 kernel_rfl
theorem qppb {c1 c2:Cell}{r:Res}(k:Nat)(h:fbz (k+1) (k+1) c1 c2=some r):qxd [.one (c1),.one (c2)] []=some r:=qas (k:=k+2) (Eq.trans (Eq.trans (by kernel_rfl) (qosc k (k+1) c1 c2)) h)
def qznc:List (Nat×Run):=[(qqy,qig)]
def qfod:Ctx:=ctx qbh qbg qznc
def qwv:Run:=lim qfod qfkb
theorem ok_fbw:FnOk Tryz.prog OkT qfkb qwv:=qaq (l:=qznc) qac tyTab_ok qad okT (.cons qgqc .nil) qfkb
def fbw (k m:Nat)(s1:ByteArray)(c2:Cell)(s3:ByteArray)(c4:Cell):Option Res:=cond (!(s1.toList==s3.toList)) (some ([.one (Cell.bool false)],[])) ((qak qig [.one (c2),.one (c4)] []).bind fun r5=>cond (qab qwgb r5) ((cB (qaa r5 0) 0).bind fun b6=>cond (!b6) (some ([.one (Cell.bool false)],[])) (some ([.one (Cell.bool true)],[]))) none)
theorem qhwc (k m:Nat)(s1:ByteArray)(c2:Cell)(s3:ByteArray)(c4:Cell):evC qfod qhvb (evF qfod (k+1)) m qhvb.code none (retK qfod qhvb) (enter qhvb [.agg [Cell.str s1,c2],.agg [Cell.str s3,c4]] [])=fbw (k+1) m s1 c2 s3 c4:=by
 kernel_rfl
theorem qnfb {s1:ByteArray}{c2:Cell}{s3:ByteArray}{c4:Cell}{r:Res}(k:Nat)(h:fbw (k+1) (k+1) s1 c2 s3 c4=some r):qwv [.agg [Cell.str s1,c2],.agg [Cell.str s3,c4]] []=some r:=qas (k:=k+2) (Eq.trans (Eq.trans (by kernel_rfl) (qhwc k (k+1) s1 c2 s3 c4)) h)
def qbjd:List (Nat×Run):=[(qfkb,qwv)]
def qybb:Ctx:=ctx qbh qbg qbjd
def qyv:Run:=lim qybb qdtb
theorem ok_fbx:FnOk Tryz.prog OkT qdtb qyv:=qaq (l:=qbjd) qac tyTab_ok qad okT (.cons ok_fbw .nil) qdtb
def qapb (k m:Nat):Nat→Cell→Cell→Int→Option Res | 0,_,_,_=>none | n+1,c5,c6,i7=>(lenC c5).bind fun n8=>cond (decide (i7 < (n8:Int))) ((idxA 2 (c5) i7).bind fun c9=>(deref [] (c9)).bind fun p10=>(cS p10.1 p10.2).bind fun s11=>(cC p10.1 (p10.2+1)).bind fun c12=>(idxA 2 (c6) i7).bind fun c13=>(deref [] (c13)).bind fun p14=>(cS p14.1 p14.2).bind fun s15=>(cC p14.1 (p14.2+1)).bind fun c16=>(qak qwv [.agg [Cell.str s11,c12],.agg [Cell.str s15,c16]] []).bind fun r17=>cond (qab qxpc r17) ((cB (qaa r17 0) 0).bind fun b18=>cond (!b18) (some ([.one (Cell.bool false)],[])) (qapb k m n (c5) (c6) (IntKind.i64.wrap (i7+1)))) none) (some ([.one (Cell.bool true)],[]))
def fbx (k m:Nat)(c1 c2:Cell):Option Res:=(lenC c1).bind fun n3=>(lenC c2).bind fun n4=>cond ((n3:Int) != (n4:Int)) (some ([.one (Cell.bool false)],[])) (qapb k m m (c1) (c2) 0)
abbrev qnpc (k m:Nat):TB:=evC qybb qow (evF qybb (k+1)) m (sub [1,1,0,1,2,3] qow.code) none
abbrev qimc (k m:Nat):TK:=qay 0 (seqK (evC qybb qow (evF qybb (k+1)) m (sub [1,1,1] qow.code) none) (retK qybb qow))
theorem qxob (k m:Nat):∀ (n:Nat) (c5 c6:Cell) (i7:Int),qca (some [0,1,5]) (qnpc k m) (qimc k m) n ⟨fT 27 0 [(0,.av (.one (c5))),(1,.av (.one (c6))),(5,.av (.one (Cell.int i7)))],fX 27 0 [],[]⟩=qapb (k+1) m n c5 c6 i7:=by
 intro n
 induction n with
 | zero=>intros;rfl
 | succ n ih=>intros;simp only[qapb,← ih];kernel_rfl
theorem qgsc (k m:Nat)(c1 c2:Cell):evC qybb qow (evF qybb (k+1)) m qow.code none (retK qybb qow) (enter qow [.one (c1),.one (c2)] [])=fbx (k+1) m c1 c2:=by
 simp only[fbx,← qxob k m]
 kernel_rfl
theorem qptb {c1 c2:Cell}{r:Res}(k:Nat)(h:fbx (k+1) (k+1) c1 c2=some r):qyv [.one (c1),.one (c2)] []=some r:=qas (k:=k+2) (Eq.trans (Eq.trans (by kernel_rfl) (qgsc k (k+1) c1 c2)) h)
def qxlc:List (Nat×Run):=[(qqy,qig),(qezb,qxd),(qdtb,qyv)]
def qfnd:Ctx:=ctx qbh qbg qxlc
def qhk:Run:=lim qfnd qdwb
theorem ok_fca:FnOk Tryz.prog OkT qdwb qhk:=qaq (l:=qxlc) qac tyTab_ok qad okT (.cons qgqc (.cons ok_fbz (.cons ok_fbx .nil))) qdwb
def fca (k m:Nat)(s1:ByteArray)(c2 c3 c4:Cell)(s5:ByteArray)(c6 c7 c8:Cell):Option Res:=cond (!(s1.toList==s5.toList)) (some ([.one (Cell.bool false)],[])) ((qak qig [.one (c2),.one (c6)] []).bind fun r9=>cond (qab qwgb r9) ((cB (qaa r9 0) 0).bind fun b10=>cond (!b10) (some ([.one (Cell.bool false)],[])) ((qak qxd [.one (c3),.one (c7)] []).bind fun r11=>cond (qab qywc r11) ((cB (qaa r11 0) 0).bind fun b12=>cond (!b12) (some ([.one (Cell.bool false)],[])) ((qak qyv [.one (c4),.one (c8)] []).bind fun r13=>cond (qab qtrc r13) ((cB (qaa r13 0) 0).bind fun b14=>cond (!b14) (some ([.one (Cell.bool false)],[])) (some ([.one (Cell.bool true)],[]))) none)) none)) none)
theorem qjjc (k m:Nat)(s1:ByteArray)(c2 c3 c4:Cell)(s5:ByteArray)(c6 c7 c8:Cell):evC qfnd qjtb (evF qfnd (k+1)) m qjtb.code none (retK qfnd qjtb) (enter qjtb [.agg [Cell.str s1,c2,c3,c4],.agg [Cell.str s5,c6,c7,c8]] [])=fca (k+1) m s1 c2 c3 c4 s5 c6 c7 c8:=by
 kernel_rfl
theorem qlsb {s1:ByteArray}{c2 c3 c4:Cell}{s5:ByteArray}{c6 c7 c8:Cell}{r:Res}(k:Nat)(h:fca (k+1) (k+1) s1 c2 c3 c4 s5 c6 c7 c8=some r):qhk [.agg [Cell.str s1,c2,c3,c4],.agg [Cell.str s5,c6,c7,c8]] []=some r:=qas (k:=k+2) (Eq.trans (Eq.trans (by kernel_rfl) (qjjc k (k+1) s1 c2 c3 c4 s5 c6 c7 c8)) h)
def qwbc:List (Nat×Run):=[(qqy,qig)]
def qqk:Ctx:=ctx qbh qbg qwbc
def qyi:Run:=lim qqk qjs
theorem ok_fcc:FnOk Tryz.prog OkT qjs qyi:=qaq (l:=qwbc) qac tyTab_ok qad okT (.cons qgqc .nil) qjs
def fcc (k m:Nat)(i1 i2:Int)(s3:ByteArray)(c4 c5:Cell)(i6 i7:Int)(s8:ByteArray)(c9 c10:Cell):Option Res:=cond (i1 != i6) (some ([.one (Cell.bool false)],[])) (cond (i2 != i7) (some ([.one (Cell.bool false)],[])) (cond (!(s3.toList==s8.toList)) (some ([.one (Cell.bool false)],[])) ((qak (evF qqk k qwl) [.one (c4),.one (c9)] []).bind fun r11=>cond (qab qzic r11) ((cB (qaa r11 0) 0).bind fun b12=>cond (!b12) (some ([.one (Cell.bool false)],[])) ((qak qig [.one (c5),.one (c10)] []).bind fun r13=>cond (qab qwgb r13) ((cB (qaa r13 0) 0).bind fun b14=>cond (!b14) (some ([.one (Cell.bool false)],[])) (some ([.one (Cell.bool true)],[]))) none)) none)))
theorem qotc (k m:Nat)(i1 i2:Int)(s3:ByteArray)(c4 c5:Cell)(i6 i7:Int)(s8:ByteArray)(c9 c10:Cell):evC qqk qiqb (evF qqk (k+1)) m qiqb.code none (retK qqk qiqb) (enter qiqb [.agg [Cell.int i1,Cell.int i2,Cell.str s3,c4,c5],.agg [Cell.int i6,Cell.int i7,Cell.str s8,c9,c10]] [])=fcc (k+1) m i1 i2 s3 c4 c5 i6 i7 s8 c9 c10:=by
 kernel_rfl
theorem fcc_eq (k:Nat)(i1 i2:Int)(s3:ByteArray)(c4 c5:Cell)(i6 i7:Int)(s8:ByteArray)(c9 c10:Cell):evF qqk (k+2) qjs [.agg [Cell.int i1,Cell.int i2,Cell.str s3,c4,c5],.agg [Cell.int i6,Cell.int i7,Cell.str s8,c9,c10]] []=fcc (k+1) (k+1) i1 i2 s3 c4 c5 i6 i7 s8 c9 c10:=
 Eq.trans (by kernel_rfl) (qotc k (k+1) i1 i2 s3 c4 c5 i6 i7 s8 c9 c10)
def qbhb (k m:Nat):Nat→Cell→Cell→Int→Option Res | 0,_,_,_=>none | n+1,c5,c6,i7=>(lenC c5).bind fun n8=>cond (decide (i7 < (n8:Int))) ((idxA 5 (c5) i7).bind fun c9=>(deref [] (c9)).bind fun p10=>(cI .i64 p10.1 p10.2).bind fun i11=>(cI .i64 p10.1 (p10.2+1)).bind fun i12=>(cS p10.1 ((p10.2+1)+1)).bind fun s13=>(cC p10.1 (((p10.2+1)+1)+1)).bind fun c14=>(cC p10.1 ((((p10.2+1)+1)+1)+1)).bind fun c15=>(idxA 5 (c6) i7).bind fun c16=>(deref [] (c16)).bind fun p17=>(cI .i64 p17.1 p17.2).bind fun i18=>(cI .i64 p17.1 (p17.2+1)).bind fun i19=>(cS p17.1 ((p17.2+1)+1)).bind fun s20=>(cC p17.1 (((p17.2+1)+1)+1)).bind fun c21=>(cC p17.1 ((((p17.2+1)+1)+1)+1)).bind fun c22=>(qak (evF qqk k qjs) [.agg [Cell.int i11,Cell.int i12,Cell.str s13,c14,c15],.agg [Cell.int i18,Cell.int i19,Cell.str s20,c21,c22]] []).bind fun r23=>cond (qab qoac r23) ((cB (qaa r23 0) 0).bind fun b24=>cond (!b24) (some ([.one (Cell.bool false)],[])) (qbhb k m n (c5) (c6) (IntKind.i64.wrap (i7+1)))) none) (some ([.one (Cell.bool true)],[]))
def fcd (k m:Nat)(c1 c2:Cell):Option Res:=(lenC c1).bind fun n3=>(lenC c2).bind fun n4=>cond ((n3:Int) != (n4:Int)) (some ([.one (Cell.bool false)],[])) (qbhb k m m (c1) (c2) 0)
abbrev qocc (k m:Nat):TB:=evC qqk qms (evF qqk (k+1)) m (sub [1,1,0,1,2,3] qms.code) none
abbrev qicc (k m:Nat):TK:=qay 0 (seqK (evC qqk qms (evF qqk (k+1)) m (sub [1,1,1] qms.code) none) (retK qqk qms))
theorem quob (k m:Nat):∀ (n:Nat) (c5 c6:Cell) (i7:Int),qca (some [0,1,5]) (qocc k m) (qicc k m) n ⟨fT 27 0 [(0,.av (.one (c5))),(1,.av (.one (c6))),(5,.av (.one (Cell.int i7)))],fX 27 0 [],[]⟩=qbhb (k+1) m n c5 c6 i7:=by
 intro n
 induction n with
 | zero=>intros;rfl
 | succ n ih=>intros;simp only[qbhb,← ih];kernel_rfl
theorem qric (k m:Nat)(c1 c2:Cell):evC qqk qms (evF qqk (k+1)) m qms.code none (retK qqk qms) (enter qms [.one (c1),.one (c2)] [])=fcd (k+1) m c1 c2:=by
 simp only[fcd,← quob k m]
 kernel_rfl
theorem fcd_eq (k:Nat)(c1 c2:Cell):evF qqk (k+2) qwl [.one (c1),.one (c2)] []=fcd (k+1) (k+1) c1 c2:=
 Eq.trans (by kernel_rfl) (qric k (k+1) c1 c2)
def qvoc:List (Nat×Run):=[]
def qubb:Ctx:=ctx qbh qbg qvoc
def qct:Run:=lim qubb qhn
theorem qanb:FnOk Tryz.prog OkT qhn qct:=qaq (l:=qvoc) qac tyTab_ok qad okT .nil qhn
def qaib (k m:Nat):Nat→Int→ByteArray→Option Res | 0,_,_=>none | n+1,i2,s3=>cond (decide (i2 > 0)) ((bytesOf [] (.lst true 1 [[.sc (.int .u8 (IntKind.u8.wrap (IntKind.i64.wrap (48+(i2.tmod 10)))))]])).bind fun s4=>(catS s4 s3).bind fun s5=>qaib k m n (IntKind.i64.wrap (i2.tdiv 10)) s5) ((catS (bs [109]) s3).bind fun s6=>some ([.one (Cell.str s6)],[]))
def fcm (k m:Nat)(i1:Int):Option Res:=cond (decide (i1≤0)) (some ([.one (Cell.str (bs [109,48]))],[])) (qaib k m m i1 (bs []))
abbrev qpxc (k m:Nat):TB:=evC qubb qpe (evF qubb (k+1)) m (sub [1,1,1,0,2,3] qpe.code) none
abbrev qjfc (k m:Nat):TK:=qay 0 (seqK (evC qubb qpe (evF qubb (k+1)) m (sub [1,1,1,1] qpe.code) none) (retK qubb qpe))
theorem qznb (k m:Nat):∀ (n:Nat) (i2:Int) (s3:ByteArray),qca (some [0,3]) (qpxc k m) (qjfc k m) n ⟨fT 20 0 [(0,.av (.one (Cell.int i2))),(3,.av (.one (Cell.str s3)))],fX 20 0 [],[]⟩=qaib (k+1) m n i2 s3:=by
 intro n
 induction n with
 | zero=>intros;rfl
 | succ n ih=>intros;simp only[qaib,← ih];kernel_rfl
theorem qlgc (k m:Nat)(i1:Int):evC qubb qpe (evF qubb (k+1)) m qpe.code none (retK qubb qpe) (enter qpe [.one (Cell.int i1)] [])=fcm (k+1) m i1:=by
 simp only[fcm,← qznb k m]
 kernel_rfl
theorem qpmb {i1:Int}{r:Res}(k:Nat)(h:fcm (k+1) (k+1) i1=some r):qct [.one (Cell.int i1)] []=some r:=qas (k:=k+2) (Eq.trans (Eq.trans (by kernel_rfl) (qlgc k (k+1) i1)) h)
def qwhc:List (Nat×Run):=[(qhn,qct)]
def qvgb:Ctx:=ctx qbh qbg qwhc
def qfw:Run:=lim qvgb qoo
theorem qcmc:FnOk Tryz.prog OkT qoo qfw:=qaq (l:=qwhc) qac tyTab_ok qad okT (.cons qanb .nil) qoo
def qaub (k m:Nat):Nat→Cell→Int→Int→List Entry→Option Res | 0,_,_,_,_=>none | n+1,c3,i4,i5,H6=>(lenC c3).bind fun n7=>cond (decide (i5 < (n7:Int))) ((qak qct [.one (Cell.int i4)] H6).bind fun r8=>cond (qab qpx r8) ((cS (qaa r8 0) 0).bind fun s9=>(idxA 1 (c3) i5).bind fun c10=>(qbm H6 (c10) [Cell.str s9]).bind fun h11=>qaub k m n (c3) (IntKind.i64.wrap (i4+1)) (IntKind.i64.wrap (i5+1)) h11) none) (some ([.one (Cell.int i4)],H6))
def fcl (k m:Nat)(c1:Cell)(i2:Int)(H:List Entry):Option Res:=qaub k m m (c1) i2 0 H
abbrev qlmc (k m:Nat):TB:=evC qvgb qmi (evF qvgb (k+1)) m (sub [1,0,1,2,3] qmi.code) none
abbrev qjqc (k m:Nat):TK:=qay 0 (seqK (evC qvgb qmi (evF qvgb (k+1)) m (sub [1,1] qmi.code) none) (retK qvgb qmi))
theorem qavc (k m:Nat):∀ (n:Nat) (c3:Cell) (i4 i5:Int) (H6:List Entry),qca (some [0,1,5]) (qlmc k m) (qjqc k m) n ⟨fT 20 0 [(0,.av (.one (c3))),(1,.av (.one (Cell.int i4))),(5,.av (.one (Cell.int i5)))],fX 20 0 [],H6⟩=qaub (k+1) m n c3 i4 i5 H6:=by
 intro n
 induction n with
 | zero=>intros;rfl
 | succ n ih=>intros;simp only[qaub,← ih];kernel_rfl
theorem qkkc (k m:Nat)(c1:Cell)(i2:Int)(H:List Entry):evC qvgb qmi (evF qvgb (k+1)) m qmi.code none (retK qvgb qmi) (enter qmi [.one (c1),.one (Cell.int i2)] H)=fcl (k+1) m c1 i2 H:=by
 simp only[fcl,← qavc k m]
 kernel_rfl
theorem qnnb {c1:Cell}{i2:Int}{H:List Entry}{r:Res}(k:Nat)(h:fcl (k+1) (k+1) c1 i2 H=some r):qfw [.one (c1),.one (Cell.int i2)] H=some r:=qas (k:=k+2) (Eq.trans (Eq.trans (by kernel_rfl) (qkkc k (k+1) c1 i2 H)) h)
def qbgd:List (Nat×Run):=[(qoo,qfw),(qhn,qct)]
def qkab:Ctx:=ctx qbh qbg qbgd
def qeub:Run:=lim qkab qkh
theorem ok_fco:FnOk Tryz.prog OkT qkh qeub:=qaq (l:=qbgd) qac tyTab_ok qad okT (.cons qcmc (.cons qanb .nil)) qkh
def qzo (k m:Nat):Nat→Cell→Int→Int→List Entry→Option Res | 0,_,_,_,_=>none | n+1,c3,i4,i5,H6=>(lenC c3).bind fun n7=>cond (decide (i5 < (n7:Int))) ((idxA 5 (c3) i5).bind fun c8=>(fldA c8 0).bind fun c9=>(qbm H6 (c9) [Cell.int i4]).bind fun h10=>(idxA 5 (c3) i5).bind fun c11=>(fldA c11 1).bind fun c12=>(qbm h10 (c12) [Cell.int (IntKind.i64.wrap (i4+1))]).bind fun h13=>(qak qct [.one (Cell.int (IntKind.i64.wrap ((IntKind.i64.wrap (i4+1))+1)))] h13).bind fun r14=>cond (qab qpx r14) ((cS (qaa r14 0) 0).bind fun s15=>(idxA 5 (c3) i5).bind fun c16=>(fldA c16 2).bind fun c17=>(qbm h13 (c17) [Cell.str s15]).bind fun h18=>(idxA 5 (c3) i5).bind fun c19=>(fldA c19 3).bind fun c20=>(deref h18 (c20)).bind fun p21=>(cC p21.1 p21.2).bind fun c22=>((evF qkab k qkh) [.one (c22),.one (Cell.int (IntKind.i64.wrap ((IntKind.i64.wrap ((IntKind.i64.wrap (i4+1))+1))+1)))] h18).bind fun r23=>cond (qab qtbc r23.1) ((cI .i64 (qaa r23.1 0) 0).bind fun i24=>(idxA 5 (c3) i5).bind fun c25=>(fldA c25 4).bind fun c26=>(deref r23.2 (c26)).bind fun p27=>(cC p27.1 p27.2).bind fun c28=>(qfw [.one (c28),.one (Cell.int i24)] r23.2).bind fun r29=>cond (qab qojb r29.1) ((cI .i64 (qaa r29.1 0) 0).bind fun i30=>qzo k m n (c3) i30 (IntKind.i64.wrap (i5+1)) r29.2) none) none) none) (some ([.one (Cell.int i4)],H6))
def fco (k m:Nat)(c1:Cell)(i2:Int)(H:List Entry):Option Res:=qzo k m m (c1) i2 0 H
abbrev qpdc (k m:Nat):TB:=evC qkab qnl (evF qkab (k+1)) m (sub [1,0,1,2,3] qnl.code) none
abbrev qfrc (k m:Nat):TK:=qay 0 (seqK (evC qkab qnl (evF qkab (k+1)) m (sub [1,1] qnl.code) none) (retK qkab qnl))
theorem qzxb (k m:Nat):∀ (n:Nat) (c3:Cell) (i4 i5:Int) (H6:List Entry),qca (some [0,1,5]) (qpdc k m) (qfrc k m) n ⟨fT 49 0 [(0,.av (.one (c3))),(1,.av (.one (Cell.int i4))),(5,.av (.one (Cell.int i5)))],fX 49 0 [],H6⟩=qzo (k+1) m n c3 i4 i5 H6:=by
 intro n
 induction n with
 | zero=>intros;rfl
 | succ n ih=>intros;simp only[qzo,← ih];kernel_rfl
theorem qqcc (k m:Nat)(c1:Cell)(i2:Int)(H:List Entry):evC qkab qnl (evF qkab (k+1)) m qnl.code none (retK qkab qnl) (enter qnl [.one (c1),.one (Cell.int i2)] H)=fco (k+1) m c1 i2 H:=by
 simp only[fco,← qzxb k m]
 kernel_rfl
theorem fco_eq (k:Nat)(c1:Cell)(i2:Int)(H:List Entry):evF qkab (k+2) qkh [.one (c1),.one (Cell.int i2)] H=fco (k+1) (k+1) c1 i2 H:=
 Eq.trans (by kernel_rfl) (qqcc k (k+1) c1 i2 H)
def qwnc:List (Nat×Run):=[(qoo,qfw),(qkh,qeub)]
def qfdd:Ctx:=ctx qbh qbg qwnc
def qqm:Run:=lim qfdd qeab
theorem ok_fcn:FnOk Tryz.prog OkT qeab qqm:=qaq (l:=qwnc) qac tyTab_ok qad okT (.cons qcmc (.cons ok_fco .nil)) qeab
def fcn (k m:Nat)(i1 i2:Int)(s3:ByteArray)(c4 c5:Cell)(i6:Int)(H:List Entry):Option Res:=(qeub [.one (c4),.one (Cell.int i6)] H).bind fun r7=>cond (qab qtbc r7.1) ((cI .i64 (qaa r7.1 0) 0).bind fun i8=>(qfw [.one (c5),.one (Cell.int i8)] r7.2).bind fun r9=>cond (qab qojb r9.1) ((cI .i64 (qaa r9.1 0) 0).bind fun i10=>some ([.one (Cell.int i10)],r9.2)) none) none
theorem qmqc (k m:Nat)(i1 i2:Int)(s3:ByteArray)(c4 c5:Cell)(i6:Int)(H:List Entry):evC qfdd qirb (evF qfdd (k+1)) m qirb.code none (retK qfdd qirb) (enter qirb [.agg [Cell.int i1,Cell.int i2,Cell.str s3,c4,c5],.one (Cell.int i6)] H)=fcn (k+1) m i1 i2 s3 c4 c5 i6 H:=by
 kernel_rfl
theorem qpvb {i1 i2:Int}{s3:ByteArray}{c4 c5:Cell}{i6:Int}{H:List Entry}{r:Res}(k:Nat)(h:fcn (k+1) (k+1) i1 i2 s3 c4 c5 i6 H=some r):qqm [.agg [Cell.int i1,Cell.int i2,Cell.str s3,c4,c5],.one (Cell.int i6)] H=some r:=qas (k:=k+2) (Eq.trans (Eq.trans (by kernel_rfl) (qmqc k (k+1) i1 i2 s3 c4 c5 i6 H)) h)
def qulc:List (Nat×Run):=[(qhn,qct)]
def qxeb:Ctx:=ctx qbh qbg qulc
def qws:Run:=lim qxeb qcwb
theorem ok_fcj:FnOk Tryz.prog OkT qcwb qws:=qaq (l:=qulc) qac tyTab_ok qad okT (.cons qanb .nil) qcwb
def qzz (k m:Nat):Nat→Cell→Int→Int→List Entry→Option Res | 0,_,_,_,_=>none | n+1,c3,i4,i5,H6=>(lenC c3).bind fun n7=>cond (decide (i5 < (n7:Int))) ((qak qct [.one (Cell.int i4)] H6).bind fun r8=>cond (qab qpx r8) ((cS (qaa r8 0) 0).bind fun s9=>(idxA 2 (c3) i5).bind fun c10=>(fldA c10 0).bind fun c11=>(qbm H6 (c11) [Cell.str s9]).bind fun h12=>(qak qct [.one (Cell.int (IntKind.i64.wrap (i4+1)))] h12).bind fun r13=>cond (qab qpx r13) ((cS (qaa r13 0) 0).bind fun s14=>(idxA 2 (c3) i5).bind fun c15=>(fldA c15 1).bind fun c16=>(qbm h12 (c16) [Cell.str s14]).bind fun h17=>qzz k m n (c3) (IntKind.i64.wrap ((IntKind.i64.wrap (i4+1))+1)) (IntKind.i64.wrap (i5+1)) h17) none) none) (some ([.one (Cell.int i4)],H6))
def fcj (k m:Nat)(c1:Cell)(i2:Int)(H:List Entry):Option Res:=qzz k m m (c1) i2 0 H
abbrev qlnc (k m:Nat):TB:=evC qxeb qnw (evF qxeb (k+1)) m (sub [1,0,1,2,3] qnw.code) none
abbrev qlqc (k m:Nat):TK:=qay 0 (seqK (evC qxeb qnw (evF qxeb (k+1)) m (sub [1,1] qnw.code) none) (retK qxeb qnw))
theorem qchc (k m:Nat):∀ (n:Nat) (c3:Cell) (i4 i5:Int) (H6:List Entry),qca (some [0,1,5]) (qlnc k m) (qlqc k m) n ⟨fT 29 0 [(0,.av (.one (c3))),(1,.av (.one (Cell.int i4))),(5,.av (.one (Cell.int i5)))],fX 29 0 [],H6⟩=qzz (k+1) m n c3 i4 i5 H6:=by
 intro n
 induction n with
 | zero=>intros;rfl
 | succ n ih=>intros;simp only[qzz,← ih];kernel_rfl
theorem qqmc (k m:Nat)(c1:Cell)(i2:Int)(H:List Entry):evC qxeb qnw (evF qxeb (k+1)) m qnw.code none (retK qxeb qnw) (enter qnw [.one (c1),.one (Cell.int i2)] H)=fcj (k+1) m c1 i2 H:=by
 simp only[fcj,← qchc k m]
 kernel_rfl
theorem qmqb {c1:Cell}{i2:Int}{H:List Entry}{r:Res}(k:Nat)(h:fcj (k+1) (k+1) c1 i2 H=some r):qws [.one (c1),.one (Cell.int i2)] H=some r:=qas (k:=k+2) (Eq.trans (Eq.trans (by kernel_rfl) (qqmc k (k+1) c1 i2 H)) h)
def qbzd:List (Nat×Run):=[(qoo,qfw),(qhn,qct)]
def qaac:Ctx:=ctx qbh qbg qbzd
def qwg:Run:=lim qaac qdvb
theorem ok_fci:FnOk Tryz.prog OkT qdvb qwg:=qaq (l:=qbzd) qac tyTab_ok qad okT (.cons qcmc (.cons qanb .nil)) qdvb
def qbtb (k m:Nat):Nat→Cell→Int→Int→List Entry→Option Res | 0,_,_,_,_=>none | n+1,c3,i4,i5,H6=>(lenC c3).bind fun n7=>cond (decide (i5 < (n7:Int))) ((qak qct [.one (Cell.int i4)] H6).bind fun r8=>cond (qab qpx r8) ((cS (qaa r8 0) 0).bind fun s9=>(idxA 2 (c3) i5).bind fun c10=>(fldA c10 0).bind fun c11=>(qbm H6 (c11) [Cell.str s9]).bind fun h12=>(idxA 2 (c3) i5).bind fun c13=>(fldA c13 1).bind fun c14=>(deref h12 (c14)).bind fun p15=>(cC p15.1 p15.2).bind fun c16=>(qfw [.one (c16),.one (Cell.int (IntKind.i64.wrap (i4+1)))] h12).bind fun r17=>cond (qab qojb r17.1) ((cI .i64 (qaa r17.1 0) 0).bind fun i18=>qbtb k m n (c3) i18 (IntKind.i64.wrap (i5+1)) r17.2) none) none) (some ([.one (Cell.int i4)],H6))
def fci (k m:Nat)(c1:Cell)(i2:Int)(H:List Entry):Option Res:=qbtb k m m (c1) i2 0 H
abbrev qrxc (k m:Nat):TB:=evC qaac qmp (evF qaac (k+1)) m (sub [1,0,1,2,3] qmp.code) none
abbrev qmgc (k m:Nat):TK:=qay 0 (seqK (evC qaac qmp (evF qaac (k+1)) m (sub [1,1] qmp.code) none) (retK qaac qmp))
theorem qxub (k m:Nat):∀ (n:Nat) (c3:Cell) (i4 i5:Int) (H6:List Entry),qca (some [0,1,5]) (qrxc k m) (qmgc k m) n ⟨fT 28 0 [(0,.av (.one (c3))),(1,.av (.one (Cell.int i4))),(5,.av (.one (Cell.int i5)))],fX 28 0 [],H6⟩=qbtb (k+1) m n c3 i4 i5 H6:=by
 intro n
 induction n with
 | zero=>intros;rfl
 | succ n ih=>intros;simp only[qbtb,← ih];kernel_rfl
theorem qgwc (k m:Nat)(c1:Cell)(i2:Int)(H:List Entry):evC qaac qmp (evF qaac (k+1)) m qmp.code none (retK qaac qmp) (enter qmp [.one (c1),.one (Cell.int i2)] H)=fci (k+1) m c1 i2 H:=by
 simp only[fci,← qxub k m]
 kernel_rfl
theorem qrgb {c1:Cell}{i2:Int}{H:List Entry}{r:Res}(k:Nat)(h:fci (k+1) (k+1) c1 i2 H=some r):qwg [.one (c1),.one (Cell.int i2)] H=some r:=qas (k:=k+2) (Eq.trans (Eq.trans (by kernel_rfl) (qgwc k (k+1) c1 i2 H)) h)
def qzkc:List (Nat×Run):=[(qoo,qfw),(qcwb,qws),(qdvb,qwg)]
def qfad:Ctx:=ctx qbh qbg qzkc
def qqq:Run:=lim qfad qevb
theorem ok_fck:FnOk Tryz.prog OkT qevb qqq:=qaq (l:=qzkc) qac tyTab_ok qad okT (.cons qcmc (.cons ok_fcj (.cons ok_fci .nil))) qevb
def fck (k m:Nat)(s1:ByteArray)(c2 c3 c4:Cell)(i5:Int)(H:List Entry):Option Res:=(qfw [.one (c2),.one (Cell.int i5)] H).bind fun r6=>cond (qab qojb r6.1) ((cI .i64 (qaa r6.1 0) 0).bind fun i7=>(qws [.one (c3),.one (Cell.int i7)] r6.2).bind fun r8=>cond (qab qcud r8.1) ((cI .i64 (qaa r8.1 0) 0).bind fun i9=>(qwg [.one (c4),.one (Cell.int i9)] r8.2).bind fun r10=>cond (qab qxwc r10.1) ((cI .i64 (qaa r10.1 0) 0).bind fun i11=>some ([.one (Cell.int i11)],r10.2)) none) none) none
theorem qivc (k m:Nat)(s1:ByteArray)(c2 c3 c4:Cell)(i5:Int)(H:List Entry):evC qfad qknb (evF qfad (k+1)) m qknb.code none (retK qfad qknb) (enter qknb [.agg [Cell.str s1,c2,c3,c4],.one (Cell.int i5)] H)=fck (k+1) m s1 c2 c3 c4 i5 H:=by
 kernel_rfl
theorem qqnb {s1:ByteArray}{c2 c3 c4:Cell}{i5:Int}{H:List Entry}{r:Res}(k:Nat)(h:fck (k+1) (k+1) s1 c2 c3 c4 i5 H=some r):qqq [.agg [Cell.str s1,c2,c3,c4],.one (Cell.int i5)] H=some r:=qas (k:=k+2) (Eq.trans (Eq.trans (by kernel_rfl) (qivc k (k+1) s1 c2 c3 c4 i5 H)) h)
def qtuc:List (Nat×Run):=[(qhn,qct)]
def qboc:Ctx:=ctx qbh qbg qtuc
def qnm:Run:=lim qboc qyo
theorem qyoc:FnOk Tryz.prog OkT qyo qnm:=qaq (l:=qtuc) qac tyTab_ok qad okT (.cons qanb .nil) qyo
def qzj (k m:Nat):Nat→Cell→Int→Int→Option Res | 0,_,_,_=>none | n+1,c3,i4,i5=>(lenC c3).bind fun n6=>cond (decide (i5 < (n6:Int))) ((idxA 1 (c3) i5).bind fun c7=>(deref [] (c7)).bind fun p8=>(cS p8.1 p8.2).bind fun s9=>(qak qct [.one (Cell.int i4)] []).bind fun r10=>cond (qab qpx r10) ((cS (qaa r10 0) 0).bind fun s11=>cond (!(s9.toList==s11.toList)) (some ([.one (Cell.int (-1))],[])) (qzj k m n (c3) (IntKind.i64.wrap (i4+1)) (IntKind.i64.wrap (i5+1)))) none) (some ([.one (Cell.int i4)],[]))
def fch (k m:Nat)(c1:Cell)(i2:Int):Option Res:=qzj k m m (c1) i2 0
abbrev qrcc (k m:Nat):TB:=evC qboc qmx (evF qboc (k+1)) m (sub [1,0,1,2,3] qmx.code) none
abbrev qiyc (k m:Nat):TK:=qay 0 (seqK (evC qboc qmx (evF qboc (k+1)) m (sub [1,1] qmx.code) none) (retK qboc qmx))
theorem qdmc (k m:Nat):∀ (n:Nat) (c3:Cell) (i4 i5:Int),qca (some [0,1,5]) (qrcc k m) (qiyc k m) n ⟨fT 22 0 [(0,.av (.one (c3))),(1,.av (.one (Cell.int i4))),(5,.av (.one (Cell.int i5)))],fX 22 0 [],[]⟩=qzj (k+1) m n c3 i4 i5:=by
 intro n
 induction n with
 | zero=>intros;rfl
 | succ n ih=>intros;simp only[qzj,← ih];kernel_rfl
theorem qsnc (k m:Nat)(c1:Cell)(i2:Int):evC qboc qmx (evF qboc (k+1)) m qmx.code none (retK qboc qmx) (enter qmx [.one (c1),.one (Cell.int i2)] [])=fch (k+1) m c1 i2:=by
 simp only[fch,← qdmc k m]
 kernel_rfl
theorem qnvb {c1:Cell}{i2:Int}{r:Res}(k:Nat)(h:fch (k+1) (k+1) c1 i2=some r):qnm [.one (c1),.one (Cell.int i2)] []=some r:=qas (k:=k+2) (Eq.trans (Eq.trans (by kernel_rfl) (qsnc k (k+1) c1 i2)) h)
def qbvd:List (Nat×Run):=[(qhn,qct)]
def qasc:Ctx:=ctx qbh qbg qbvd
def qwk:Run:=lim qasc qcpb
theorem ok_fcf:FnOk Tryz.prog OkT qcpb qwk:=qaq (l:=qbvd) qac tyTab_ok qad okT (.cons qanb .nil) qcpb
def qakb (k m:Nat):Nat→Cell→Int→Int→Option Res | 0,_,_,_=>none | n+1,c3,i4,i5=>(lenC c3).bind fun n6=>cond (decide (i5 < (n6:Int))) ((idxA 2 (c3) i5).bind fun c7=>(fldA c7 0).bind fun c8=>(deref [] (c8)).bind fun p9=>(cS p9.1 p9.2).bind fun s10=>(qak qct [.one (Cell.int i4)] []).bind fun r11=>cond (qab qpx r11) ((cS (qaa r11 0) 0).bind fun s12=>cond (!(s10.toList==s12.toList)) (some ([.one (Cell.int (-1))],[])) ((idxA 2 (c3) i5).bind fun c13=>(fldA c13 1).bind fun c14=>(deref [] (c14)).bind fun p15=>(cS p15.1 p15.2).bind fun s16=>(qak qct [.one (Cell.int (IntKind.i64.wrap (i4+1)))] []).bind fun r17=>cond (qab qpx r17) ((cS (qaa r17 0) 0).bind fun s18=>cond (!(s16.toList==s18.toList)) (some ([.one (Cell.int (-1))],[])) (qakb k m n (c3) (IntKind.i64.wrap ((IntKind.i64.wrap (i4+1))+1)) (IntKind.i64.wrap (i5+1)))) none)) none) (some ([.one (Cell.int i4)],[]))
def fcf (k m:Nat)(c1:Cell)(i2:Int):Option Res:=qakb k m m (c1) i2 0
abbrev qryc (k m:Nat):TB:=evC qasc qpl (evF qasc (k+1)) m (sub [1,0,1,2,3] qpl.code) none
abbrev qplc (k m:Nat):TK:=qay 0 (seqK (evC qasc qpl (evF qasc (k+1)) m (sub [1,1] qpl.code) none) (retK qasc qpl))
theorem qakc (k m:Nat):∀ (n:Nat) (c3:Cell) (i4 i5:Int),qca (some [0,1,5]) (qryc k m) (qplc k m) n ⟨fT 33 0 [(0,.av (.one (c3))),(1,.av (.one (Cell.int i4))),(5,.av (.one (Cell.int i5)))],fX 33 0 [],[]⟩=qakb (k+1) m n c3 i4 i5:=by
 intro n
 induction n with
 | zero=>intros;rfl
 | succ n ih=>intros;simp only[qakb,← ih];kernel_rfl
theorem qqdc (k m:Nat)(c1:Cell)(i2:Int):evC qasc qpl (evF qasc (k+1)) m qpl.code none (retK qasc qpl) (enter qpl [.one (c1),.one (Cell.int i2)] [])=fcf (k+1) m c1 i2:=by
 simp only[fcf,← qakc k m]
 kernel_rfl
theorem qrcb {c1:Cell}{i2:Int}{r:Res}(k:Nat)(h:fcf (k+1) (k+1) c1 i2=some r):qwk [.one (c1),.one (Cell.int i2)] []=some r:=qas (k:=k+2) (Eq.trans (Eq.trans (by kernel_rfl) (qqdc k (k+1) c1 i2)) h)
def qxxc:List (Nat×Run):=[(qhn,qct),(qyo,qnm)]
def qcec:Ctx:=ctx qbh qbg qxxc
def qvk:Run:=lim qcec qhcb
theorem ok_fce:FnOk Tryz.prog OkT qhcb qvk:=qaq (l:=qxxc) qac tyTab_ok qad okT (.cons qanb (.cons qyoc .nil)) qhcb
def qblb (k m:Nat):Nat→Cell→Int→Int→Option Res | 0,_,_,_=>none | n+1,c3,i4,i5=>(lenC c3).bind fun n6=>cond (decide (i5 < (n6:Int))) ((idxA 2 (c3) i5).bind fun c7=>(fldA c7 0).bind fun c8=>(deref [] (c8)).bind fun p9=>(cS p9.1 p9.2).bind fun s10=>(qak qct [.one (Cell.int i4)] []).bind fun r11=>cond (qab qpx r11) ((cS (qaa r11 0) 0).bind fun s12=>cond (!(s10.toList==s12.toList)) (some ([.one (Cell.int (-1))],[])) ((idxA 2 (c3) i5).bind fun c13=>(fldA c13 1).bind fun c14=>(deref [] (c14)).bind fun p15=>(cC p15.1 p15.2).bind fun c16=>(qak qnm [.one (c16),.one (Cell.int (IntKind.i64.wrap (i4+1)))] []).bind fun r17=>cond (qab qmfc r17) ((cI .i64 (qaa r17 0) 0).bind fun i18=>cond (decide (i18 < 0)) (some ([.one (Cell.int (-1))],[])) (qblb k m n (c3) i18 (IntKind.i64.wrap (i5+1)))) none)) none) (some ([.one (Cell.int i4)],[]))
def fce (k m:Nat)(c1:Cell)(i2:Int):Option Res:=qblb k m m (c1) i2 0
abbrev qsqc (k m:Nat):TB:=evC qcec qov (evF qcec (k+1)) m (sub [1,0,1,2,3] qov.code) none
abbrev qhbc (k m:Nat):TK:=qay 0 (seqK (evC qcec qov (evF qcec (k+1)) m (sub [1,1] qov.code) none) (retK qcec qov))
theorem qutb (k m:Nat):∀ (n:Nat) (c3:Cell) (i4 i5:Int),qca (some [0,1,5]) (qsqc k m) (qhbc k m) n ⟨fT 32 0 [(0,.av (.one (c3))),(1,.av (.one (Cell.int i4))),(5,.av (.one (Cell.int i5)))],fX 32 0 [],[]⟩=qblb (k+1) m n c3 i4 i5:=by
 intro n
 induction n with
 | zero=>intros;rfl
 | succ n ih=>intros;simp only[qblb,← ih];kernel_rfl
theorem qkdc (k m:Nat)(c1:Cell)(i2:Int):evC qcec qov (evF qcec (k+1)) m qov.code none (retK qcec qov) (enter qov [.one (c1),.one (Cell.int i2)] [])=fce (k+1) m c1 i2:=by
 simp only[fce,← qutb k m]
 kernel_rfl
theorem qnkb {c1:Cell}{i2:Int}{r:Res}(k:Nat)(h:fce (k+1) (k+1) c1 i2=some r):qvk [.one (c1),.one (Cell.int i2)] []=some r:=qas (k:=k+2) (Eq.trans (Eq.trans (by kernel_rfl) (qkdc k (k+1) c1 i2)) h)
end
end Go.Ev
