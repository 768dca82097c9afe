/- What the evaluator says of the functions, each as a Lean function over cells. Printed by a program of this claim. Conditions: none. -/
import Derived.Test.YtfaiahlpefmgmaaDoorSh1
import Derived.KernelRfl
namespace Go.Ev
open Go Go.Proofs
noncomputable section
set_option maxRecDepth 100000
set_option linter.unusedVariables false
set_option linter.unusedSimpArgs false
def qypb:List (Nat×Run):=[(qqw,qjw)]
def qdhc:Ctx:=ctx qbk qbj qypb
def qio:Run:=lim qdhc qco
theorem qsqb:FnOk Tryd.prog OkT qco qio:=qao (l:=qypb) qac tyTab_ok qad okT (.cons qarc .nil) qco
def fam (k m:Nat)(s1:ByteArray):Option Res:=(qaj qjw [.one (Cell.str s1)] []).bind fun r2=>cond (qab qrnb r2) ((cB (qaa r2 0) 0).bind fun b3=>some ([.one (Cell.bool (!b3))],[])) none
theorem qsvb (k m:Nat)(s1:ByteArray):evC qdhc qyp (evF qdhc (k+1)) m qyp.code none (retK qdhc qyp) (enter qyp [.one (Cell.str s1)] [])=fam (k+1) m s1:=by
 kernel_rfl
theorem qbeb {s1:ByteArray}{r:Res}(k:Nat)(h:fam (k+1) (k+1) s1=some r):qio [.one (Cell.str s1)] []=some r:=qap (k:=k+2) (Eq.trans (Eq.trans (by kernel_rfl) (qsvb k (k+1) s1)) h)
def qzyb:List (Nat×Run):=[(qco,qio)]
def qieb:Ctx:=ctx qbk qbj qzyb
def qon:Run:=lim qieb qtz
theorem ok_fby:FnOk Tryd.prog OkT qtz qon:=qao (l:=qzyb) qac tyTab_ok qad okT (.cons qsqb .nil) qtz
def qal (k m:Nat):Nat→Cell→Int→Int→List Entry→Option Res | 0,_,_,_,_=>none | n+1,c3,i4,i5,H6=>cond (decide (i5 < i4)) ((idxA 1 (c3) i5).bind fun c7=>(deref H6 (c7)).bind fun p8=>(cS p8.1 p8.2).bind fun s9=>(qaj qio [.one (Cell.str s9)] H6).bind fun r10=>cond (qab qzqb r10) ((cB (qaa r10 0) 0).bind fun b11=>cond b11 (some ([.one (Cell.int i5)],H6)) (qal k m n (c3) i4 (IntKind.i64.wrap (i5+1)) H6)) none) (some ([.one (Cell.int (-1))],H6))
def qaw (k m:Nat)(c1:Cell)(H:List Entry):Option Res:=(lenC c1).bind fun n2=>qal k m m (c1) (n2:Int) 0 H
abbrev qcj (k m:Nat):TB:=evC qieb qjf (evF qieb (k+1)) m (sub [1,0,1,2,3] qjf.code) none
abbrev qch (k m:Nat):TK:=qbi 0 (seqK (evC qieb qjf (evF qieb (k+1)) m (sub [1,1] qjf.code) none) (retK qieb qjf))
theorem qcg (k m:Nat):∀ (n:Nat) (c3:Cell) (i4 i5:Int) (H6:List Entry),qcz (some [0,1,7,8]) (qcj k m) (qch k m) n ⟨fT 19 0 [(0,.av (.one (c3))),(1,.av (.one (.fn qco [] []))),(7,.av (.one (Cell.int i4))),(8,.av (.one (Cell.int i5)))],fX 19 0 [],H6⟩=qal (k+1) m n c3 i4 i5 H6:=by
 intro n
 induction n with
 | zero=>intros;rfl
 | succ n ih=>intros;simp only[qal,← ih];kernel_rfl
theorem qck (k m:Nat)(c1:Cell)(H:List Entry):evC qieb qjf (evF qieb (k+1)) m qjf.code none (retK qieb qjf) (enter qjf [.one (c1),.one (.fn qco [] [])] H)=qaw (k+1) m c1 H:=by
 simp only[qaw,← qcg k m]
 kernel_rfl
theorem qcd {c1:Cell}{H:List Entry}{r:Res}(k:Nat)(h:qaw (k+1) (k+1) c1 H=some r):qon [.one (c1),.one (.fn qco [] [])] H=some r:=qap (k:=k+2) (Eq.trans (Eq.trans (by kernel_rfl) (qck k (k+1) c1 H)) h)
def qywb:List (Nat×Run):=[(qco,qio),(qtz,qon)]
def qdcc:Ctx:=ctx qbk qbj qywb
def qld:Run:=lim qdcc quj
theorem ok_fbx:FnOk Tryd.prog OkT quj qld:=qao (l:=qywb) qac tyTab_ok qad okT (.cons qsqb (.cons ok_fby .nil)) quj
def qba (k m:Nat)(c1:Cell)(H:List Entry):Option Res:=(qon [.one (c1),.one (.fn qco [] [])] H).bind fun r2=>cond (qab qvxb r2.1) ((cI .i64 (qaa r2.1 0) 0).bind fun i3=>some ([.one (Cell.bool (decide (i3≥0)))],r2.2)) none
theorem qca (k m:Nat)(c1:Cell)(H:List Entry):evC qdcc qyz (evF qdcc (k+1)) m qyz.code none (retK qdcc qyz) (enter qyz [.one (c1),.one (.fn qco [] [])] H)=qba (k+1) m c1 H:=by
 kernel_rfl
theorem qbw {c1:Cell}{H:List Entry}{r:Res}(k:Nat)(h:qba (k+1) (k+1) c1 H=some r):qld [.one (c1),.one (.fn qco [] [])] H=some r:=qap (k:=k+2) (Eq.trans (Eq.trans (by kernel_rfl) (qca k (k+1) c1 H)) h)
def qaxc:List (Nat×Run):=[(qir,qcr),(qqw,qjw),(qvj,qlf),(quj,qld),(qco,qio)]
def qeic:Ctx:=ctx qbk qbj qaxc
def qpe:Run:=lim qeic qts
theorem ok_fai:FnOk Tryd.prog OkT qts qpe:=qao (l:=qaxc) qac tyTab_ok qad okT (.cons qlib (.cons qarc (.cons ok_fak (.cons ok_fbx (.cons qsqb .nil))))) qts
def fai (k m:Nat)(i1 i2:Int)(s3:ByteArray)(c4 c5:Cell):Option Res:=(lenC c4).bind fun n6=>cond ((n6:Int)==0) ((lenC c5).bind fun n7=>cond (i1==0) (cond ((n7:Int)==0) (cond (i2==0) (some ([.one (Cell.bool (s3.toList==(bs []).toList))],[])) (some ([.one (Cell.bool false)],[]))) (some ([.one (Cell.bool false)],[]))) (cond (i1==1) (cond ((n7:Int)==0) ((qaj qcr [.one (Cell.int i2),.one (Cell.int 0),.one (Cell.int 1)] []).bind fun r8=>cond (qab qnl r8) ((cB (qaa r8 0) 0).bind fun b9=>cond b9 (some ([.one (Cell.bool (s3.toList==(bs []).toList))],[])) (some ([.one (Cell.bool false)],[]))) none) (some ([.one (Cell.bool false)],[]))) (cond (i1==2) (cond ((n7:Int)==0) ((qaj qcr [.one (Cell.int i2),.one (Cell.int (-999999)),.one (Cell.int 999999)] []).bind fun r10=>cond (qab qnl r10) ((cB (qaa r10 0) 0).bind fun b11=>cond b11 (some ([.one (Cell.bool (s3.toList==(bs []).toList))],[])) (some ([.one (Cell.bool false)],[]))) none) (some ([.one (Cell.bool false)],[]))) (cond (i1==3) (cond ((n7:Int)==0) (cond (i2==0) ((qaj qjw [.one (Cell.str s3)] []).bind fun r12=>cond (qab qrnb r12) ((cB (qaa r12 0) 0).bind fun b13=>some ([.one (Cell.bool b13)],[])) none) (some ([.one (Cell.bool false)],[]))) (some ([.one (Cell.bool false)],[]))) (cond (i1==4) (cond (i2==0) (cond (s3.toList==(bs []).toList) ((lenC c5).bind fun n14=>some ([.one (Cell.bool ((n14:Int)==0))],[])) (some ([.one (Cell.bool false)],[]))) (some ([.one (Cell.bool false)],[]))) (cond (i1==5) (cond (i2==0) (cond (s3.toList==(bs []).toList) ((lenC c5).bind fun n15=>(lenC c4).bind fun n16=>cond ((n15:Int)==(n16:Int)) ((qaj qlf [.one (c5)] []).bind fun r17=>cond (qab qugb r17) ((cB (qaa r17 0) 0).bind fun b18=>cond b18 ((qld [.one (c5),.one (.fn qco [] [])] []).bind fun r19=>cond (qab qubb r19.1) ((cB (qaa r19.1 0) 0).bind fun b20=>some ([.one (Cell.bool (!b20))],r19.2)) none) (some ([.one (Cell.bool false)],[]))) none) (some ([.one (Cell.bool false)],[]))) (some ([.one (Cell.bool false)],[]))) (some ([.one (Cell.bool false)],[]))) (some ([.one (Cell.bool false)],[])))))))) (cond (i1==0) (some ([.one (Cell.bool false)],[])) (cond (i1==1) (some ([.one (Cell.bool false)],[])) (cond (i1==2) (some ([.one (Cell.bool false)],[])) (cond (i1==3) (some ([.one (Cell.bool false)],[])) (cond (i1==4) (cond (i2==0) (cond (s3.toList==(bs []).toList) ((lenC c5).bind fun n21=>some ([.one (Cell.bool ((n21:Int)==0))],[])) (some ([.one (Cell.bool false)],[]))) (some ([.one (Cell.bool false)],[]))) (cond (i1==5) (cond (i2==0) (cond (s3.toList==(bs []).toList) ((lenC c5).bind fun n22=>(lenC c4).bind fun n23=>cond ((n22:Int)==(n23:Int)) ((qaj qlf [.one (c5)] []).bind fun r24=>cond (qab qugb r24) ((cB (qaa r24 0) 0).bind fun b25=>cond b25 ((qld [.one (c5),.one (.fn qco [] [])] []).bind fun r26=>cond (qab qubb r26.1) ((cB (qaa r26.1 0) 0).bind fun b27=>some ([.one (Cell.bool (!b27))],r26.2)) none) (some ([.one (Cell.bool false)],[]))) none) (some ([.one (Cell.bool false)],[]))) (some ([.one (Cell.bool false)],[]))) (some ([.one (Cell.bool false)],[]))) (some ([.one (Cell.bool false)],[]))))))))
theorem qskb (k m:Nat)(i1 i2:Int)(s3:ByteArray)(c4 c5:Cell):evC qeic qxz (evF qeic (k+1)) m qxz.code none (retK qeic qxz) (enter qxz [.agg [Cell.int i1,Cell.int i2,Cell.str s3,c4,c5]] [])=fai (k+1) m i1 i2 s3 c4 c5:=by
 kernel_rfl
theorem qdlb {i1 i2:Int}{s3:ByteArray}{c4 c5:Cell}{r:Res}(k:Nat)(h:fai (k+1) (k+1) i1 i2 s3 c4 c5=some r):qpe [.agg [Cell.int i1,Cell.int i2,Cell.str s3,c4,c5]] []=some r:=qap (k:=k+2) (Eq.trans (Eq.trans (by kernel_rfl) (qskb k (k+1) i1 i2 s3 c4 c5)) h)
def qwqb:List (Nat×Run):=[(qts,qpe)]
def qzb:Ctx:=ctx qbk qbj qwqb
def qur:Run:=lim qzb qgx
theorem ok_fah:FnOk Tryd.prog OkT qgx qur:=qao (l:=qwqb) qac tyTab_ok qad okT (.cons ok_fai .nil) qgx
def qrd (k m:Nat):Nat→Int→Int→Cell→Int→Int→Option Res | 0,_,_,_,_,_=>none | n+1,i10,i11,c12,i13,i14=>cond (decide (i14 < i13)) ((idxA 5 (c12) i14).bind fun c15=>(deref [] (c15)).bind fun p16=>(cI .i64 p16.1 p16.2).bind fun i17=>(cI .i64 p16.1 (p16.2+1)).bind fun i18=>(cS p16.1 ((p16.2+1)+1)).bind fun s19=>(cC p16.1 (((p16.2+1)+1)+1)).bind fun c20=>(cC p16.1 ((((p16.2+1)+1)+1)+1)).bind fun c21=>(qaj (evF qzb k qgx) [.agg [Cell.int i17,Cell.int i18,Cell.str s19,c20,c21],.one (Cell.int (IntKind.i64.wrap (i10+1)))] []).bind fun r22=>cond (qab qrwb r22) ((cI .i64 (qaa r22 0) 0).bind fun i23=>cond (decide ((IntKind.i64.wrap (i11+i23)) > 80)) (some ([.one (Cell.int 81)],[])) (qrd k m n i10 (IntKind.i64.wrap (i11+i23)) (c12) i13 (IntKind.i64.wrap (i14+1)))) none) (some ([.one (Cell.int i11)],[]))
def fah (k m:Nat)(i1 i2:Int)(s3:ByteArray)(c4 c5:Cell)(i6:Int):Option Res:=cond (decide (i6 > 6)) (some ([.one (Cell.int 81)],[])) ((qaj qpe [.agg [Cell.int i1,Cell.int i2,Cell.str s3,c4,c5]] []).bind fun r7=>cond (qab qxwb r7) ((cB (qaa r7 0) 0).bind fun b8=>cond (!b8) (some ([.one (Cell.int 81)],[])) ((lenC c4).bind fun n9=>qrd k m m i6 1 (c4) (n9:Int) 0)) none)
abbrev qnmb (k m:Nat):TB:=evC qzb qiu (evF qzb (k+1)) m (sub [1,1,1,0,1,2,3] qiu.code) none
abbrev qtrb (k m:Nat):TK:=qbi 0 (seqK (evC qzb qiu (evF qzb (k+1)) m (sub [1,1,1,1] qiu.code) none) (retK qzb qiu))
theorem qfrb (k m:Nat):∀ (n:Nat) (i10 i11:Int) (c12:Cell) (i13 i14:Int),qcz (some [1,5,16,17,18]) (qnmb k m) (qtrb k m) n ⟨fT 32 0 [(1,.av (.one (Cell.int i10))),(5,.av (.one (Cell.int i11))),(16,.av (.one (c12))),(17,.av (.one (Cell.int i13))),(18,.av (.one (Cell.int i14)))],fX 32 0 [],[]⟩=qrd (k+1) m n i10 i11 c12 i13 i14:=by
 intro n
 induction n with
 | zero=>intros;rfl
 | succ n ih=>intros;simp only[qrd,← ih];kernel_rfl
theorem qspb (k m:Nat)(i1 i2:Int)(s3:ByteArray)(c4 c5:Cell)(i6:Int):evC qzb qiu (evF qzb (k+1)) m qiu.code none (retK qzb qiu) (enter qiu [.agg [Cell.int i1,Cell.int i2,Cell.str s3,c4,c5],.one (Cell.int i6)] [])=fah (k+1) m i1 i2 s3 c4 c5 i6:=by
 simp only[fah,← qfrb k m]
 kernel_rfl
theorem fah_eq (k:Nat)(i1 i2:Int)(s3:ByteArray)(c4 c5:Cell)(i6:Int):evF qzb (k+2) qgx [.agg [Cell.int i1,Cell.int i2,Cell.str s3,c4,c5],.one (Cell.int i6)] []=fah (k+1) (k+1) i1 i2 s3 c4 c5 i6:=
 Eq.trans (by kernel_rfl) (qspb k (k+1) i1 i2 s3 c4 c5 i6)
def qylb:List (Nat×Run):=[(qgx,qur)]
def qdvc:Ctx:=ctx qbk qbj qylb
def qpq:Run:=lim qdvc qsy
theorem ok_faf:FnOk Tryd.prog OkT qsy qpq:=qao (l:=qylb) qac tyTab_ok qad okT (.cons ok_fah .nil) qsy
def faf (k m:Nat)(i1 i2:Int)(s3:ByteArray)(c4 c5:Cell):Option Res:=(qaj qur [.agg [Cell.int i1,Cell.int i2,Cell.str s3,c4,c5],.one (Cell.int 1)] []).bind fun r6=>cond (qab qrwb r6) ((cI .i64 (qaa r6 0) 0).bind fun i7=>some ([.one (Cell.bool (decide (i7≤80)))],[])) none
theorem qrzb (k m:Nat)(i1 i2:Int)(s3:ByteArray)(c4 c5:Cell):evC qdvc qyb (evF qdvc (k+1)) m qyb.code none (retK qdvc qyb) (enter qyb [.agg [Cell.int i1,Cell.int i2,Cell.str s3,c4,c5]] [])=faf (k+1) m i1 i2 s3 c4 c5:=by
 kernel_rfl
theorem qbqb {i1 i2:Int}{s3:ByteArray}{c4 c5:Cell}{r:Res}(k:Nat)(h:faf (k+1) (k+1) i1 i2 s3 c4 c5=some r):qpq [.agg [Cell.int i1,Cell.int i2,Cell.str s3,c4,c5]] []=some r:=qap (k:=k+2) (Eq.trans (Eq.trans (by kernel_rfl) (qrzb k (k+1) i1 i2 s3 c4 c5)) h)
def qbec:List (Nat×Run):=[]
def qktb:Ctx:=ctx qbk qbj qbec
def qjc:Run:=lim qktb qtc
theorem ok_fau:FnOk Tryd.prog OkT qtc qjc:=qao (l:=qbec) qac tyTab_ok qad okT .nil qtc
def qrl (k m:Nat):Nat→Cell→Cell→Int→Int→Int→Int→ByteArray→Cell→Cell→List Entry→Option Res | 0,_,_,_,_,_,_,_,_,_,_=>none | n+1,c7,c8,i9,i10,i11,i12,s13,c14,c15,H16=>cond (decide (i10 < i9)) ((idxA 5 (c8) i10).bind fun c17=>(deref H16 (c17)).bind fun p18=>(cI .i64 p18.1 p18.2).bind fun i19=>(cI .i64 p18.1 (p18.2+1)).bind fun i20=>(cS p18.1 ((p18.2+1)+1)).bind fun s21=>(cC p18.1 (((p18.2+1)+1)+1)).bind fun c22=>(cC p18.1 ((((p18.2+1)+1)+1)+1)).bind fun c23=>cond (i19 != 3) (some ([.one (.lst true 1 []),.one (Cell.bool false)],H16)) ((app H16 1 16 (c7) [[Cell.str s21]]).bind fun p24=>qrl k m n (p24.1) (c8) i9 (IntKind.i64.wrap (i10+1)) i11 i12 s13 (c14) (c15) p24.2)) (some ([.one (c7),.one (Cell.bool (i11==4))],H16))
def fau (k m:Nat)(i1 i2:Int)(s3:ByteArray)(c4 c5:Cell):Option Res:=(lenC c4).bind fun n6=>qrl k m m (.lst true 1 []) (c4) (n6:Int) 0 i1 i2 s3 (c4) (c5) []
abbrev qoyb (k m:Nat):TB:=evC qktb qjo (evF qktb (k+1)) m (sub [1,1,0,1,2,3] qjo.code) none
abbrev qpab (k m:Nat):TK:=qbi 0 (seqK (evC qktb qjo (evF qktb (k+1)) m (sub [1,1,1] qjo.code) none) (retK qktb qjo))
theorem qjcb (k m:Nat):∀ (n:Nat) (c7 c8:Cell) (i9 i10 i11 i12:Int) (s13:ByteArray) (c14 c15:Cell) (H16:List Entry),qcz (some [1,4,8,9,10]) (qoyb k m) (qpab k m) n ⟨fT 27 0 [(1,.loc 1 0),(4,.av (.one (c7))),(8,.av (.one (c8))),(9,.av (.one (Cell.int i9))),(10,.av (.one (Cell.int i10)))],fX 27 0 [(1,[Cell.int i11,Cell.int i12,Cell.str s13,c14,c15])],H16⟩=qrl (k+1) m n c7 c8 i9 i10 i11 i12 s13 c14 c15 H16:=by
 intro n
 induction n with
 | zero=>intros;rfl
 | succ n ih=>intros;simp only[qrl,← ih];kernel_rfl
theorem qnrb (k m:Nat)(i1 i2:Int)(s3:ByteArray)(c4 c5:Cell):evC qktb qjo (evF qktb (k+1)) m qjo.code none (retK qktb qjo) (enter qjo [.agg [Cell.int i1,Cell.int i2,Cell.str s3,c4,c5]] [])=fau (k+1) m i1 i2 s3 c4 c5:=by
 simp only[fau,← qjcb k m]
 kernel_rfl
theorem qasb {i1 i2:Int}{s3:ByteArray}{c4 c5:Cell}{r:Res}(k:Nat)(h:fau (k+1) (k+1) i1 i2 s3 c4 c5=some r):qjc [.agg [Cell.int i1,Cell.int i2,Cell.str s3,c4,c5]] []=some r:=qap (k:=k+2) (Eq.trans (Eq.trans (by kernel_rfl) (qnrb k (k+1) i1 i2 s3 c4 c5)) h)
def qxvb:List (Nat×Run):=[(qtc,qjc)]
def qdac:Ctx:=ctx qbk qbj qxvb
def qnz:Run:=lim qdac qus
theorem ok_fae:FnOk Tryd.prog OkT qus qnz:=qao (l:=qxvb) qac tyTab_ok qad okT (.cons ok_fau .nil) qus
def fae (k m:Nat)(c1:Cell)(s2:ByteArray)(i3 i4:Int)(s5:ByteArray)(c6 c7:Cell)(H:List Entry):Option Res:=cond (s2.toList==(bs [101,110,118]).toList) ((qdy qjc [.agg [Cell.int i3,Cell.int i4,Cell.str s5,c6,c7]] H).bind fun r8=>cond (qab qlyb r8.1) ((cC (qaa r8.1 0) 0).bind fun c9=>(cB (qaa r8.1 1) 0).bind fun b10=>(ptrC c1).bind fun c11=>(fldA c11 3).bind fun c12=>(qbl r8.2 (c12) [c9]).bind fun h13=>some ([.one (Cell.bool b10)],h13)) none) (cond (s2.toList==(bs [105,110]).toList) ((qdy qjc [.agg [Cell.int i3,Cell.int i4,Cell.str s5,c6,c7]] H).bind fun r14=>cond (qab qlyb r14.1) ((cC (qaa r14.1 0) 0).bind fun c15=>(cB (qaa r14.1 1) 0).bind fun b16=>(ptrC c1).bind fun c17=>(fldA c17 2).bind fun c18=>(qbl r14.2 (c18) [c15]).bind fun h19=>some ([.one (Cell.bool b16)],h19)) none) (cond (s2.toList==(bs [107,101,101,112]).toList) ((ptrC c1).bind fun c20=>(fldA c20 4).bind fun c21=>(qbl H (c21) [Cell.bool (i4==1)]).bind fun h22=>some ([.one (Cell.bool (i3==1))],h22)) (cond (s2.toList==(bs [111,110]).toList) ((qdy qjc [.agg [Cell.int i3,Cell.int i4,Cell.str s5,c6,c7]] H).bind fun r23=>cond (qab qlyb r23.1) ((cC (qaa r23.1 0) 0).bind fun c24=>(cB (qaa r23.1 1) 0).bind fun b25=>(ptrC c1).bind fun c26=>(fldA c26 1).bind fun c27=>(qbl r23.2 (c27) [c24]).bind fun h28=>some ([.one (Cell.bool b25)],h28)) none) (some ([.one (Cell.bool false)],H)))))
theorem qpfb (k m:Nat)(c1:Cell)(s2:ByteArray)(i3 i4:Int)(s5:ByteArray)(c6 c7:Cell)(H:List Entry):evC qdac qwq (evF qdac (k+1)) m qwq.code none (retK qdac qwq) (enter qwq [.one (c1),.one (Cell.str s2),.agg [Cell.int i3,Cell.int i4,Cell.str s5,c6,c7]] H)=fae (k+1) m c1 s2 i3 i4 s5 c6 c7 H:=by
 kernel_rfl
theorem qdz {c1:Cell}{s2:ByteArray}{i3 i4:Int}{s5:ByteArray}{c6 c7:Cell}{H:List Entry}{r:Res}(k:Nat)(h:fae (k+1) (k+1) c1 s2 i3 i4 s5 c6 c7 H=some r):qnz [.one (c1),.one (Cell.str s2),.agg [Cell.int i3,Cell.int i4,Cell.str s5,c6,c7]] H=some r:=qap (k:=k+2) (Eq.trans (Eq.trans (by kernel_rfl) (qpfb k (k+1) c1 s2 i3 i4 s5 c6 c7 H)) h)
def qykb:List (Nat×Run):=[]
def qdic:Ctx:=ctx qbk qbj qykb
def qfk:Run:=lim qdic qlq
theorem qpwb:FnOk Tryd.prog OkT qlq qfk:=qao (l:=qykb) qac tyTab_ok qad okT .nil qlq
def fap (k m:Nat)(i1:Int):Option Res:=cond (decide (i1≥97)) (some ([.one (Cell.bool (decide (i1≤122)))],[])) (some ([.one (Cell.bool false)],[]))
theorem qryb (k m:Nat)(i1:Int):evC qdic qyf (evF qdic (k+1)) m qyf.code none (retK qdic qyf) (enter qyf [.one (.sc (.int .u8 i1))] [])=fap (k+1) m i1:=by
 kernel_rfl
theorem qegb {i1:Int}{r:Res}(k:Nat)(h:fap (k+1) (k+1) i1=some r):qfk [.one (.sc (.int .u8 i1))] []=some r:=qap (k:=k+2) (Eq.trans (Eq.trans (by kernel_rfl) (qryb k (k+1) i1)) h)
def qvsb:List (Nat×Run):=[]
def qdfc:Ctx:=ctx qbk qbj qvsb
def qfl:Run:=lim qdfc qlz
theorem quyb:FnOk Tryd.prog OkT qlz qfl:=qao (l:=qvsb) qac tyTab_ok qad okT .nil qlz
def fal (k m:Nat)(i1:Int):Option Res:=cond (decide (i1≥48)) (some ([.one (Cell.bool (decide (i1≤57)))],[])) (some ([.one (Cell.bool false)],[]))
theorem qpeb (k m:Nat)(i1:Int):evC qdfc qxn (evF qdfc (k+1)) m qxn.code none (retK qdfc qxn) (enter qxn [.one (.sc (.int .u8 i1))] [])=fal (k+1) m i1:=by
 kernel_rfl
theorem qzv {i1:Int}{r:Res}(k:Nat)(h:fal (k+1) (k+1) i1=some r):qfl [.one (.sc (.int .u8 i1))] []=some r:=qap (k:=k+2) (Eq.trans (Eq.trans (by kernel_rfl) (qpeb k (k+1) i1)) h)
def qvvb:List (Nat×Run):=[(qlq,qfk),(qlz,qfl),(qir,qcr)]
def qhdb:Ctx:=ctx qbk qbj qvvb
def qek:Run:=lim qhdb qlo
theorem qotb:FnOk Tryd.prog OkT qlo qek:=qao (l:=qvvb) qac tyTab_ok qad okT (.cons qpwb (.cons quyb (.cons qlib .nil))) qlo
def qmi (k m:Nat):Nat→ByteArray→Int→Option Res | 0,_,_=>none | n+1,s2,i3=>cond (decide (i3 < (s2.size:Int))) ((bytS s2 i3).bind fun i4=>(qaj qfk [.one (.sc (.int .u8 i4))] []).bind fun r5=>cond (qab qcgb r5) ((cB (qaa r5 0) 0).bind fun b6=>cond (!b6) (cond (i3==0) (some ([.one (Cell.bool false)],[])) ((bytS s2 i3).bind fun i7=>(qaj qfl [.one (.sc (.int .u8 i7))] []).bind fun r8=>cond (qab qckb r8) ((cB (qaa r8 0) 0).bind fun b9=>cond (!b9) ((bytS s2 i3).bind fun i10=>cond (i10 != 45) (some ([.one (Cell.bool false)],[])) (qmi k m n s2 (IntKind.i64.wrap (i3+1)))) (qmi k m n s2 (IntKind.i64.wrap (i3+1)))) none)) (qmi k m n s2 (IntKind.i64.wrap (i3+1)))) none) ((qaj qcr [.one (Cell.int (s2.size:Int)),.one (Cell.int 1),.one (Cell.int 10)] []).bind fun r11=>cond (qab qnl r11) ((cB (qaa r11 0) 0).bind fun b12=>some ([.one (Cell.bool b12)],[])) none)
def fab (k m:Nat)(s1:ByteArray):Option Res:=qmi k m m s1 0
abbrev qpxb (k m:Nat):TB:=evC qhdb qie (evF qhdb (k+1)) m (sub [1,0,1,2,3] qie.code) none
abbrev qqvb (k m:Nat):TK:=qbi 0 (seqK (evC qhdb qie (evF qhdb (k+1)) m (sub [1,1] qie.code) none) (retK qhdb qie))
theorem qjib (k m:Nat):∀ (n:Nat) (s2:ByteArray) (i3:Int),qcz (some [0,3]) (qpxb k m) (qqvb k m) n ⟨fT 35 0 [(0,.av (.one (Cell.str s2))),(3,.av (.one (Cell.int i3)))],fX 35 0 [],[]⟩=qmi (k+1) m n s2 i3:=by
 intro n
 induction n with
 | zero=>intros;rfl
 | succ n ih=>intros;simp only[qmi,← ih];kernel_rfl
theorem qpmb (k m:Nat)(s1:ByteArray):evC qhdb qie (evF qhdb (k+1)) m qie.code none (retK qhdb qie) (enter qie [.one (Cell.str s1)] [])=fab (k+1) m s1:=by
 simp only[fab,← qjib k m]
 kernel_rfl
theorem qadb {s1:ByteArray}{r:Res}(k:Nat)(h:fab (k+1) (k+1) s1=some r):qek [.one (Cell.str s1)] []=some r:=qap (k:=k+2) (Eq.trans (Eq.trans (by kernel_rfl) (qpmb k (k+1) s1)) h)
def qxqb:List (Nat×Run):=[]
def G_fax:Ctx:=ctx qbk qbj qxqb
def qnjb:Run:=lim G_fax qtu
theorem ok_fax:FnOk Tryd.prog OkT qtu qnjb:=qao (l:=qxqb) qac tyTab_ok qad okT .nil qtu
def qyrb:List (Nat×Run):=[]
def G_faz:Ctx:=ctx qbk qbj qyrb
def qncb:Run:=lim G_faz qwj
theorem ok_faz:FnOk Tryd.prog OkT qwj qncb:=qao (l:=qyrb) qac tyTab_ok qad okT .nil qwj
def qymb:List (Nat×Run):=[(qwj,qncb)]
def G_fay:Ctx:=ctx qbk qbj qymb
def qmsb:Run:=lim G_fay quz
theorem ok_fay:FnOk Tryd.prog OkT quz qmsb:=qao (l:=qymb) qac tyTab_ok qad okT (.cons ok_faz .nil) quz
def qbcc:List (Nat×Run):=[(qmob,qlj),(qtu,qnjb),(quz,qmsb)]
def qdrc:Ctx:=ctx qbk qbj qbcc
def qis:Run:=lim qdrc qoj
theorem qvub:FnOk Tryd.prog OkT qoj qis:=qao (l:=qbcc) qac tyTab_ok qad okT (.cons ok_fbd (.cons ok_fax (.cons ok_fay .nil))) qoj
def fbc (k m:Nat)(s1 s2:ByteArray):Option Res:=cond ((s2.size:Int)==0) (some ([.one (Cell.int 0)],[])) (cond (s2.toList==s1.toList) (some ([.one (Cell.int 0)],[])) (cond ((s2.size:Int)==1) ((bytS s2 0).bind fun i3=>(qaj qlj [.one (Cell.str s1),.one (.sc (.int .u8 i3))] []).bind fun r4=>cond (qab qyib r4) ((cI .i64 (qaa r4 0) 0).bind fun i5=>some ([.one (Cell.int i5)],[])) none) (cond (decide ((s2.size:Int)≥(s1.size:Int))) (some ([.one (Cell.int (-1))],[])) (none))))
theorem qpob (k m:Nat)(s1 s2:ByteArray):evC qdrc qzg (evF qdrc (k+1)) m qzg.code none (retK qdrc qzg) (enter qzg [.one (Cell.str s1),.one (Cell.str s2)] [])=fbc (k+1) m s1 s2:=by
 kernel_rfl
theorem qcfb {s1 s2:ByteArray}{r:Res}(k:Nat)(h:fbc (k+1) (k+1) s1 s2=some r):qis [.one (Cell.str s1),.one (Cell.str s2)] []=some r:=qap (k:=k+2) (Eq.trans (Eq.trans (by kernel_rfl) (qpob k (k+1) s1 s2)) h)
def qzfb:List (Nat×Run):=[(qoj,qis)]
def qczc:Ctx:=ctx qbk qbj qzfb
def qom:Run:=lim qczc qtl
theorem ok_fba:FnOk Tryd.prog OkT qtl qom:=qao (l:=qzfb) qac tyTab_ok qad okT (.cons qvub .nil) qtl
def fba (k m:Nat)(s1 s2:ByteArray):Option Res:=(qaj qis [.one (Cell.str s1),.one (Cell.str s2)] []).bind fun r3=>cond (qab qsjb r3) ((cI .i64 (qaa r3 0) 0).bind fun i4=>cond (decide (i4≥0)) ((subS s1 0 i4).bind fun s5=>(subS s1 (IntKind.i64.wrap (i4+(s2.size:Int))) (s1.size:Int)).bind fun s6=>some ([.one (Cell.str s5),.one (Cell.str s6),.one (Cell.bool true)],[])) (some ([.one (Cell.str s1),.one (Cell.str (bs [])),.one (Cell.bool false)],[]))) none
theorem qoeb (k m:Nat)(s1 s2:ByteArray):evC qczc qww (evF qczc (k+1)) m qww.code none (retK qczc qww) (enter qww [.one (Cell.str s1),.one (Cell.str s2)] [])=fba (k+1) m s1 s2:=by
 kernel_rfl
theorem qaib {s1 s2:ByteArray}{r:Res}(k:Nat)(h:fba (k+1) (k+1) s1 s2=some r):qom [.one (Cell.str s1),.one (Cell.str s2)] []=some r:=qap (k:=k+2) (Eq.trans (Eq.trans (by kernel_rfl) (qoeb k (k+1) s1 s2)) h)
def qybb:List (Nat×Run):=[(qtl,qom)]
def qdoc:Ctx:=ctx qbk qbj qybb
def qqs:Run:=lim qdoc qwf
theorem ok_fct:FnOk Tryd.prog OkT qwf qqs:=qao (l:=qybb) qac tyTab_ok qad okT (.cons ok_fba .nil) qwf
def fct (k m:Nat)(s1 s2:ByteArray):Option Res:=(qaj qom [.one (Cell.str s1),.one (Cell.str s2)] []).bind fun r3=>cond (qab qwob r3) ((cS (qaa r3 0) 0).bind fun s4=>(cS (qaa r3 1) 0).bind fun s5=>(cB (qaa r3 2) 0).bind fun b6=>some ([.one (Cell.str s4),.one (Cell.str s5),.one (Cell.bool b6)],[])) none
theorem qvfb (k m:Nat)(s1 s2:ByteArray):evC qdoc qyy (evF qdoc (k+1)) m qyy.code none (retK qdoc qyy) (enter qyy [.one (Cell.str s1),.one (Cell.str s2)] [])=fct (k+1) m s1 s2:=by
 kernel_rfl
theorem qcab {s1 s2:ByteArray}{r:Res}(k:Nat)(h:fct (k+1) (k+1) s1 s2=some r):qqs [.one (Cell.str s1),.one (Cell.str s2)] []=some r:=qap (k:=k+2) (Eq.trans (Eq.trans (by kernel_rfl) (qvfb k (k+1) s1 s2)) h)
def qyqb:List (Nat×Run):=[]
def qedc:Ctx:=ctx qbk qbj qyqb
def qif:Run:=lim qedc qqq
theorem qwdb:FnOk Tryd.prog OkT qqq qif:=qao (l:=qyqb) qac tyTab_ok qad okT .nil qqq
def fbb (k m:Nat)(s1 s2:ByteArray):Option Res:=cond (decide ((s1.size:Int)≥(s2.size:Int))) ((subS s1 0 (s2.size:Int)).bind fun s3=>some ([.one (Cell.bool (s3.toList==s2.toList))],[])) (some ([.one (Cell.bool false)],[]))
theorem qsfb (k m:Nat)(s1 s2:ByteArray):evC qedc qys (evF qedc (k+1)) m qys.code none (retK qedc qys) (enter qys [.one (Cell.str s1),.one (Cell.str s2)] [])=fbb (k+1) m s1 s2:=by
 kernel_rfl
theorem qcmb {s1 s2:ByteArray}{r:Res}(k:Nat)(h:fbb (k+1) (k+1) s1 s2=some r):qif [.one (Cell.str s1),.one (Cell.str s2)] []=some r:=qap (k:=k+2) (Eq.trans (Eq.trans (by kernel_rfl) (qsfb k (k+1) s1 s2)) h)
def qyjb:List (Nat×Run):=[(qqq,qif)]
def qdyc:Ctx:=ctx qbk qbj qyjb
def qps:Run:=lim qdyc qug
theorem ok_fbe:FnOk Tryd.prog OkT qug qps:=qao (l:=qyjb) qac tyTab_ok qad okT (.cons qwdb .nil) qug
def fbe (k m:Nat)(s1 s2:ByteArray):Option Res:=(qaj qif [.one (Cell.str s1),.one (Cell.str s2)] []).bind fun r3=>cond (qab qvdb r3) ((cB (qaa r3 0) 0).bind fun b4=>cond b4 ((subS s1 (s2.size:Int) (s1.size:Int)).bind fun s5=>some ([.one (Cell.str s5)],[])) (some ([.one (Cell.str s1)],[]))) none
theorem qpzb (k m:Nat)(s1 s2:ByteArray):evC qdyc qxq (evF qdyc (k+1)) m qxq.code none (retK qdyc qxq) (enter qxq [.one (Cell.str s1),.one (Cell.str s2)] [])=fbe (k+1) m s1 s2:=by
 kernel_rfl
theorem qdjb {s1 s2:ByteArray}{r:Res}(k:Nat)(h:fbe (k+1) (k+1) s1 s2=some r):qps [.one (Cell.str s1),.one (Cell.str s2)] []=some r:=qap (k:=k+2) (Eq.trans (Eq.trans (by kernel_rfl) (qpzb k (k+1) s1 s2)) h)
def qztb:List (Nat×Run):=[(qug,qps)]
def qeec:Ctx:=ctx qbk qbj qztb
def qqm:Run:=lim qeec qsu
theorem ok_fcx:FnOk Tryd.prog OkT qsu qqm:=qao (l:=qztb) qac tyTab_ok qad okT (.cons ok_fbe .nil) qsu
def fcx (k m:Nat)(s1 s2:ByteArray):Option Res:=(qaj qps [.one (Cell.str s1),.one (Cell.str s2)] []).bind fun r3=>cond (qab qxzb r3) ((cS (qaa r3 0) 0).bind fun s4=>some ([.one (Cell.str s4)],[])) none
theorem quxb (k m:Nat)(s1 s2:ByteArray):evC qeec qwx (evF qeec (k+1)) m qwx.code none (retK qeec qwx) (enter qwx [.one (Cell.str s1),.one (Cell.str s2)] [])=fcx (k+1) m s1 s2:=by
 kernel_rfl
theorem qzt {s1 s2:ByteArray}{r:Res}(k:Nat)(h:fcx (k+1) (k+1) s1 s2=some r):qqm [.one (Cell.str s1),.one (Cell.str s2)] []=some r:=qap (k:=k+2) (Eq.trans (Eq.trans (by kernel_rfl) (quxb k (k+1) s1 s2)) h)
def qbjc:List (Nat×Run):=[(qlo,qek),(qwf,qqs),(qsu,qqm)]
def qdpc:Ctx:=ctx qbk qbj qbjc
def qpd:Run:=lim qdpc qsz
theorem ok_fac:FnOk Tryd.prog OkT qsz qpd:=qao (l:=qbjc) qac tyTab_ok qad okT (.cons qotb (.cons ok_fct (.cons ok_fcx .nil))) qsz
def fac (k m:Nat)(s1:ByteArray):Option Res:=(qaj qqs [.one (Cell.str s1),.one (Cell.str (bs [35]))] []).bind fun r2=>cond (qab qxbb r2) ((cS (qaa r2 0) 0).bind fun s3=>(cS (qaa r2 1) 0).bind fun s4=>(cB (qaa r2 2) 0).bind fun b5=>cond b5 ((qaj qek [.one (Cell.str s3)] []).bind fun r6=>cond (qab qxc r6) ((cB (qaa r6 0) 0).bind fun b7=>cond b7 ((qaj qek [.one (Cell.str s4)] []).bind fun r8=>cond (qab qxc r8) ((cB (qaa r8 0) 0).bind fun b9=>some ([.one (Cell.bool b9)],[])) none) (some ([.one (Cell.bool false)],[]))) none) ((qaj qqm [.one (Cell.str s1),.one (Cell.str (bs [94]))] []).bind fun r10=>cond (qab qanc r10) ((cS (qaa r10 0) 0).bind fun s11=>(qaj qek [.one (Cell.str s11)] []).bind fun r12=>cond (qab qxc r12) ((cB (qaa r12 0) 0).bind fun b13=>some ([.one (Cell.bool b13)],[])) none) none)) none
theorem qrkb (k m:Nat)(s1:ByteArray):evC qdpc qyd (evF qdpc (k+1)) m qyd.code none (retK qdpc qyd) (enter qyd [.one (Cell.str s1)] [])=fac (k+1) m s1:=by
 kernel_rfl
theorem qcub {s1:ByteArray}{r:Res}(k:Nat)(h:fac (k+1) (k+1) s1=some r):qpd [.one (Cell.str s1)] []=some r:=qap (k:=k+2) (Eq.trans (Eq.trans (by kernel_rfl) (qrkb k (k+1) s1)) h)
def qysb:List (Nat×Run):=[]
def G_fdb:Ctx:=ctx qbk qbj qysb
def qnib:Run:=lim G_fdb qvg
theorem ok_fdb:FnOk Tryd.prog OkT qvg qnib:=qao (l:=qysb) qac tyTab_ok qad okT .nil qvg
def qxtb:List (Nat×Run):=[]
def G_fdc:Ctx:=ctx qbk qbj qxtb
def qnhb:Run:=lim G_fdc qvl
theorem ok_fdc:FnOk Tryd.prog OkT qvl qnhb:=qao (l:=qxtb) qac tyTab_ok qad okT .nil qvl
end
end Go.Ev
