/- Conditions: none. -/
import Derived.Test.YtholafaogipaiaaGreatDoorSh3
import Derived.KernelRfl
namespace Go.Ev
open Go Go.Proofs
noncomputable section
set_option maxRecDepth 100000
set_option linter.unusedVariables false
set_option linter.unusedSimpArgs false
def pl_fde:List (Nat×Run):=[(qio,qrp)]
def G_fde:Ctx:=ctx qbd qbc pl_fde
def qfeb:Run:=lim G_fde qeib
theorem ok_fde:FnOk Tryz.prog OkT qeib qfeb:=qal (l:=pl_fde) qae tyTab_ok qad okT (.cons ok_fbb .nil) qeib
def qat (k m:Nat):Nat→Cell→Cell→Cell→Int→Int→List Entry→Option Res | 0,_,_,_,_,_,_=>none | n+1,c3,c4,c5,i6,i7,H8=>cond (decide (i7 < i6)) ((idxA 6 (c3) i7).bind fun c9=>(deref H8 (c9)).bind fun p10=>(cS p10.1 p10.2).bind fun s11=>(cI .i64 p10.1 (p10.2+1)).bind fun i12=>(cI .i64 p10.1 ((p10.2+1)+1)).bind fun i13=>(cI .i64 p10.1 (((p10.2+1)+1)+1)).bind fun i14=>(cC p10.1 ((((p10.2+1)+1)+1)+1)).bind fun c15=>(cC p10.1 (((((p10.2+1)+1)+1)+1)+1)).bind fun c16=>(qrp [.agg [Cell.str s11,Cell.int i12,Cell.int i13,Cell.int i14,c15,c16],.one (c4),.one (c5)] H8).bind fun r17=>cond (qab rk_fbb r17.1) ((cB (qaa r17.1 0) 0).bind fun b18=>cond b18 (some ([.one (Cell.int i7)],r17.2)) (qat k m n (c3) (c4) (c5) i6 (IntKind.i64.wrap (i7+1)) r17.2)) none) (some ([.one (Cell.int (-1))],H8))
def qbl (k m:Nat)(c1 q2 q3:Cell)(H:List Entry):Option Res:=(lenC c1).bind fun n2=>qat k m m (c1) (q2) (q3) (n2:Int) 0 H
abbrev qdi (k m:Nat):TB:=evC G_fde qms (evF G_fde (k+1)) m (sub [1,0,1,2,3] qms.code) none
abbrev qdj (k m:Nat):TK:=qaz 0 (seqK (evC G_fde qms (evF G_fde (k+1)) m (sub [1,1] qms.code) none) (retK G_fde qms))
theorem qdf (k m:Nat):∀ (n:Nat) (c3 c4 c5:Cell) (i6 i7:Int) (H8:List Entry),qby (some [0,1,7,8]) (qdi k m) (qdj k m) n ⟨fT 19 0 [(0,.av (.one (c3))),(1,.av (.one (.fn qio [] [c4,c5]))),(7,.av (.one (Cell.int i6))),(8,.av (.one (Cell.int i7)))],fX 19 0 [],H8⟩=qat (k+1) m n c3 c4 c5 i6 i7 H8:=by
 intro n
 induction n with
 | zero=>intros;rfl
 | succ n ih=>intros;simp only[qat,← ih];kernel_rfl
theorem qdk (k m:Nat)(c1 q2 q3:Cell)(H:List Entry):evC G_fde qms (evF G_fde (k+1)) m qms.code none (retK G_fde qms) (enter qms [.one (c1),.one (.fn qio [] [q2,q3])] H)=qbl (k+1) m c1 q2 q3 H:=by
 simp only[qbl,← qdf k m]
 kernel_rfl
theorem qdb {c1 q2 q3:Cell}{H:List Entry}{r:Res}(k:Nat)(h:qbl (k+1) (k+1) c1 q2 q3 H=some r):qfeb [.one (c1),.one (.fn qio [] [q2,q3])] H=some r:=qap (k:=k+2) (Eq.trans (Eq.trans (by kernel_rfl) (qdk k (k+1) c1 q2 q3 H)) h)
def pl_fba:List (Nat×Run):=[(qeib,qfeb),(qio,qrp)]
def G_fba:Ctx:=ctx qbd qbc pl_fba
def qyr:Run:=lim G_fba qgqb
theorem ok_fba:FnOk Tryz.prog OkT qgqb qyr:=qal (l:=pl_fba) qae tyTab_ok qad okT (.cons ok_fde (.cons ok_fbb .nil)) qgqb
def fba (k m:Nat)(c1:Cell)(s2:ByteArray)(i3 i4 i5:Int)(c6:Cell):Option Res:=(qfeb [.one (c1),.one (.fn qio [] [.ptr 0 1 0 0 0,.ptr 1 4 0 0 0])] [Entry.mk 1 [[Cell.str s2]] 0 false,Entry.mk 4 [[Cell.int i3,Cell.int i4,Cell.int i5,c6]] 0 false]).bind fun r7=>cond (qab rk_fde r7.1) ((cI .i64 (qaa r7.1 0) 0).bind fun i8=>some ([.one (Cell.int i8)],r7.2)) none
theorem fba_code (k m:Nat)(c1:Cell)(s2:ByteArray)(i3 i4 i5:Int)(c6:Cell):evC G_fba qkub (evF G_fba (k+1)) m qkub.code none (retK G_fba qkub) (enter qkub [.one (c1),.one (Cell.str s2),.agg [Cell.int i3,Cell.int i4,Cell.int i5,c6]] [])=fba (k+1) m c1 s2 i3 i4 i5 c6:=by
 kernel_rfl
theorem qpcb {c1:Cell}{s2:ByteArray}{i3 i4 i5:Int}{c6:Cell}{r:Res}(k:Nat)(h:fba (k+1) (k+1) c1 s2 i3 i4 i5 c6=some r):qyr [.one (c1),.one (Cell.str s2),.agg [Cell.int i3,Cell.int i4,Cell.int i5,c6]] []=some r:=qap (k:=k+2) (Eq.trans (Eq.trans (by kernel_rfl) (fba_code k (k+1) c1 s2 i3 i4 i5 c6)) h)
def pl_fbl:List (Nat×Run):=[]
def G_fbl:Ctx:=ctx qbd qbc pl_fbl
def qqz:Run:=lim G_fbl qip
theorem ok_fbl:FnOk Tryz.prog OkT qip qqz:=qal (l:=pl_fbl) qae tyTab_ok qad okT .nil qip
def fbl (k m:Nat)(s1:ByteArray)(i2 i3 i4:Int)(c5 c6:Cell)(H:List Entry):Option Res:=(deref H (c6)).bind fun p7=>(cS p7.1 p7.2).bind fun s8=>some ([.one (Cell.bool (s1.toList==s8.toList))],H)
theorem fbl_code (k m:Nat)(s1:ByteArray)(i2 i3 i4:Int)(c5 c6:Cell)(H:List Entry):evC G_fbl qicb (evF G_fbl (k+1)) m qicb.code none (retK G_fbl qicb) (enter qicb [.agg [Cell.str s1,Cell.int i2,Cell.int i3,Cell.int i4,c5],.one (c6)] H)=fbl (k+1) m s1 i2 i3 i4 c5 c6 H:=by
 kernel_rfl
theorem qobb {s1:ByteArray}{i2 i3 i4:Int}{c5 c6:Cell}{H:List Entry}{r:Res}(k:Nat)(h:fbl (k+1) (k+1) s1 i2 i3 i4 c5 c6 H=some r):qqz [.agg [Cell.str s1,Cell.int i2,Cell.int i3,Cell.int i4,c5],.one (c6)] H=some r:=qap (k:=k+2) (Eq.trans (Eq.trans (by kernel_rfl) (fbl_code k (k+1) s1 i2 i3 i4 c5 c6 H)) h)
def pl_fdf:List (Nat×Run):=[(qip,qqz)]
def G_fdf:Ctx:=ctx qbd qbc pl_fdf
def qhfb:Run:=lim G_fdf qchb
theorem ok_fdf:FnOk Tryz.prog OkT qchb qhfb:=qal (l:=pl_fdf) qae tyTab_ok qad okT (.cons ok_fbl .nil) qchb
def qav (k m:Nat):Nat→Cell→Cell→Int→Int→List Entry→Option Res | 0,_,_,_,_,_=>none | n+1,c3,c4,i5,i6,H7=>cond (decide (i6 < i5)) ((idxA 5 (c3) i6).bind fun c8=>(deref H7 (c8)).bind fun p9=>(cS p9.1 p9.2).bind fun s10=>(cI .i64 p9.1 (p9.2+1)).bind fun i11=>(cI .i64 p9.1 ((p9.2+1)+1)).bind fun i12=>(cI .i64 p9.1 (((p9.2+1)+1)+1)).bind fun i13=>(cC p9.1 ((((p9.2+1)+1)+1)+1)).bind fun c14=>(qqz [.agg [Cell.str s10,Cell.int i11,Cell.int i12,Cell.int i13,c14],.one (c4)] H7).bind fun r15=>cond (qab rk_fbl r15.1) ((cB (qaa r15.1 0) 0).bind fun b16=>cond b16 (some ([.one (Cell.int i6)],r15.2)) (qav k m n (c3) (c4) i5 (IntKind.i64.wrap (i6+1)) r15.2)) none) (some ([.one (Cell.int (-1))],H7))
def qbn (k m:Nat)(c1 q2:Cell)(H:List Entry):Option Res:=(lenC c1).bind fun n2=>qav k m m (c1) (q2) (n2:Int) 0 H
abbrev qdq (k m:Nat):TB:=evC G_fdf qmr (evF G_fdf (k+1)) m (sub [1,0,1,2,3] qmr.code) none
abbrev qdr (k m:Nat):TK:=qaz 0 (seqK (evC G_fdf qmr (evF G_fdf (k+1)) m (sub [1,1] qmr.code) none) (retK G_fdf qmr))
theorem qdl (k m:Nat):∀ (n:Nat) (c3 c4:Cell) (i5 i6:Int) (H7:List Entry),qby (some [0,1,7,8]) (qdq k m) (qdr k m) n ⟨fT 19 0 [(0,.av (.one (c3))),(1,.av (.one (.fn qip [] [c4]))),(7,.av (.one (Cell.int i5))),(8,.av (.one (Cell.int i6)))],fX 19 0 [],H7⟩=qav (k+1) m n c3 c4 i5 i6 H7:=by
 intro n
 induction n with
 | zero=>intros;rfl
 | succ n ih=>intros;simp only[qav,← ih];kernel_rfl
theorem qdp (k m:Nat)(c1 q2:Cell)(H:List Entry):evC G_fdf qmr (evF G_fdf (k+1)) m qmr.code none (retK G_fdf qmr) (enter qmr [.one (c1),.one (.fn qip [] [q2])] H)=qbn (k+1) m c1 q2 H:=by
 simp only[qbn,← qdl k m]
 kernel_rfl
theorem qdd {c1 q2:Cell}{H:List Entry}{r:Res}(k:Nat)(h:qbn (k+1) (k+1) c1 q2 H=some r):qhfb [.one (c1),.one (.fn qip [] [q2])] H=some r:=qap (k:=k+2) (Eq.trans (Eq.trans (by kernel_rfl) (qdp k (k+1) c1 q2 H)) h)
def pl_fbk:List (Nat×Run):=[(qchb,qhfb),(qip,qqz)]
def G_fbk:Ctx:=ctx qbd qbc pl_fbk
def qma:Run:=lim G_fbk qud
theorem ok_fbk:FnOk Tryz.prog OkT qud qma:=qal (l:=pl_fbk) qae tyTab_ok qad okT (.cons ok_fdf (.cons ok_fbl .nil)) qud
def fbk (k m:Nat)(c1:Cell)(s2:ByteArray):Option Res:=(qhfb [.one (c1),.one (.fn qip [] [.ptr 0 1 0 0 0])] [Entry.mk 1 [[Cell.str s2]] 0 false]).bind fun r3=>cond (qab rk_fdf r3.1) ((cI .i64 (qaa r3.1 0) 0).bind fun i4=>some ([.one (Cell.int i4)],r3.2)) none
theorem fbk_code (k m:Nat)(c1:Cell)(s2:ByteArray):evC G_fbk qjvb (evF G_fbk (k+1)) m qjvb.code none (retK G_fbk qjvb) (enter qjvb [.one (c1),.one (Cell.str s2)] [])=fbk (k+1) m c1 s2:=by
 kernel_rfl
theorem qojb {c1:Cell}{s2:ByteArray}{r:Res}(k:Nat)(h:fbk (k+1) (k+1) c1 s2=some r):qma [.one (c1),.one (Cell.str s2)] []=some r:=qap (k:=k+2) (Eq.trans (Eq.trans (by kernel_rfl) (fbk_code k (k+1) c1 s2)) h)
def pl_ffj:List (Nat×Run):=[]
def G_ffj:Ctx:=ctx qbd qbc pl_ffj
def run_ffj:Run:=lim G_ffj qenb
theorem ok_ffj:FnOk Tryz.prog OkT qenb run_ffj:=qal (l:=pl_ffj) qae tyTab_ok qad okT .nil qenb
def pl_ffk:List (Nat×Run):=[]
def G_ffk:Ctx:=ctx qbd qbc pl_ffk
def run_ffk:Run:=lim G_ffk qdcb
theorem ok_ffk:FnOk Tryz.prog OkT qdcb run_ffk:=qal (l:=pl_ffk) qae tyTab_ok qad okT .nil qdcb
def pl_ffi:List (Nat×Run):=[(qdcb,run_ffk)]
def G_ffi:Ctx:=ctx qbd qbc pl_ffi
def run_ffi:Run:=lim G_ffi qgxb
theorem ok_ffi:FnOk Tryz.prog OkT qgxb run_ffi:=qal (l:=pl_ffi) qae tyTab_ok qad okT (.cons ok_ffk .nil) qgxb
def pl_ffg:List (Nat×Run):=[(qenb,run_ffj),(qgxb,run_ffi)]
def G_ffg:Ctx:=ctx qbd qbc pl_ffg
def qqlb:Run:=lim G_ffg qhcb
theorem ok_ffg:FnOk Tryz.prog OkT qhcb qqlb:=qal (l:=pl_ffg) qae tyTab_ok qad okT (.cons ok_ffj (.cons ok_ffi .nil)) qhcb
def pl_ffh:List (Nat×Run):=[(qhcb,qqlb),(fid_fez,qyn),(fid_ffc,quk)]
def G_ffh:Ctx:=ctx qbd qbc pl_ffh
def qlg:Run:=lim G_ffh qgsb
theorem ok_ffh:FnOk Tryz.prog OkT qgsb qlg:=qal (l:=pl_ffh) qae tyTab_ok qad okT (.cons ok_ffg (.cons ok_fez (.cons ok_ffc .nil))) qgsb
def qmk (k m:Nat):Nat→ByteArray→ByteArray→Int→Int→Cell→Int→List Entry→Option Res | 0,_,_,_,_,_,_,_=>none | n+1,s9,s10,i11,i12,c13,i14,H15=>cond (decide (i14 < i12)) ((qau quk [.one (Cell.str s9),.one (Cell.str s10)] H15).bind fun r16=>cond (qab rk_ffc r16) ((cI .i64 (qaa r16 0) 0).bind fun i17=>cond (decide (i17 < 0)) ((idxA 1 (c13) i14).bind fun c18=>(qce H15 (c18) [Cell.str s9]).bind fun h19=>(slcC 1 (c13) 0 (some (IntKind.i64.wrap (i14+1))) none).bind fun c20=>some ([.one (c20)],h19)) ((subS s9 0 (IntKind.i64.wrap (i17+i11))).bind fun s21=>(idxA 1 (c13) i14).bind fun c22=>(qce H15 (c22) [Cell.str s21]).bind fun h23=>(subS s9 (IntKind.i64.wrap (i17+(s10.size:Int))) (s9.size:Int)).bind fun s24=>qmk k m n s24 s10 i11 i12 (c13) (IntKind.i64.wrap (i14+1)) h23)) none) ((idxA 1 (c13) i14).bind fun c25=>(qce H15 (c25) [Cell.str s9]).bind fun h26=>(slcC 1 (c13) 0 (some (IntKind.i64.wrap (i14+1))) none).bind fun c27=>some ([.one (c27)],h26))
def ffh (k m:Nat)(s1 s2:ByteArray)(i3 i4:Int):Option Res:=cond (i4==0) (some ([.one (.lst true 1 [])],[])) (cond (s2.toList==(bs []).toList) ((callL qqlb [.one (Cell.str s1),.one (Cell.int i4)] []).bind fun r5=>cond (qab rk_ffg r5.1) ((cC (qaa r5.1 0) 0).bind fun c6=>some ([.one (c6)],r5.2)) none) (cond (decide (i4 < 0)) ((qau qyn [.one (Cell.str s1),.one (Cell.str s2)] []).bind fun r7=>cond (qab rk_fez r7) ((cI .i64 (qaa r7 0) 0).bind fun i8=>if 0≤(if (IntKind.i64.wrap ((s1.size:Int)+1)) < (IntKind.i64.wrap (i8+1)) then (IntKind.i64.wrap ((s1.size:Int)+1)) else (IntKind.i64.wrap (i8+1)))∧(if (IntKind.i64.wrap ((s1.size:Int)+1)) < (IntKind.i64.wrap (i8+1)) then (IntKind.i64.wrap ((s1.size:Int)+1)) else (IntKind.i64.wrap (i8+1)))≤(if (IntKind.i64.wrap ((s1.size:Int)+1)) < (IntKind.i64.wrap (i8+1)) then (IntKind.i64.wrap ((s1.size:Int)+1)) else (IntKind.i64.wrap (i8+1)))∧(if (IntKind.i64.wrap ((s1.size:Int)+1)) < (IntKind.i64.wrap (i8+1)) then (IntKind.i64.wrap ((s1.size:Int)+1)) else (IntKind.i64.wrap (i8+1)))*16≤bound∧(if (IntKind.i64.wrap ((s1.size:Int)+1)) < (IntKind.i64.wrap (i8+1)) then (IntKind.i64.wrap ((s1.size:Int)+1)) else (IntKind.i64.wrap (i8+1)))≤bound then (qmk k m m s1 s2 i3 (IntKind.i64.wrap ((if (IntKind.i64.wrap ((s1.size:Int)+1)) < (IntKind.i64.wrap (i8+1)) then (IntKind.i64.wrap ((s1.size:Int)+1)) else (IntKind.i64.wrap (i8+1))) - 1)) ((.vs 0 1 0 (if (IntKind.i64.wrap ((s1.size:Int)+1)) < (IntKind.i64.wrap (i8+1)) then (IntKind.i64.wrap ((s1.size:Int)+1)) else (IntKind.i64.wrap (i8+1))).toNat 0)) 0 [Entry.mk 1 (qcd (if (IntKind.i64.wrap ((s1.size:Int)+1)) < (IntKind.i64.wrap (i8+1)) then (IntKind.i64.wrap ((s1.size:Int)+1)) else (IntKind.i64.wrap (i8+1))).toNat [Cell.str (bs [])]) 0 false]) else none) none) (if 0≤(if (IntKind.i64.wrap ((s1.size:Int)+1)) < i4 then (IntKind.i64.wrap ((s1.size:Int)+1)) else i4)∧(if (IntKind.i64.wrap ((s1.size:Int)+1)) < i4 then (IntKind.i64.wrap ((s1.size:Int)+1)) else i4)≤(if (IntKind.i64.wrap ((s1.size:Int)+1)) < i4 then (IntKind.i64.wrap ((s1.size:Int)+1)) else i4)∧(if (IntKind.i64.wrap ((s1.size:Int)+1)) < i4 then (IntKind.i64.wrap ((s1.size:Int)+1)) else i4)*16≤bound∧(if (IntKind.i64.wrap ((s1.size:Int)+1)) < i4 then (IntKind.i64.wrap ((s1.size:Int)+1)) else i4)≤bound then (qmk k m m s1 s2 i3 (IntKind.i64.wrap ((if (IntKind.i64.wrap ((s1.size:Int)+1)) < i4 then (IntKind.i64.wrap ((s1.size:Int)+1)) else i4) - 1)) ((.vs 0 1 0 (if (IntKind.i64.wrap ((s1.size:Int)+1)) < i4 then (IntKind.i64.wrap ((s1.size:Int)+1)) else i4).toNat 0)) 0 [Entry.mk 1 (qcd (if (IntKind.i64.wrap ((s1.size:Int)+1)) < i4 then (IntKind.i64.wrap ((s1.size:Int)+1)) else i4).toNat [Cell.str (bs [])]) 0 false]) else none)))
abbrev ffh_l0_B (k m:Nat):TB:=evC G_ffh qov (evF G_ffh (k+1)) m (sub [1,1,1,1,1,1,1,1,0,2,3] qov.code) none
abbrev ffh_l0_K (k m:Nat):TK:=qaz 0 (seqK (evC G_ffh qov (evF G_ffh (k+1)) m (sub [1,1,1,1,1,1,1,1,1] qov.code) none) (retK G_ffh qov))
theorem ffh_l0_eq (k m:Nat):∀ (n:Nat) (s9 s10:ByteArray) (i11 i12:Int) (c13:Cell) (i14:Int) (H15:List Entry),qby (some [0,1,2,3,9,10]) (ffh_l0_B k m) (ffh_l0_K k m) n ⟨fT 66 0 [(0,.av (.one (Cell.str s9))),(1,.av (.one (Cell.str s10))),(2,.av (.one (Cell.int i11))),(3,.av (.one (Cell.int i12))),(9,.av (.one (c13))),(10,.av (.one (Cell.int i14)))],fX 66 0 [],H15⟩=qmk (k+1) m n s9 s10 i11 i12 c13 i14 H15:=by
 intro n
 induction n with
 | zero=>intros;rfl
 | succ n ih=>intros;simp only[qmk,← ih];kernel_rfl
theorem ffh_code (k m:Nat)(s1 s2:ByteArray)(i3 i4:Int):evC G_ffh qov (evF G_ffh (k+1)) m qov.code none (retK G_ffh qov) (enter qov [.one (Cell.str s1),.one (Cell.str s2),.one (Cell.int i3),.one (Cell.int i4)] [])=ffh (k+1) m s1 s2 i3 i4:=by
 simp only[ffh,← ffh_l0_eq k m]
 kernel_rfl
theorem qxe {s1 s2:ByteArray}{i3 i4:Int}{r:Res}(k:Nat)(h:ffh (k+1) (k+1) s1 s2 i3 i4=some r):qlg [.one (Cell.str s1),.one (Cell.str s2),.one (Cell.int i3),.one (Cell.int i4)] []=some r:=qap (k:=k+2) (Eq.trans (Eq.trans (by kernel_rfl) (ffh_code k (k+1) s1 s2 i3 i4)) h)
def pl_ffe:List (Nat×Run):=[(qgsb,qlg)]
def G_ffe:Ctx:=ctx qbd qbc pl_ffe
def qer:Run:=lim G_ffe qoi
theorem ok_ffe:FnOk Tryz.prog OkT qoi qer:=qal (l:=pl_ffe) qae tyTab_ok qad okT (.cons ok_ffh .nil) qoi
def ffe (k m:Nat)(s1 s2:ByteArray):Option Res:=(qjx qlg [.one (Cell.str s1),.one (Cell.str s2),.one (Cell.int 0),.one (Cell.int (-1))] []).bind fun r3=>cond (qab rk_ffh r3.1) ((cC (qaa r3.1 0) 0).bind fun c4=>some ([.one (c4)],r3.2)) none
theorem ffe_code (k m:Nat)(s1 s2:ByteArray):evC G_ffe qjmb (evF G_ffe (k+1)) m qjmb.code none (retK G_ffe qjmb) (enter qjmb [.one (Cell.str s1),.one (Cell.str s2)] [])=ffe (k+1) m s1 s2:=by
 kernel_rfl
theorem qvf {s1 s2:ByteArray}{r:Res}(k:Nat)(h:ffe (k+1) (k+1) s1 s2=some r):qer [.one (Cell.str s1),.one (Cell.str s2)] []=some r:=qap (k:=k+2) (Eq.trans (Eq.trans (by kernel_rfl) (ffe_code k (k+1) s1 s2)) h)
def pl_fbp:List (Nat×Run):=[]
def G_fbp:Ctx:=ctx qbd qbc pl_fbp
def run_fbp:Run:=lim G_fbp qggb
theorem ok_fbp:FnOk Tryz.prog OkT qggb run_fbp:=qal (l:=pl_fbp) qae tyTab_ok qad okT .nil qggb
def pl_fbr:List (Nat×Run):=[]
def G_fbr:Ctx:=ctx qbd qbc pl_fbr
def run_fbr:Run:=lim G_fbr qbwb
theorem ok_fbr:FnOk Tryz.prog OkT qbwb run_fbr:=qal (l:=pl_fbr) qae tyTab_ok qad okT .nil qbwb
def pl_fbq:List (Nat×Run):=[(qbwb,run_fbr)]
def G_fbq:Ctx:=ctx qbd qbc pl_fbq
def run_fbq:Run:=lim G_fbq qgmb
theorem ok_fbq:FnOk Tryz.prog OkT qgmb run_fbq:=qal (l:=pl_fbq) qae tyTab_ok qad okT (.cons ok_fbr .nil) qgmb
def pl_fbv:List (Nat×Run):=[(fid_fbw,qrn),(qggb,run_fbp),(qgmb,run_fbq)]
def G_fbv:Ctx:=ctx qbd qbc pl_fbv
def qwj:Run:=lim G_fbv qeob
theorem ok_fbv:FnOk Tryz.prog OkT qeob qwj:=qal (l:=pl_fbv) qae tyTab_ok qad okT (.cons ok_fbw (.cons ok_fbp (.cons ok_fbq .nil))) qeob
def fbv (k m:Nat)(s1 s2:ByteArray):Option Res:=cond ((s2.size:Int)==0) (some ([.one (Cell.int 0)],[])) (cond (s2.toList==s1.toList) (some ([.one (Cell.int 0)],[])) (cond ((s2.size:Int)==1) ((bytS s2 0).bind fun i3=>(qau qrn [.one (Cell.str s1),.one (.sc (.int .u8 i3))] []).bind fun r4=>cond (qab rk_fbw r4) ((cI .i64 (qaa r4 0) 0).bind fun i5=>some ([.one (Cell.int i5)],[])) none) (cond (decide ((s2.size:Int)≥(s1.size:Int))) (some ([.one (Cell.int (-1))],[])) (none))))
theorem fbv_code (k m:Nat)(s1 s2:ByteArray):evC G_fbv qiab (evF G_fbv (k+1)) m qiab.code none (retK G_fbv qiab) (enter qiab [.one (Cell.str s1),.one (Cell.str s2)] [])=fbv (k+1) m s1 s2:=by
 kernel_rfl
theorem qorb {s1 s2:ByteArray}{r:Res}(k:Nat)(h:fbv (k+1) (k+1) s1 s2=some r):qwj [.one (Cell.str s1),.one (Cell.str s2)] []=some r:=qap (k:=k+2) (Eq.trans (Eq.trans (by kernel_rfl) (fbv_code k (k+1) s1 s2)) h)
def pl_fbs:List (Nat×Run):=[(qeob,qwj)]
def G_fbs:Ctx:=ctx qbd qbc pl_fbs
def qxh:Run:=lim G_fbs qgcb
theorem ok_fbs:FnOk Tryz.prog OkT qgcb qxh:=qal (l:=pl_fbs) qae tyTab_ok qad okT (.cons ok_fbv .nil) qgcb
def fbs (k m:Nat)(s1 s2:ByteArray):Option Res:=(qau qwj [.one (Cell.str s1),.one (Cell.str s2)] []).bind fun r3=>cond (qab rk_fbv r3) ((cI .i64 (qaa r3 0) 0).bind fun i4=>cond (decide (i4≥0)) ((subS s1 0 i4).bind fun s5=>(subS s1 (IntKind.i64.wrap (i4+(s2.size:Int))) (s1.size:Int)).bind fun s6=>some ([.one (Cell.str s5),.one (Cell.str s6),.one (Cell.bool true)],[])) (some ([.one (Cell.str s1),.one (Cell.str (bs [])),.one (Cell.bool false)],[]))) none
theorem fbs_code (k m:Nat)(s1 s2:ByteArray):evC G_fbs qhvb (evF G_fbs (k+1)) m qhvb.code none (retK G_fbs qhvb) (enter qhvb [.one (Cell.str s1),.one (Cell.str s2)] [])=fbs (k+1) m s1 s2:=by
 kernel_rfl
theorem qohb {s1 s2:ByteArray}{r:Res}(k:Nat)(h:fbs (k+1) (k+1) s1 s2=some r):qxh [.one (Cell.str s1),.one (Cell.str s2)] []=some r:=qap (k:=k+2) (Eq.trans (Eq.trans (by kernel_rfl) (fbs_code k (k+1) s1 s2)) h)
def pl_ffa:List (Nat×Run):=[(qgcb,qxh)]
def G_ffa:Ctx:=ctx qbd qbc pl_ffa
def qfr:Run:=lim G_ffa qvg
theorem ok_ffa:FnOk Tryz.prog OkT qvg qfr:=qal (l:=pl_ffa) qae tyTab_ok qad okT (.cons ok_fbs .nil) qvg
def ffa (k m:Nat)(s1 s2:ByteArray):Option Res:=(qau qxh [.one (Cell.str s1),.one (Cell.str s2)] []).bind fun r3=>cond (qab rk_fbs r3) ((cS (qaa r3 0) 0).bind fun s4=>(cS (qaa r3 1) 0).bind fun s5=>(cB (qaa r3 2) 0).bind fun b6=>some ([.one (Cell.str s4),.one (Cell.str s5),.one (Cell.bool b6)],[])) none
theorem ffa_code (k m:Nat)(s1 s2:ByteArray):evC G_ffa qkfb (evF G_ffa (k+1)) m qkfb.code none (retK G_ffa qkfb) (enter qkfb [.one (Cell.str s1),.one (Cell.str s2)] [])=ffa (k+1) m s1 s2:=by
 kernel_rfl
theorem qqkb {s1 s2:ByteArray}{r:Res}(k:Nat)(h:ffa (k+1) (k+1) s1 s2=some r):qfr [.one (Cell.str s1),.one (Cell.str s2)] []=some r:=qap (k:=k+2) (Eq.trans (Eq.trans (by kernel_rfl) (ffa_code k (k+1) s1 s2)) h)
def pl_fbc:List (Nat×Run):=[]
def G_fbc:Ctx:=ctx qbd qbc pl_fbc
def qen:Run:=lim G_fbc qpo
theorem ok_fbc:FnOk Tryz.prog OkT qpo qen:=qal (l:=pl_fbc) qae tyTab_ok qad okT .nil qpo
def fbc (k m:Nat)(i1 i2 i3:Int):Option Res:=cond (decide (i1≥i2)) (some ([.one (Cell.bool (decide (i1≤i3)))],[])) (some ([.one (Cell.bool false)],[]))
theorem fbc_code (k m:Nat)(i1 i2 i3:Int):evC G_fbc qlbb (evF G_fbc (k+1)) m qlbb.code none (retK G_fbc qlbb) (enter qlbb [.one (Cell.int i1),.one (Cell.int i2),.one (Cell.int i3)] [])=fbc (k+1) m i1 i2 i3:=by
 kernel_rfl
theorem qowb {i1 i2 i3:Int}{r:Res}(k:Nat)(h:fbc (k+1) (k+1) i1 i2 i3=some r):qen [.one (Cell.int i1),.one (Cell.int i2),.one (Cell.int i3)] []=some r:=qap (k:=k+2) (Eq.trans (Eq.trans (by kernel_rfl) (fbc_code k (k+1) i1 i2 i3)) h)
def pl_fbd:List (Nat×Run):=[]
def G_fbd:Ctx:=ctx qbd qbc pl_fbd
def qfg:Run:=lim G_fbd qot
theorem ok_fbd:FnOk Tryz.prog OkT qot qfg:=qal (l:=pl_fbd) qae tyTab_ok qad okT .nil qot
def fbd (k m:Nat)(i1:Int):Option Res:=cond (decide (i1≥48)) (some ([.one (Cell.bool (decide (i1≤57)))],[])) (some ([.one (Cell.bool false)],[]))
theorem fbd_code (k m:Nat)(i1:Int):evC G_fbd qigb (evF G_fbd (k+1)) m qigb.code none (retK G_fbd qigb) (enter qigb [.one (.sc (.int .u8 i1))] [])=fbd (k+1) m i1:=by
 kernel_rfl
theorem qshb {i1:Int}{r:Res}(k:Nat)(h:fbd (k+1) (k+1) i1=some r):qfg [.one (.sc (.int .u8 i1))] []=some r:=qap (k:=k+2) (Eq.trans (Eq.trans (by kernel_rfl) (fbd_code k (k+1) i1)) h)
def pl_fak:List (Nat×Run):=[(fid_few,qczb)]
def G_fak:Ctx:=ctx qbd qbc pl_fak
def qjg:Run:=lim G_fak qvx
theorem ok_fak:FnOk Tryz.prog OkT qvx qjg:=qal (l:=pl_fak) qae tyTab_ok qad okT (.cons ok_few .nil) qvx
def fak (k m:Nat)(i1:Int):Option Res:=(qau qczb [.one (Cell.int (if i1 < 0 then 0 else i1))] []).bind fun r2=>cond (qab rk_few r2) ((cS (qaa r2 0) 0).bind fun s3=>some ([.one (Cell.str s3)],[])) none
theorem fak_code (k m:Nat)(i1:Int):evC G_fak qimb (evF G_fak (k+1)) m qimb.code none (retK G_fak qimb) (enter qimb [.one (Cell.int i1)] [])=fak (k+1) m i1:=by
 kernel_rfl
theorem qqcb {i1:Int}{r:Res}(k:Nat)(h:fak (k+1) (k+1) i1=some r):qjg [.one (Cell.int i1)] []=some r:=qap (k:=k+2) (Eq.trans (Eq.trans (by kernel_rfl) (fak_code k (k+1) i1)) h)
def pl_fam:List (Nat×Run):=[(qpo,qen),(qot,qfg),(qvx,qjg)]
def G_fam:Ctx:=ctx qbd qbc pl_fam
def qiv:Run:=lim G_fam qtl
theorem ok_fam:FnOk Tryz.prog OkT qtl qiv:=qal (l:=pl_fam) qae tyTab_ok qad okT (.cons ok_fbc (.cons ok_fbd (.cons ok_fak .nil))) qtl
def qzl (k m:Nat):Nat→ByteArray→Int→Int→Int→Option Res | 0,_,_,_,_=>none | n+1,s5,i6,i7,i8=>cond (decide (i8 < (s5.size:Int))) ((bytS s5 i8).bind fun i9=>(qau qfg [.one (.sc (.int .u8 i9))] []).bind fun r10=>cond (qab qkvb r10) ((cB (qaa r10 0) 0).bind fun b11=>cond (!b11) (some ([.one (Cell.int 0),.one (Cell.bool false)],[])) ((bytS s5 i8).bind fun i12=>qzl k m n s5 i6 (IntKind.i64.wrap ((IntKind.i64.wrap (i7*10))+(IntKind.i64.wrap (IntKind.u8.wrap (i12 - 48))))) (IntKind.i64.wrap (i8+1)))) none) ((qau qjg [.one (Cell.int i7)] []).bind fun r13=>cond (qab qnpb r13) ((cS (qaa r13 0) 0).bind fun s14=>cond (!(s14.toList==s5.toList)) (some ([.one (Cell.int 0),.one (Cell.bool false)],[])) (cond (decide (i7 > i6)) (some ([.one (Cell.int 0),.one (Cell.bool false)],[])) (some ([.one (Cell.int i7),.one (Cell.bool true)],[])))) none)
def fam (k m:Nat)(s1:ByteArray)(i2:Int):Option Res:=(qau qen [.one (Cell.int (s1.size:Int)),.one (Cell.int 1),.one (Cell.int 7)] []).bind fun r3=>cond (qab qzz r3) ((cB (qaa r3 0) 0).bind fun b4=>cond (!b4) (some ([.one (Cell.int 0),.one (Cell.bool false)],[])) (qzl k m m s1 i2 0 0)) none
abbrev fam_l0_B (k m:Nat):TB:=evC G_fam qly (evF G_fam (k+1)) m (sub [1,1,1,0,1,2,3] qly.code) none
abbrev fam_l0_K (k m:Nat):TK:=qaz 0 (seqK (evC G_fam qly (evF G_fam (k+1)) m (sub [1,1,1,1] qly.code) none) (retK G_fam qly))
theorem fam_l0_eq (k m:Nat):∀ (n:Nat) (s5:ByteArray) (i6 i7 i8:Int),qby (some [0,1,6,7]) (fam_l0_B k m) (fam_l0_K k m) n ⟨fT 41 0 [(0,.av (.one (Cell.str s5))),(1,.av (.one (Cell.int i6))),(6,.av (.one (Cell.int i7))),(7,.av (.one (Cell.int i8)))],fX 41 0 [],[]⟩=qzl (k+1) m n s5 i6 i7 i8:=by
 intro n
 induction n with
 | zero=>intros;rfl
 | succ n ih=>intros;simp only[qzl,← ih];kernel_rfl
theorem fam_code (k m:Nat)(s1:ByteArray)(i2:Int):evC G_fam qly (evF G_fam (k+1)) m qly.code none (retK G_fam qly) (enter qly [.one (Cell.str s1),.one (Cell.int i2)] [])=fam (k+1) m s1 i2:=by
 simp only[fam,← fam_l0_eq k m]
 kernel_rfl
theorem qth {s1:ByteArray}{i2:Int}{r:Res}(k:Nat)(h:fam (k+1) (k+1) s1 i2=some r):qiv [.one (Cell.str s1),.one (Cell.int i2)] []=some r:=qap (k:=k+2) (Eq.trans (Eq.trans (by kernel_rfl) (fam_code k (k+1) s1 i2)) h)
def pl_fbf:List (Nat×Run):=[]
def G_fbf:Ctx:=ctx qbd qbc pl_fbf
def qmn:Run:=lim G_fbf qtr
theorem ok_fbf:FnOk Tryz.prog OkT qtr qmn:=qal (l:=pl_fbf) qae tyTab_ok qad okT .nil qtr
def fbf (k m:Nat)(i1:Int):Option Res:=cond (decide (i1≥97)) (some ([.one (Cell.bool (decide (i1≤122)))],[])) (some ([.one (Cell.bool false)],[]))
theorem fbf_code (k m:Nat)(i1:Int):evC G_fbf qhub (evF G_fbf (k+1)) m qhub.code none (retK G_fbf qhub) (enter qhub [.one (.sc (.int .u8 i1))] [])=fbf (k+1) m i1:=by
 kernel_rfl
theorem qpzb {i1:Int}{r:Res}(k:Nat)(h:fbf (k+1) (k+1) i1=some r):qmn [.one (.sc (.int .u8 i1))] []=some r:=qap (k:=k+2) (Eq.trans (Eq.trans (by kernel_rfl) (fbf_code k (k+1) i1)) h)
end
end Go.Ev
