/- Conditions: none. -/
import Derived.Test.YtholafaogipaiaaGreatDoorSh6
import Derived.KernelRfl
namespace Go.Ev
open Go Go.Proofs
noncomputable section
set_option maxRecDepth 100000
set_option linter.unusedVariables false
set_option linter.unusedSimpArgs false
def pl_fce:List (Nat×Run):=[(qvk,qpj),(qqo,qjd),(qgib,quy)]
def G_fce:Ctx:=ctx qbd qbc pl_fce
def qye:Run:=lim G_fce qegb
theorem ok_fce:FnOk Tryz.prog OkT qegb qye:=qal (l:=pl_fce) qae tyTab_ok qad okT (.cons ok_fcd (.cons ok_fcg (.cons ok_fbz .nil))) qegb
def fce (k m:Nat)(s1:ByteArray)(c2 c3 c4:Cell)(s5:ByteArray)(c6 c7 c8:Cell):Option Res:=cond (!(s1.toList==s5.toList)) (some ([.one (Cell.bool false)],[])) ((qau qjd [.one (c2),.one (c6)] []).bind fun r9=>cond (qab rk_fcg r9) ((cB (qaa r9 0) 0).bind fun b10=>cond (!b10) (some ([.one (Cell.bool false)],[])) ((qau qpj [.one (c3),.one (c7)] []).bind fun r11=>cond (qab rk_fcd r11) ((cB (qaa r11 0) 0).bind fun b12=>cond (!b12) (some ([.one (Cell.bool false)],[])) ((qau quy [.one (c4),.one (c8)] []).bind fun r13=>cond (qab rk_fbz r13) ((cB (qaa r13 0) 0).bind fun b14=>cond (!b14) (some ([.one (Cell.bool false)],[])) (some ([.one (Cell.bool true)],[]))) none)) none)) none)
theorem fce_code (k m:Nat)(s1:ByteArray)(c2 c3 c4:Cell)(s5:ByteArray)(c6 c7 c8:Cell):evC G_fce qjob (evF G_fce (k+1)) m qjob.code none (retK G_fce qjob) (enter qjob [.agg [Cell.str s1,c2,c3,c4],.agg [Cell.str s5,c6,c7,c8]] [])=fce (k+1) m s1 c2 c3 c4 s5 c6 c7 c8:=by
 kernel_rfl
theorem qsxb {s1:ByteArray}{c2 c3 c4:Cell}{s5:ByteArray}{c6 c7 c8:Cell}{r:Res}(k:Nat)(h:fce (k+1) (k+1) s1 c2 c3 c4 s5 c6 c7 c8=some r):qye [.agg [Cell.str s1,c2,c3,c4],.agg [Cell.str s5,c6,c7,c8]] []=some r:=qap (k:=k+2) (Eq.trans (Eq.trans (by kernel_rfl) (fce_code k (k+1) s1 c2 c3 c4 s5 c6 c7 c8)) h)
def pl_fcf:List (Nat×Run):=[(qegb,qye)]
def G_fcf:Ctx:=ctx qbd qbc pl_fcf
def qxa:Run:=lim G_fcf qgyb
theorem ok_fcf:FnOk Tryz.prog OkT qgyb qxa:=qal (l:=pl_fcf) qae tyTab_ok qad okT (.cons ok_fce .nil) qgyb
def qzt (k m:Nat):Nat→Cell→Cell→Int→Option Res | 0,_,_,_=>none | n+1,c5,c6,i7=>(lenC c5).bind fun n8=>cond (decide (i7 < (n8:Int))) ((idxA 4 (c5) i7).bind fun c9=>(deref [] (c9)).bind fun p10=>(cS p10.1 p10.2).bind fun s11=>(cC p10.1 (p10.2+1)).bind fun c12=>(cC p10.1 ((p10.2+1)+1)).bind fun c13=>(cC p10.1 (((p10.2+1)+1)+1)).bind fun c14=>(idxA 4 (c6) i7).bind fun c15=>(deref [] (c15)).bind fun p16=>(cS p16.1 p16.2).bind fun s17=>(cC p16.1 (p16.2+1)).bind fun c18=>(cC p16.1 ((p16.2+1)+1)).bind fun c19=>(cC p16.1 (((p16.2+1)+1)+1)).bind fun c20=>(qau qye [.agg [Cell.str s11,c12,c13,c14],.agg [Cell.str s17,c18,c19,c20]] []).bind fun r21=>cond (qab rk_fce r21) ((cB (qaa r21 0) 0).bind fun b22=>cond (!b22) (some ([.one (Cell.bool false)],[])) (qzt k m n (c5) (c6) (IntKind.i64.wrap (i7+1)))) none) (some ([.one (Cell.bool true)],[]))
def fcf (k m:Nat)(c1 c2:Cell):Option Res:=(lenC c1).bind fun n3=>(lenC c2).bind fun n4=>cond ((n3:Int) != (n4:Int)) (some ([.one (Cell.bool false)],[])) (qzt k m m (c1) (c2) 0)
abbrev fcf_l0_B (k m:Nat):TB:=evC G_fcf qou (evF G_fcf (k+1)) m (sub [1,1,0,1,2,3] qou.code) none
abbrev fcf_l0_K (k m:Nat):TK:=qaz 0 (seqK (evC G_fcf qou (evF G_fcf (k+1)) m (sub [1,1,1] qou.code) none) (retK G_fcf qou))
theorem fcf_l0_eq (k m:Nat):∀ (n:Nat) (c5 c6:Cell) (i7:Int),qby (some [0,1,5]) (fcf_l0_B k m) (fcf_l0_K k m) n ⟨fT 27 0 [(0,.av (.one (c5))),(1,.av (.one (c6))),(5,.av (.one (Cell.int i7)))],fX 27 0 [],[]⟩=qzt (k+1) m n c5 c6 i7:=by
 intro n
 induction n with
 | zero=>intros;rfl
 | succ n ih=>intros;simp only[qzt,← ih];kernel_rfl
theorem fcf_code (k m:Nat)(c1 c2:Cell):evC G_fcf qou (evF G_fcf (k+1)) m qou.code none (retK G_fcf qou) (enter qou [.one (c1),.one (c2)] [])=fcf (k+1) m c1 c2:=by
 simp only[fcf,← fcf_l0_eq k m]
 kernel_rfl
theorem qlzb {c1 c2:Cell}{r:Res}(k:Nat)(h:fcf (k+1) (k+1) c1 c2=some r):qxa [.one (c1),.one (c2)] []=some r:=qap (k:=k+2) (Eq.trans (Eq.trans (by kernel_rfl) (fcf_code k (k+1) c1 c2)) h)
def pl_fbx:List (Nat×Run):=[(qfmb,qtk),(qcob,qmm),(qeub,qyo),(qhgb,qvz),(qdwb,qyt),(qfkb,qnr),(qcgb,qwi),(qgyb,qxa)]
def G_fbx:Ctx:=ctx qbd qbc pl_fbx
def qnkb:Run:=lim G_fbx qpwb
theorem ok_fbx:FnOk Tryz.prog OkT qpwb qnkb:=qal (l:=pl_fbx) qae tyTab_ok qad okT (.cons ok_fcl (.cons ok_fcv (.cons ok_fcb (.cons ok_fcp (.cons ok_fdu (.cons ok_fcz (.cons ok_far (.cons ok_fcf .nil)))))))) qpwb
def fbx (k m:Nat)(c1 c2:Cell)(s3:ByteArray):Option Res:=cond (decide ((s3.size:Int) > 1048576)) (some ([.one (Cell.bool true)],[])) ((qau qtk [.one (c1),.one (Cell.int 1048576)] []).bind fun r4=>cond (qab rk_fcl r4) ((cI .i64 (qaa r4 0) 0).bind fun i5=>cond (decide (i5 < 0)) (some ([.one (Cell.bool true)],[])) ((qau qvz [.one (c2),.one (Cell.int i5)] []).bind fun r6=>cond (qab rk_fcp r6) ((cI .i64 (qaa r6 0) 0).bind fun i7=>cond (decide (i7 < 0)) (some ([.one (Cell.bool true)],[])) ((callL qmm [.one (c1)] []).bind fun r8=>cond (qab rk_fcv r8.1) ((cC (qaa r8.1 0) 0).bind fun c9=>(callL qnr [.one (c2)] r8.2).bind fun r10=>cond (qab rk_fcz r10.1) ((cC (qaa r10.1 0) 0).bind fun c11=>(qau qyt [.one (c9),.one (c11),.one (Cell.str s3)] r10.2).bind fun r12=>cond (qab rk_fdu r12) ((cB (qaa r12 0) 0).bind fun b13=>(callL qmm [.one (c1)] r10.2).bind fun r14=>cond (qab rk_fcv r14.1) ((cC (qaa r14.1 0) 0).bind fun c15=>(callL qnr [.one (c2)] r14.2).bind fun r16=>cond (qab rk_fcz r16.1) ((cC (qaa r16.1 0) 0).bind fun c17=>(qau qwi [.one (c15),.one (c17),.one (Cell.str s3)] r16.2).bind fun r18=>cond (qab rk_far r18) ((cB (qaa r18 0) 0).bind fun b19=>cond (!(b19==b13)) (some ([.one (Cell.bool false)],r16.2)) ((callL qmm [.one (c1)] r16.2).bind fun r20=>cond (qab rk_fcv r20.1) ((cC (qaa r20.1 0) 0).bind fun c21=>(qau qyo [.one (c15),.one (c21)] r20.2).bind fun r22=>cond (qab rk_fcb r22) ((cB (qaa r22 0) 0).bind fun b23=>cond (!b23) (some ([.one (Cell.bool false)],r20.2)) ((callL qnr [.one (c2)] r20.2).bind fun r24=>cond (qab rk_fcz r24.1) ((cC (qaa r24.1 0) 0).bind fun c25=>(qau qxa [.one (c17),.one (c25)] r24.2).bind fun r26=>cond (qab rk_fcf r26) ((cB (qaa r26 0) 0).bind fun b27=>cond (!b27) (some ([.one (Cell.bool false)],r24.2)) (some ([.one (Cell.bool true)],r24.2))) none) none)) none) none)) none) none) none) none) none) none)) none)) none)
theorem fbx_code (k m:Nat)(c1 c2:Cell)(s3:ByteArray):evC G_fbx qjzb (evF G_fbx (k+1)) m qjzb.code none (retK G_fbx qjzb) (enter qjzb [.one (c1),.one (c2),.one (Cell.str s3)] [])=fbx (k+1) m c1 c2 s3:=by
 kernel_rfl
theorem qqrb {c1 c2:Cell}{s3:ByteArray}{r:Res}(k:Nat)(h:fbx (k+1) (k+1) c1 c2 s3=some r):qnkb [.one (c1),.one (c2),.one (Cell.str s3)] []=some r:=qap (k:=k+2) (Eq.trans (Eq.trans (by kernel_rfl) (fbx_code k (k+1) c1 c2 s3)) h)
end
end Go.Ev
