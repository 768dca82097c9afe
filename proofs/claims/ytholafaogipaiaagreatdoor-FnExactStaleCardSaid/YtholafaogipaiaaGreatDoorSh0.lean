/- Conditions: none. -/
import Derived.Test.YtholafaogipaiaaGreatDoorEvPr
import Derived.KernelRfl
namespace Go.Ev
open Go Go.Proofs
noncomputable section
set_option maxRecDepth 100000
set_option linter.unusedVariables false
set_option linter.unusedSimpArgs false
def pl_fcm:List (Nat×Run):=[]
def G_fcm:Ctx:=ctx qbd qbc pl_fcm
def qvi:Run:=lim G_fcm qheb
theorem ok_fcm:FnOk Tryz.prog OkT qheb qvi:=qal (l:=pl_fcm) qae tyTab_ok qad okT .nil qheb
def fcm (k m:Nat)(s1 s2:ByteArray)(i3:Int):Option Res:=cond (decide ((IntKind.i64.wrap (i3 - (s1.size:Int))) < 0)) (some ([.one (Cell.int (-1))],[])) (cond (decide ((IntKind.i64.wrap ((IntKind.i64.wrap (i3 - (s1.size:Int))) - (s2.size:Int))) < 0)) (some ([.one (Cell.int (-1))],[])) (some ([.one (Cell.int (IntKind.i64.wrap ((IntKind.i64.wrap (i3 - (s1.size:Int))) - (s2.size:Int))))],[])))
theorem fcm_code (k m:Nat)(s1 s2:ByteArray)(i3:Int):evC G_fcm qjub (evF G_fcm (k+1)) m qjub.code none (retK G_fcm qjub) (enter qjub [.agg [Cell.str s1,Cell.str s2],.one (Cell.int i3)] [])=fcm (k+1) m s1 s2 i3:=by
 kernel_rfl
theorem qsfb {s1 s2:ByteArray}{i3:Int}{r:Res}(k:Nat)(h:fcm (k+1) (k+1) s1 s2 i3=some r):qvi [.agg [Cell.str s1,Cell.str s2],.one (Cell.int i3)] []=some r:=qap (k:=k+2) (Eq.trans (Eq.trans (by kernel_rfl) (fcm_code k (k+1) s1 s2 i3)) h)
def pl_fcn:List (Nat×Run):=[(qheb,qvi)]
def G_fcn:Ctx:=ctx qbd qbc pl_fcn
def qoc:Run:=lim G_fcn qxu
theorem ok_fcn:FnOk Tryz.prog OkT qxu qoc:=qal (l:=pl_fcn) qae tyTab_ok qad okT (.cons ok_fcm .nil) qxu
def qaib (k m:Nat):Nat→Cell→Int→Int→Option Res | 0,_,_,_=>none | n+1,c4,i5,i6=>(lenC c4).bind fun n7=>cond (decide (i6 < (n7:Int))) ((idxA 2 (c4) i6).bind fun c8=>(deref [] (c8)).bind fun p9=>(cS p9.1 p9.2).bind fun s10=>(cS p9.1 (p9.2+1)).bind fun s11=>(qau qvi [.agg [Cell.str s10,Cell.str s11],.one (Cell.int i5)] []).bind fun r12=>cond (qab rk_fcm r12) ((cI .i64 (qaa r12 0) 0).bind fun i13=>cond (decide (i13 < 0)) (some ([.one (Cell.int (-1))],[])) (qaib k m n (c4) i13 (IntKind.i64.wrap (i6+1)))) none) (some ([.one (Cell.int i5)],[]))
def fcn (k m:Nat)(c1:Cell)(i2:Int):Option Res:=(lenC c1).bind fun n3=>cond (decide ((IntKind.i64.wrap (i2 - (n3:Int))) < 0)) (some ([.one (Cell.int (-1))],[])) (qaib k m m (c1) (IntKind.i64.wrap (i2 - (n3:Int))) 0)
abbrev fcn_l0_B (k m:Nat):TB:=evC G_fcn qpc (evF G_fcn (k+1)) m (sub [1,1,1,0,1,2,3] qpc.code) none
abbrev fcn_l0_K (k m:Nat):TK:=qaz 0 (seqK (evC G_fcn qpc (evF G_fcn (k+1)) m (sub [1,1,1,1] qpc.code) none) (retK G_fcn qpc))
theorem fcn_l0_eq (k m:Nat):∀ (n:Nat) (c4:Cell) (i5 i6:Int),qby (some [0,1,5]) (fcn_l0_B k m) (fcn_l0_K k m) n ⟨fT 27 0 [(0,.av (.one (c4))),(1,.av (.one (Cell.int i5))),(5,.av (.one (Cell.int i6)))],fX 27 0 [],[]⟩=qaib (k+1) m n c4 i5 i6:=by
 intro n
 induction n with
 | zero=>intros;rfl
 | succ n ih=>intros;simp only[qaib,← ih];kernel_rfl
theorem fcn_code (k m:Nat)(c1:Cell)(i2:Int):evC G_fcn qpc (evF G_fcn (k+1)) m qpc.code none (retK G_fcn qpc) (enter qpc [.one (c1),.one (Cell.int i2)] [])=fcn (k+1) m c1 i2:=by
 simp only[fcn,← fcn_l0_eq k m]
 kernel_rfl
theorem qsub {c1:Cell}{i2:Int}{r:Res}(k:Nat)(h:fcn (k+1) (k+1) c1 i2=some r):qoc [.one (c1),.one (Cell.int i2)] []=some r:=qap (k:=k+2) (Eq.trans (Eq.trans (by kernel_rfl) (fcn_code k (k+1) c1 i2)) h)
def pl_fcq:List (Nat×Run):=[]
def G_fcq:Ctx:=ctx qbd qbc pl_fcq
def qil:Run:=lim G_fcq qqy
theorem ok_fcq:FnOk Tryz.prog OkT qqy qil:=qal (l:=pl_fcq) qae tyTab_ok qad okT .nil qqy
def qaab (k m:Nat):Nat→Cell→Int→Int→Option Res | 0,_,_,_=>none | n+1,c4,i5,i6=>(lenC c4).bind fun n7=>cond (decide (i6 < (n7:Int))) ((idxA 1 (c4) i6).bind fun c8=>(deref [] (c8)).bind fun p9=>(cS p9.1 p9.2).bind fun s10=>cond (decide ((IntKind.i64.wrap (i5 - (s10.size:Int))) < 0)) (some ([.one (Cell.int (-1))],[])) (qaab k m n (c4) (IntKind.i64.wrap (i5 - (s10.size:Int))) (IntKind.i64.wrap (i6+1)))) (some ([.one (Cell.int i5)],[]))
def fcq (k m:Nat)(c1:Cell)(i2:Int):Option Res:=(lenC c1).bind fun n3=>cond (decide ((IntKind.i64.wrap (i2 - (n3:Int))) < 0)) (some ([.one (Cell.int (-1))],[])) (qaab k m m (c1) (IntKind.i64.wrap (i2 - (n3:Int))) 0)
abbrev fcq_l0_B (k m:Nat):TB:=evC G_fcq qmo (evF G_fcq (k+1)) m (sub [1,1,1,0,1,2,3] qmo.code) none
abbrev fcq_l0_K (k m:Nat):TK:=qaz 0 (seqK (evC G_fcq qmo (evF G_fcq (k+1)) m (sub [1,1,1,1] qmo.code) none) (retK G_fcq qmo))
theorem fcq_l0_eq (k m:Nat):∀ (n:Nat) (c4:Cell) (i5 i6:Int),qby (some [0,1,5]) (fcq_l0_B k m) (fcq_l0_K k m) n ⟨fT 28 0 [(0,.av (.one (c4))),(1,.av (.one (Cell.int i5))),(5,.av (.one (Cell.int i6)))],fX 28 0 [],[]⟩=qaab (k+1) m n c4 i5 i6:=by
 intro n
 induction n with
 | zero=>intros;rfl
 | succ n ih=>intros;simp only[qaab,← ih];kernel_rfl
theorem fcq_code (k m:Nat)(c1:Cell)(i2:Int):evC G_fcq qmo (evF G_fcq (k+1)) m qmo.code none (retK G_fcq qmo) (enter qmo [.one (c1),.one (Cell.int i2)] [])=fcq (k+1) m c1 i2:=by
 simp only[fcq,← fcq_l0_eq k m]
 kernel_rfl
theorem qrlb {c1:Cell}{i2:Int}{r:Res}(k:Nat)(h:fcq (k+1) (k+1) c1 i2=some r):qil [.one (c1),.one (Cell.int i2)] []=some r:=qap (k:=k+2) (Eq.trans (Eq.trans (by kernel_rfl) (fcq_code k (k+1) c1 i2)) h)
def pl_fcr:List (Nat×Run):=[(qqy,qil)]
def G_fcr:Ctx:=ctx qbd qbc pl_fcr
def qxw:Run:=lim G_fcr qgfb
theorem ok_fcr:FnOk Tryz.prog OkT qgfb qxw:=qal (l:=pl_fcr) qae tyTab_ok qad okT (.cons ok_fcq .nil) qgfb
def fcr (k m:Nat)(i1 i2 i3:Int)(c4:Cell)(i5:Int):Option Res:=(qau qil [.one (c4),.one (Cell.int i5)] []).bind fun r6=>cond (qab rk_fcq r6) ((cI .i64 (qaa r6 0) 0).bind fun i7=>cond (decide (i7 < 0)) (some ([.one (Cell.int (-1))],[])) (some ([.one (Cell.int i7)],[]))) none
theorem fcr_code (k m:Nat)(i1 i2 i3:Int)(c4:Cell)(i5:Int):evC G_fcr qlab (evF G_fcr (k+1)) m qlab.code none (retK G_fcr qlab) (enter qlab [.agg [Cell.int i1,Cell.int i2,Cell.int i3,c4],.one (Cell.int i5)] [])=fcr (k+1) m i1 i2 i3 c4 i5:=by
 kernel_rfl
theorem qmub {i1 i2 i3:Int}{c4:Cell}{i5:Int}{r:Res}(k:Nat)(h:fcr (k+1) (k+1) i1 i2 i3 c4 i5=some r):qxw [.agg [Cell.int i1,Cell.int i2,Cell.int i3,c4],.one (Cell.int i5)] []=some r:=qap (k:=k+2) (Eq.trans (Eq.trans (by kernel_rfl) (fcr_code k (k+1) i1 i2 i3 c4 i5)) h)
def pl_fck:List (Nat×Run):=[(qxu,qoc),(qgfb,qxw)]
def G_fck:Ctx:=ctx qbd qbc pl_fck
def qxx:Run:=lim G_fck qdob
theorem ok_fck:FnOk Tryz.prog OkT qdob qxx:=qal (l:=pl_fck) qae tyTab_ok qad okT (.cons ok_fcn (.cons ok_fcr .nil)) qdob
def fck (k m:Nat)(s1:ByteArray)(i2 i3 i4:Int)(c5 c6:Cell)(i7:Int):Option Res:=cond (decide ((IntKind.i64.wrap (i7 - (s1.size:Int))) < 0)) (some ([.one (Cell.int (-1))],[])) ((qau qxw [.agg [Cell.int i2,Cell.int i3,Cell.int i4,c5],.one (Cell.int (IntKind.i64.wrap (i7 - (s1.size:Int))))] []).bind fun r8=>cond (qab rk_fcr r8) ((cI .i64 (qaa r8 0) 0).bind fun i9=>cond (decide (i9 < 0)) (some ([.one (Cell.int (-1))],[])) ((qau qoc [.one (c6),.one (Cell.int i9)] []).bind fun r10=>cond (qab rk_fcn r10) ((cI .i64 (qaa r10 0) 0).bind fun i11=>cond (decide (i11 < 0)) (some ([.one (Cell.int (-1))],[])) (some ([.one (Cell.int i11)],[]))) none)) none)
theorem fck_code (k m:Nat)(s1:ByteArray)(i2 i3 i4:Int)(c5 c6:Cell)(i7:Int):evC G_fck qjpb (evF G_fck (k+1)) m qjpb.code none (retK G_fck qjpb) (enter qjpb [.agg [Cell.str s1,Cell.int i2,Cell.int i3,Cell.int i4,c5,c6],.one (Cell.int i7)] [])=fck (k+1) m s1 i2 i3 i4 c5 c6 i7:=by
 kernel_rfl
theorem qqhb {s1:ByteArray}{i2 i3 i4:Int}{c5 c6:Cell}{i7:Int}{r:Res}(k:Nat)(h:fck (k+1) (k+1) s1 i2 i3 i4 c5 c6 i7=some r):qxx [.agg [Cell.str s1,Cell.int i2,Cell.int i3,Cell.int i4,c5,c6],.one (Cell.int i7)] []=some r:=qap (k:=k+2) (Eq.trans (Eq.trans (by kernel_rfl) (fck_code k (k+1) s1 i2 i3 i4 c5 c6 i7)) h)
def pl_fcl:List (Nat×Run):=[(qdob,qxx)]
def G_fcl:Ctx:=ctx qbd qbc pl_fcl
def qtk:Run:=lim G_fcl qfmb
theorem ok_fcl:FnOk Tryz.prog OkT qfmb qtk:=qal (l:=pl_fcl) qae tyTab_ok qad okT (.cons ok_fck .nil) qfmb
def qzg (k m:Nat):Nat→Cell→Int→Int→Option Res | 0,_,_,_=>none | n+1,c4,i5,i6=>(lenC c4).bind fun n7=>cond (decide (i6 < (n7:Int))) ((idxA 6 (c4) i6).bind fun c8=>(deref [] (c8)).bind fun p9=>(cS p9.1 p9.2).bind fun s10=>(cI .i64 p9.1 (p9.2+1)).bind fun i11=>(cI .i64 p9.1 ((p9.2+1)+1)).bind fun i12=>(cI .i64 p9.1 (((p9.2+1)+1)+1)).bind fun i13=>(cC p9.1 ((((p9.2+1)+1)+1)+1)).bind fun c14=>(cC p9.1 (((((p9.2+1)+1)+1)+1)+1)).bind fun c15=>(qau qxx [.agg [Cell.str s10,Cell.int i11,Cell.int i12,Cell.int i13,c14,c15],.one (Cell.int i5)] []).bind fun r16=>cond (qab rk_fck r16) ((cI .i64 (qaa r16 0) 0).bind fun i17=>cond (decide (i17 < 0)) (some ([.one (Cell.int (-1))],[])) (qzg k m n (c4) i17 (IntKind.i64.wrap (i6+1)))) none) (some ([.one (Cell.int i5)],[]))
def fcl (k m:Nat)(c1:Cell)(i2:Int):Option Res:=(lenC c1).bind fun n3=>cond (decide ((IntKind.i64.wrap (i2 - (n3:Int))) < 0)) (some ([.one (Cell.int (-1))],[])) (qzg k m m (c1) (IntKind.i64.wrap (i2 - (n3:Int))) 0)
abbrev fcl_l0_B (k m:Nat):TB:=evC G_fcl qpl (evF G_fcl (k+1)) m (sub [1,1,1,0,1,2,3] qpl.code) none
abbrev fcl_l0_K (k m:Nat):TK:=qaz 0 (seqK (evC G_fcl qpl (evF G_fcl (k+1)) m (sub [1,1,1,1] qpl.code) none) (retK G_fcl qpl))
theorem fcl_l0_eq (k m:Nat):∀ (n:Nat) (c4:Cell) (i5 i6:Int),qby (some [0,1,5]) (fcl_l0_B k m) (fcl_l0_K k m) n ⟨fT 27 0 [(0,.av (.one (c4))),(1,.av (.one (Cell.int i5))),(5,.av (.one (Cell.int i6)))],fX 27 0 [],[]⟩=qzg (k+1) m n c4 i5 i6:=by
 intro n
 induction n with
 | zero=>intros;rfl
 | succ n ih=>intros;simp only[qzg,← ih];kernel_rfl
theorem fcl_code (k m:Nat)(c1:Cell)(i2:Int):evC G_fcl qpl (evF G_fcl (k+1)) m qpl.code none (retK G_fcl qpl) (enter qpl [.one (c1),.one (Cell.int i2)] [])=fcl (k+1) m c1 i2:=by
 simp only[fcl,← fcl_l0_eq k m]
 kernel_rfl
theorem qrsb {c1:Cell}{i2:Int}{r:Res}(k:Nat)(h:fcl (k+1) (k+1) c1 i2=some r):qtk [.one (c1),.one (Cell.int i2)] []=some r:=qap (k:=k+2) (Eq.trans (Eq.trans (by kernel_rfl) (fcl_code k (k+1) c1 i2)) h)
def pl_fcw:List (Nat×Run):=[]
def G_fcw:Ctx:=ctx qbd qbc pl_fcw
def qxf:Run:=lim G_fcw qhqb
theorem ok_fcw:FnOk Tryz.prog OkT qhqb qxf:=qal (l:=pl_fcw) qae tyTab_ok qad okT .nil qhqb
def fcw (k m:Nat)(s1 s2:ByteArray):Option Res:=some ([.agg [Cell.str s1,Cell.str s2]],[])
theorem fcw_code (k m:Nat)(s1 s2:ByteArray):evC G_fcw qkib (evF G_fcw (k+1)) m qkib.code none (retK G_fcw qkib) (enter qkib [.agg [Cell.str s1,Cell.str s2]] [])=fcw (k+1) m s1 s2:=by
 kernel_rfl
theorem qmgb {s1 s2:ByteArray}{r:Res}(k:Nat)(h:fcw (k+1) (k+1) s1 s2=some r):qxf [.agg [Cell.str s1,Cell.str s2]] []=some r:=qap (k:=k+2) (Eq.trans (Eq.trans (by kernel_rfl) (fcw_code k (k+1) s1 s2)) h)
def pl_fcx:List (Nat×Run):=[(qhqb,qxf)]
def G_fcx:Ctx:=ctx qbd qbc pl_fcx
def qlv:Run:=lim G_fcx qwg
theorem ok_fcx:FnOk Tryz.prog OkT qwg qlv:=qal (l:=pl_fcx) qae tyTab_ok qad okT (.cons ok_fcw .nil) qwg
def qbfb (k m:Nat):Nat→Cell→Cell→Int→List Entry→Option Res | 0,_,_,_,_=>none | n+1,c3,c4,i5,H6=>(lenC c3).bind fun n7=>cond (decide (i5 < (n7:Int))) ((idxA 2 (c3) i5).bind fun c8=>(deref H6 (c8)).bind fun p9=>(cS p9.1 p9.2).bind fun s10=>(cS p9.1 (p9.2+1)).bind fun s11=>(qau qxf [.agg [Cell.str s10,Cell.str s11]] H6).bind fun r12=>cond (qab rk_fcw r12) ((cS (qaa r12 0) 0).bind fun s13=>(cS (qaa r12 0) 1).bind fun s14=>(idxA 2 (c4) i5).bind fun c15=>(qce H6 (c15) [Cell.str s13,Cell.str s14]).bind fun h16=>qbfb k m n (c3) (c4) (IntKind.i64.wrap (i5+1)) h16) none) (some ([.one (c4)],H6))
def fcx (k m:Nat)(c1:Cell):Option Res:=(lenC c1).bind fun n2=>if 0≤(n2:Int)∧(n2:Int)≤(n2:Int)∧(n2:Int)*32≤bound∧(n2:Int)≤bound then (qbfb k m m (c1) ((.vs 0 2 0 (n2:Int).toNat 0)) 0 [Entry.mk 2 (qcd (n2:Int).toNat [Cell.str (bs []),Cell.str (bs [])]) 0 false]) else none
abbrev fcx_l0_B (k m:Nat):TB:=evC G_fcx qpf (evF G_fcx (k+1)) m (sub [1,1,0,1,2,3] qpf.code) none
abbrev fcx_l0_K (k m:Nat):TK:=qaz 0 (seqK (evC G_fcx qpf (evF G_fcx (k+1)) m (sub [1,1,1] qpf.code) none) (retK G_fcx qpf))
theorem fcx_l0_eq (k m:Nat):∀ (n:Nat) (c3 c4:Cell) (i5:Int) (H6:List Entry),qby (some [0,3,4]) (fcx_l0_B k m) (fcx_l0_K k m) n ⟨fT 23 0 [(0,.av (.one (c3))),(3,.av (.one (c4))),(4,.av (.one (Cell.int i5)))],fX 23 0 [],H6⟩=qbfb (k+1) m n c3 c4 i5 H6:=by
 intro n
 induction n with
 | zero=>intros;rfl
 | succ n ih=>intros;simp only[qbfb,← ih];kernel_rfl
theorem fcx_code (k m:Nat)(c1:Cell):evC G_fcx qpf (evF G_fcx (k+1)) m qpf.code none (retK G_fcx qpf) (enter qpf [.one (c1)] [])=fcx (k+1) m c1:=by
 simp only[fcx,← fcx_l0_eq k m]
 kernel_rfl
theorem qpob {c1:Cell}{r:Res}(k:Nat)(h:fcx (k+1) (k+1) c1=some r):qlv [.one (c1)] []=some r:=qap (k:=k+2) (Eq.trans (Eq.trans (by kernel_rfl) (fcx_code k (k+1) c1)) h)
def pl_fda:List (Nat×Run):=[]
def G_fda:Ctx:=ctx qbd qbc pl_fda
def qiu:Run:=lim G_fda qqf
theorem ok_fda:FnOk Tryz.prog OkT qqf qiu:=qal (l:=pl_fda) qae tyTab_ok qad okT .nil qqf
def qbbb (k m:Nat):Nat→Cell→Cell→Int→List Entry→Option Res | 0,_,_,_,_=>none | n+1,c3,c4,i5,H6=>(lenC c3).bind fun n7=>cond (decide (i5 < (n7:Int))) ((idxA 1 (c3) i5).bind fun c8=>(deref H6 (c8)).bind fun p9=>(cS p9.1 p9.2).bind fun s10=>(idxA 1 (c4) i5).bind fun c11=>(qce H6 (c11) [Cell.str s10]).bind fun h12=>qbbb k m n (c3) (c4) (IntKind.i64.wrap (i5+1)) h12) (some ([.one (c4)],H6))
def fda (k m:Nat)(c1:Cell):Option Res:=(lenC c1).bind fun n2=>if 0≤(n2:Int)∧(n2:Int)≤(n2:Int)∧(n2:Int)*16≤bound∧(n2:Int)≤bound then (qbbb k m m (c1) ((.vs 0 1 0 (n2:Int).toNat 0)) 0 [Entry.mk 1 (qcd (n2:Int).toNat [Cell.str (bs [])]) 0 false]) else none
abbrev fda_l0_B (k m:Nat):TB:=evC G_fda qpp (evF G_fda (k+1)) m (sub [1,1,0,1,2,3] qpp.code) none
abbrev fda_l0_K (k m:Nat):TK:=qaz 0 (seqK (evC G_fda qpp (evF G_fda (k+1)) m (sub [1,1,1] qpp.code) none) (retK G_fda qpp))
theorem fda_l0_eq (k m:Nat):∀ (n:Nat) (c3 c4:Cell) (i5:Int) (H6:List Entry),qby (some [0,3,4]) (fda_l0_B k m) (fda_l0_K k m) n ⟨fT 22 0 [(0,.av (.one (c3))),(3,.av (.one (c4))),(4,.av (.one (Cell.int i5)))],fX 22 0 [],H6⟩=qbbb (k+1) m n c3 c4 i5 H6:=by
 intro n
 induction n with
 | zero=>intros;rfl
 | succ n ih=>intros;simp only[qbbb,← ih];kernel_rfl
theorem fda_code (k m:Nat)(c1:Cell):evC G_fda qpp (evF G_fda (k+1)) m qpp.code none (retK G_fda qpp) (enter qpp [.one (c1)] [])=fda (k+1) m c1:=by
 simp only[fda,← fda_l0_eq k m]
 kernel_rfl
theorem qsob {c1:Cell}{r:Res}(k:Nat)(h:fda (k+1) (k+1) c1=some r):qiu [.one (c1)] []=some r:=qap (k:=k+2) (Eq.trans (Eq.trans (by kernel_rfl) (fda_code k (k+1) c1)) h)
def pl_fdb:List (Nat×Run):=[(qqf,qiu)]
def G_fdb:Ctx:=ctx qbd qbc pl_fdb
def qyd:Run:=lim G_fdb qefb
theorem ok_fdb:FnOk Tryz.prog OkT qefb qyd:=qal (l:=pl_fdb) qae tyTab_ok qad okT (.cons ok_fda .nil) qefb
def fdb (k m:Nat)(i1 i2 i3:Int)(c4:Cell):Option Res:=(callL qiu [.one (c4)] []).bind fun r5=>cond (qab rk_fda r5.1) ((cC (qaa r5.1 0) 0).bind fun c6=>some ([.agg [Cell.int i1,Cell.int i2,Cell.int i3,c6]],r5.2)) none
theorem fdb_code (k m:Nat)(i1 i2 i3:Int)(c4:Cell):evC G_fdb qjfb (evF G_fdb (k+1)) m qjfb.code none (retK G_fdb qjfb) (enter qjfb [.agg [Cell.int i1,Cell.int i2,Cell.int i3,c4]] [])=fdb (k+1) m i1 i2 i3 c4:=by
 kernel_rfl
theorem qprb {i1 i2 i3:Int}{c4:Cell}{r:Res}(k:Nat)(h:fdb (k+1) (k+1) i1 i2 i3 c4=some r):qyd [.agg [Cell.int i1,Cell.int i2,Cell.int i3,c4]] []=some r:=qap (k:=k+2) (Eq.trans (Eq.trans (by kernel_rfl) (fdb_code k (k+1) i1 i2 i3 c4)) h)
def pl_fcu:List (Nat×Run):=[(qwg,qlv),(qefb,qyd)]
def G_fcu:Ctx:=ctx qbd qbc pl_fcu
def qub:Run:=lim G_fcu qdvb
theorem ok_fcu:FnOk Tryz.prog OkT qdvb qub:=qal (l:=pl_fcu) qae tyTab_ok qad okT (.cons ok_fcx (.cons ok_fdb .nil)) qdvb
def fcu (k m:Nat)(s1:ByteArray)(i2 i3 i4:Int)(c5 c6:Cell):Option Res:=(callL qyd [.agg [Cell.int i2,Cell.int i3,Cell.int i4,c5]] []).bind fun r7=>cond (qab rk_fdb r7.1) ((cI .i64 (qaa r7.1 0) 0).bind fun i8=>(cI .i64 (qaa r7.1 0) 1).bind fun i9=>(cI .i64 (qaa r7.1 0) 2).bind fun i10=>(cC (qaa r7.1 0) 3).bind fun c11=>(callL qlv [.one (c6)] r7.2).bind fun r12=>cond (qab rk_fcx r12.1) ((cC (qaa r12.1 0) 0).bind fun c13=>some ([.agg [Cell.str s1,Cell.int i8,Cell.int i9,Cell.int i10,c11,c13]],r12.2)) none) none
theorem fcu_code (k m:Nat)(s1:ByteArray)(i2 i3 i4:Int)(c5 c6:Cell):evC G_fcu qkgb (evF G_fcu (k+1)) m qkgb.code none (retK G_fcu qkgb) (enter qkgb [.agg [Cell.str s1,Cell.int i2,Cell.int i3,Cell.int i4,c5,c6]] [])=fcu (k+1) m s1 i2 i3 i4 c5 c6:=by
 kernel_rfl
theorem qopb {s1:ByteArray}{i2 i3 i4:Int}{c5 c6:Cell}{r:Res}(k:Nat)(h:fcu (k+1) (k+1) s1 i2 i3 i4 c5 c6=some r):qub [.agg [Cell.str s1,Cell.int i2,Cell.int i3,Cell.int i4,c5,c6]] []=some r:=qap (k:=k+2) (Eq.trans (Eq.trans (by kernel_rfl) (fcu_code k (k+1) s1 i2 i3 i4 c5 c6)) h)
def pl_fcv:List (Nat×Run):=[(qdvb,qub)]
def G_fcv:Ctx:=ctx qbd qbc pl_fcv
def qmm:Run:=lim G_fcv qcob
theorem ok_fcv:FnOk Tryz.prog OkT qcob qmm:=qal (l:=pl_fcv) qae tyTab_ok qad okT (.cons ok_fcu .nil) qcob
def qbsb (k m:Nat):Nat→Cell→Cell→Int→List Entry→Option Res | 0,_,_,_,_=>none | n+1,c3,c4,i5,H6=>(lenC c3).bind fun n7=>cond (decide (i5 < (n7:Int))) ((idxA 6 (c3) i5).bind fun c8=>(deref H6 (c8)).bind fun p9=>(cS p9.1 p9.2).bind fun s10=>(cI .i64 p9.1 (p9.2+1)).bind fun i11=>(cI .i64 p9.1 ((p9.2+1)+1)).bind fun i12=>(cI .i64 p9.1 (((p9.2+1)+1)+1)).bind fun i13=>(cC p9.1 ((((p9.2+1)+1)+1)+1)).bind fun c14=>(cC p9.1 (((((p9.2+1)+1)+1)+1)+1)).bind fun c15=>(callL qub [.agg [Cell.str s10,Cell.int i11,Cell.int i12,Cell.int i13,c14,c15]] H6).bind fun r16=>cond (qab rk_fcu r16.1) ((cS (qaa r16.1 0) 0).bind fun s17=>(cI .i64 (qaa r16.1 0) 1).bind fun i18=>(cI .i64 (qaa r16.1 0) 2).bind fun i19=>(cI .i64 (qaa r16.1 0) 3).bind fun i20=>(cC (qaa r16.1 0) 4).bind fun c21=>(cC (qaa r16.1 0) 5).bind fun c22=>(idxA 6 (c4) i5).bind fun c23=>(qce r16.2 (c23) [Cell.str s17,Cell.int i18,Cell.int i19,Cell.int i20,c21,c22]).bind fun h24=>qbsb k m n (c3) (c4) (IntKind.i64.wrap (i5+1)) h24) none) (some ([.one (c4)],H6))
def fcv (k m:Nat)(c1:Cell):Option Res:=(lenC c1).bind fun n2=>if 0≤(n2:Int)∧(n2:Int)≤(n2:Int)∧(n2:Int)*88≤bound∧(n2:Int)≤bound then (qbsb k m m (c1) ((.vs 0 6 0 (n2:Int).toNat 0)) 0 [Entry.mk 6 (qcd (n2:Int).toNat [Cell.str (bs []),Cell.int 0,Cell.int 0,Cell.int 0,.lst true 1 [],.lst true 2 []]) 0 false]) else none
abbrev fcv_l0_B (k m:Nat):TB:=evC G_fcv qoe (evF G_fcv (k+1)) m (sub [1,1,0,1,2,3] qoe.code) none
abbrev fcv_l0_K (k m:Nat):TK:=qaz 0 (seqK (evC G_fcv qoe (evF G_fcv (k+1)) m (sub [1,1,1] qoe.code) none) (retK G_fcv qoe))
theorem fcv_l0_eq (k m:Nat):∀ (n:Nat) (c3 c4:Cell) (i5:Int) (H6:List Entry),qby (some [0,3,4]) (fcv_l0_B k m) (fcv_l0_K k m) n ⟨fT 23 0 [(0,.av (.one (c3))),(3,.av (.one (c4))),(4,.av (.one (Cell.int i5)))],fX 23 0 [],H6⟩=qbsb (k+1) m n c3 c4 i5 H6:=by
 intro n
 induction n with
 | zero=>intros;rfl
 | succ n ih=>intros;simp only[qbsb,← ih];kernel_rfl
theorem fcv_code (k m:Nat)(c1:Cell):evC G_fcv qoe (evF G_fcv (k+1)) m qoe.code none (retK G_fcv qoe) (enter qoe [.one (c1)] [])=fcv (k+1) m c1:=by
 simp only[fcv,← fcv_l0_eq k m]
 kernel_rfl
theorem qlub {c1:Cell}{r:Res}(k:Nat)(h:fcv (k+1) (k+1) c1=some r):qmm [.one (c1)] []=some r:=qap (k:=k+2) (Eq.trans (Eq.trans (by kernel_rfl) (fcv_code k (k+1) c1)) h)
def pl_fcc:List (Nat×Run):=[]
def G_fcc:Ctx:=ctx qbd qbc pl_fcc
def qyx:Run:=lim G_fcc qfrb
theorem ok_fcc:FnOk Tryz.prog OkT qfrb qyx:=qal (l:=pl_fcc) qae tyTab_ok qad okT .nil qfrb
def fcc (k m:Nat)(s1 s2 s3 s4:ByteArray):Option Res:=cond (!(s1.toList==s3.toList)) (some ([.one (Cell.bool false)],[])) (cond (!(s2.toList==s4.toList)) (some ([.one (Cell.bool false)],[])) (some ([.one (Cell.bool true)],[])))
theorem fcc_code (k m:Nat)(s1 s2 s3 s4:ByteArray):evC G_fcc qizb (evF G_fcc (k+1)) m qizb.code none (retK G_fcc qizb) (enter qizb [.agg [Cell.str s1,Cell.str s2],.agg [Cell.str s3,Cell.str s4]] [])=fcc (k+1) m s1 s2 s3 s4:=by
 kernel_rfl
theorem qnwb {s1 s2 s3 s4:ByteArray}{r:Res}(k:Nat)(h:fcc (k+1) (k+1) s1 s2 s3 s4=some r):qyx [.agg [Cell.str s1,Cell.str s2],.agg [Cell.str s3,Cell.str s4]] []=some r:=qap (k:=k+2) (Eq.trans (Eq.trans (by kernel_rfl) (fcc_code k (k+1) s1 s2 s3 s4)) h)
def pl_fcd:List (Nat×Run):=[(qfrb,qyx)]
def G_fcd:Ctx:=ctx qbd qbc pl_fcd
def qpj:Run:=lim G_fcd qvk
theorem ok_fcd:FnOk Tryz.prog OkT qvk qpj:=qal (l:=pl_fcd) qae tyTab_ok qad okT (.cons ok_fcc .nil) qvk
def qzs (k m:Nat):Nat→Cell→Cell→Int→Option Res | 0,_,_,_=>none | n+1,c5,c6,i7=>(lenC c5).bind fun n8=>cond (decide (i7 < (n8:Int))) ((idxA 2 (c5) i7).bind fun c9=>(deref [] (c9)).bind fun p10=>(cS p10.1 p10.2).bind fun s11=>(cS p10.1 (p10.2+1)).bind fun s12=>(idxA 2 (c6) i7).bind fun c13=>(deref [] (c13)).bind fun p14=>(cS p14.1 p14.2).bind fun s15=>(cS p14.1 (p14.2+1)).bind fun s16=>(qau qyx [.agg [Cell.str s11,Cell.str s12],.agg [Cell.str s15,Cell.str s16]] []).bind fun r17=>cond (qab rk_fcc r17) ((cB (qaa r17 0) 0).bind fun b18=>cond (!b18) (some ([.one (Cell.bool false)],[])) (qzs k m n (c5) (c6) (IntKind.i64.wrap (i7+1)))) none) (some ([.one (Cell.bool true)],[]))
def fcd (k m:Nat)(c1 c2:Cell):Option Res:=(lenC c1).bind fun n3=>(lenC c2).bind fun n4=>cond ((n3:Int) != (n4:Int)) (some ([.one (Cell.bool false)],[])) (qzs k m m (c1) (c2) 0)
abbrev fcd_l0_B (k m:Nat):TB:=evC G_fcd qnc (evF G_fcd (k+1)) m (sub [1,1,0,1,2,3] qnc.code) none
abbrev fcd_l0_K (k m:Nat):TK:=qaz 0 (seqK (evC G_fcd qnc (evF G_fcd (k+1)) m (sub [1,1,1] qnc.code) none) (retK G_fcd qnc))
theorem fcd_l0_eq (k m:Nat):∀ (n:Nat) (c5 c6:Cell) (i7:Int),qby (some [0,1,5]) (fcd_l0_B k m) (fcd_l0_K k m) n ⟨fT 27 0 [(0,.av (.one (c5))),(1,.av (.one (c6))),(5,.av (.one (Cell.int i7)))],fX 27 0 [],[]⟩=qzs (k+1) m n c5 c6 i7:=by
 intro n
 induction n with
 | zero=>intros;rfl
 | succ n ih=>intros;simp only[qzs,← ih];kernel_rfl
theorem fcd_code (k m:Nat)(c1 c2:Cell):evC G_fcd qnc (evF G_fcd (k+1)) m qnc.code none (retK G_fcd qnc) (enter qnc [.one (c1),.one (c2)] [])=fcd (k+1) m c1 c2:=by
 simp only[fcd,← fcd_l0_eq k m]
 kernel_rfl
theorem qnbb {c1 c2:Cell}{r:Res}(k:Nat)(h:fcd (k+1) (k+1) c1 c2=some r):qpj [.one (c1),.one (c2)] []=some r:=qap (k:=k+2) (Eq.trans (Eq.trans (by kernel_rfl) (fcd_code k (k+1) c1 c2)) h)
def pl_fcg:List (Nat×Run):=[]
def G_fcg:Ctx:=ctx qbd qbc pl_fcg
def qjd:Run:=lim G_fcg qqo
theorem ok_fcg:FnOk Tryz.prog OkT qqo qjd:=qal (l:=pl_fcg) qae tyTab_ok qad okT .nil qqo
def qzp (k m:Nat):Nat→Cell→Cell→Int→Option Res | 0,_,_,_=>none | n+1,c5,c6,i7=>(lenC c5).bind fun n8=>cond (decide (i7 < (n8:Int))) ((idxA 1 (c5) i7).bind fun c9=>(deref [] (c9)).bind fun p10=>(cS p10.1 p10.2).bind fun s11=>(idxA 1 (c6) i7).bind fun c12=>(deref [] (c12)).bind fun p13=>(cS p13.1 p13.2).bind fun s14=>cond (!(s11.toList==s14.toList)) (some ([.one (Cell.bool false)],[])) (qzp k m n (c5) (c6) (IntKind.i64.wrap (i7+1)))) (some ([.one (Cell.bool true)],[]))
def fcg (k m:Nat)(c1 c2:Cell):Option Res:=(lenC c1).bind fun n3=>(lenC c2).bind fun n4=>cond ((n3:Int) != (n4:Int)) (some ([.one (Cell.bool false)],[])) (qzp k m m (c1) (c2) 0)
abbrev fcg_l0_B (k m:Nat):TB:=evC G_fcg qmp (evF G_fcg (k+1)) m (sub [1,1,0,1,2,3] qmp.code) none
abbrev fcg_l0_K (k m:Nat):TK:=qaz 0 (seqK (evC G_fcg qmp (evF G_fcg (k+1)) m (sub [1,1,1] qmp.code) none) (retK G_fcg qmp))
theorem fcg_l0_eq (k m:Nat):∀ (n:Nat) (c5 c6:Cell) (i7:Int),qby (some [0,1,5]) (fcg_l0_B k m) (fcg_l0_K k m) n ⟨fT 26 0 [(0,.av (.one (c5))),(1,.av (.one (c6))),(5,.av (.one (Cell.int i7)))],fX 26 0 [],[]⟩=qzp (k+1) m n c5 c6 i7:=by
 intro n
 induction n with
 | zero=>intros;rfl
 | succ n ih=>intros;simp only[qzp,← ih];kernel_rfl
theorem fcg_code (k m:Nat)(c1 c2:Cell):evC G_fcg qmp (evF G_fcg (k+1)) m qmp.code none (retK G_fcg qmp) (enter qmp [.one (c1),.one (c2)] [])=fcg (k+1) m c1 c2:=by
 simp only[fcg,← fcg_l0_eq k m]
 kernel_rfl
theorem qnmb {c1 c2:Cell}{r:Res}(k:Nat)(h:fcg (k+1) (k+1) c1 c2=some r):qjd [.one (c1),.one (c2)] []=some r:=qap (k:=k+2) (Eq.trans (Eq.trans (by kernel_rfl) (fcg_code k (k+1) c1 c2)) h)
def pl_fch:List (Nat×Run):=[(qqo,qjd)]
def G_fch:Ctx:=ctx qbd qbc pl_fch
def qyy:Run:=lim G_fch qgbb
theorem ok_fch:FnOk Tryz.prog OkT qgbb qyy:=qal (l:=pl_fch) qae tyTab_ok qad okT (.cons ok_fcg .nil) qgbb
def fch (k m:Nat)(i1 i2 i3:Int)(c4:Cell)(i5 i6 i7:Int)(c8:Cell):Option Res:=cond (i1 != i5) (some ([.one (Cell.bool false)],[])) (cond (i2 != i6) (some ([.one (Cell.bool false)],[])) (cond (i3 != i7) (some ([.one (Cell.bool false)],[])) ((qau qjd [.one (c4),.one (c8)] []).bind fun r9=>cond (qab rk_fcg r9) ((cB (qaa r9 0) 0).bind fun b10=>cond (!b10) (some ([.one (Cell.bool false)],[])) (some ([.one (Cell.bool true)],[]))) none)))
theorem fch_code (k m:Nat)(i1 i2 i3:Int)(c4:Cell)(i5 i6 i7:Int)(c8:Cell):evC G_fch qjsb (evF G_fch (k+1)) m qjsb.code none (retK G_fch qjsb) (enter qjsb [.agg [Cell.int i1,Cell.int i2,Cell.int i3,c4],.agg [Cell.int i5,Cell.int i6,Cell.int i7,c8]] [])=fch (k+1) m i1 i2 i3 c4 i5 i6 i7 c8:=by
 kernel_rfl
theorem qlyb {i1 i2 i3:Int}{c4:Cell}{i5 i6 i7:Int}{c8:Cell}{r:Res}(k:Nat)(h:fch (k+1) (k+1) i1 i2 i3 c4 i5 i6 i7 c8=some r):qyy [.agg [Cell.int i1,Cell.int i2,Cell.int i3,c4],.agg [Cell.int i5,Cell.int i6,Cell.int i7,c8]] []=some r:=qap (k:=k+2) (Eq.trans (Eq.trans (by kernel_rfl) (fch_code k (k+1) i1 i2 i3 c4 i5 i6 i7 c8)) h)
def pl_fca:List (Nat×Run):=[(qvk,qpj),(qgbb,qyy)]
def G_fca:Ctx:=ctx qbd qbc pl_fca
def qts:Run:=lim G_fca qelb
theorem ok_fca:FnOk Tryz.prog OkT qelb qts:=qal (l:=pl_fca) qae tyTab_ok qad okT (.cons ok_fcd (.cons ok_fch .nil)) qelb
def fca (k m:Nat)(s1:ByteArray)(i2 i3 i4:Int)(c5 c6:Cell)(s7:ByteArray)(i8 i9 i10:Int)(c11 c12:Cell):Option Res:=cond (!(s1.toList==s7.toList)) (some ([.one (Cell.bool false)],[])) ((qau qyy [.agg [Cell.int i2,Cell.int i3,Cell.int i4,c5],.agg [Cell.int i8,Cell.int i9,Cell.int i10,c11]] []).bind fun r13=>cond (qab rk_fch r13) ((cB (qaa r13 0) 0).bind fun b14=>cond (!b14) (some ([.one (Cell.bool false)],[])) ((qau qpj [.one (c6),.one (c12)] []).bind fun r15=>cond (qab rk_fcd r15) ((cB (qaa r15 0) 0).bind fun b16=>cond (!b16) (some ([.one (Cell.bool false)],[])) (some ([.one (Cell.bool true)],[]))) none)) none)
theorem fca_code (k m:Nat)(s1:ByteArray)(i2 i3 i4:Int)(c5 c6:Cell)(s7:ByteArray)(i8 i9 i10:Int)(c11 c12:Cell):evC G_fca qjcb (evF G_fca (k+1)) m qjcb.code none (retK G_fca qjcb) (enter qjcb [.agg [Cell.str s1,Cell.int i2,Cell.int i3,Cell.int i4,c5,c6],.agg [Cell.str s7,Cell.int i8,Cell.int i9,Cell.int i10,c11,c12]] [])=fca (k+1) m s1 i2 i3 i4 c5 c6 s7 i8 i9 i10 c11 c12:=by
 kernel_rfl
theorem qrzb {s1:ByteArray}{i2 i3 i4:Int}{c5 c6:Cell}{s7:ByteArray}{i8 i9 i10:Int}{c11 c12:Cell}{r:Res}(k:Nat)(h:fca (k+1) (k+1) s1 i2 i3 i4 c5 c6 s7 i8 i9 i10 c11 c12=some r):qts [.agg [Cell.str s1,Cell.int i2,Cell.int i3,Cell.int i4,c5,c6],.agg [Cell.str s7,Cell.int i8,Cell.int i9,Cell.int i10,c11,c12]] []=some r:=qap (k:=k+2) (Eq.trans (Eq.trans (by kernel_rfl) (fca_code k (k+1) s1 i2 i3 i4 c5 c6 s7 i8 i9 i10 c11 c12)) h)
def pl_fcb:List (Nat×Run):=[(qelb,qts)]
def G_fcb:Ctx:=ctx qbd qbc pl_fcb
def qyo:Run:=lim G_fcb qeub
theorem ok_fcb:FnOk Tryz.prog OkT qeub qyo:=qal (l:=pl_fcb) qae tyTab_ok qad okT (.cons ok_fca .nil) qeub
def qazb (k m:Nat):Nat→Cell→Cell→Int→Option Res | 0,_,_,_=>none | n+1,c5,c6,i7=>(lenC c5).bind fun n8=>cond (decide (i7 < (n8:Int))) ((idxA 6 (c5) i7).bind fun c9=>(deref [] (c9)).bind fun p10=>(cS p10.1 p10.2).bind fun s11=>(cI .i64 p10.1 (p10.2+1)).bind fun i12=>(cI .i64 p10.1 ((p10.2+1)+1)).bind fun i13=>(cI .i64 p10.1 (((p10.2+1)+1)+1)).bind fun i14=>(cC p10.1 ((((p10.2+1)+1)+1)+1)).bind fun c15=>(cC p10.1 (((((p10.2+1)+1)+1)+1)+1)).bind fun c16=>(idxA 6 (c6) i7).bind fun c17=>(deref [] (c17)).bind fun p18=>(cS p18.1 p18.2).bind fun s19=>(cI .i64 p18.1 (p18.2+1)).bind fun i20=>(cI .i64 p18.1 ((p18.2+1)+1)).bind fun i21=>(cI .i64 p18.1 (((p18.2+1)+1)+1)).bind fun i22=>(cC p18.1 ((((p18.2+1)+1)+1)+1)).bind fun c23=>(cC p18.1 (((((p18.2+1)+1)+1)+1)+1)).bind fun c24=>(qau qts [.agg [Cell.str s11,Cell.int i12,Cell.int i13,Cell.int i14,c15,c16],.agg [Cell.str s19,Cell.int i20,Cell.int i21,Cell.int i22,c23,c24]] []).bind fun r25=>cond (qab rk_fca r25) ((cB (qaa r25 0) 0).bind fun b26=>cond (!b26) (some ([.one (Cell.bool false)],[])) (qazb k m n (c5) (c6) (IntKind.i64.wrap (i7+1)))) none) (some ([.one (Cell.bool true)],[]))
def fcb (k m:Nat)(c1 c2:Cell):Option Res:=(lenC c1).bind fun n3=>(lenC c2).bind fun n4=>cond ((n3:Int) != (n4:Int)) (some ([.one (Cell.bool false)],[])) (qazb k m m (c1) (c2) 0)
abbrev fcb_l0_B (k m:Nat):TB:=evC G_fcb qnv (evF G_fcb (k+1)) m (sub [1,1,0,1,2,3] qnv.code) none
abbrev fcb_l0_K (k m:Nat):TK:=qaz 0 (seqK (evC G_fcb qnv (evF G_fcb (k+1)) m (sub [1,1,1] qnv.code) none) (retK G_fcb qnv))
theorem fcb_l0_eq (k m:Nat):∀ (n:Nat) (c5 c6:Cell) (i7:Int),qby (some [0,1,5]) (fcb_l0_B k m) (fcb_l0_K k m) n ⟨fT 27 0 [(0,.av (.one (c5))),(1,.av (.one (c6))),(5,.av (.one (Cell.int i7)))],fX 27 0 [],[]⟩=qazb (k+1) m n c5 c6 i7:=by
 intro n
 induction n with
 | zero=>intros;rfl
 | succ n ih=>intros;simp only[qazb,← ih];kernel_rfl
theorem fcb_code (k m:Nat)(c1 c2:Cell):evC G_fcb qnv (evF G_fcb (k+1)) m qnv.code none (retK G_fcb qnv) (enter qnv [.one (c1),.one (c2)] [])=fcb (k+1) m c1 c2:=by
 simp only[fcb,← fcb_l0_eq k m]
 kernel_rfl
theorem qsnb {c1 c2:Cell}{r:Res}(k:Nat)(h:fcb (k+1) (k+1) c1 c2=some r):qyo [.one (c1),.one (c2)] []=some r:=qap (k:=k+2) (Eq.trans (Eq.trans (by kernel_rfl) (fcb_code k (k+1) c1 c2)) h)
def pl_fci:List (Nat×Run):=[(qqy,qil)]
def G_fci:Ctx:=ctx qbd qbc pl_fci
def que:Run:=lim G_fci qfab
theorem ok_fci:FnOk Tryz.prog OkT qfab que:=qal (l:=pl_fci) qae tyTab_ok qad okT (.cons ok_fcq .nil) qfab
def fci (k m:Nat)(s1:ByteArray)(c2:Cell)(i3:Int):Option Res:=cond (decide ((IntKind.i64.wrap (i3 - (s1.size:Int))) < 0)) (some ([.one (Cell.int (-1))],[])) ((qau qil [.one (c2),.one (Cell.int (IntKind.i64.wrap (i3 - (s1.size:Int))))] []).bind fun r4=>cond (qab rk_fcq r4) ((cI .i64 (qaa r4 0) 0).bind fun i5=>cond (decide (i5 < 0)) (some ([.one (Cell.int (-1))],[])) (some ([.one (Cell.int i5)],[]))) none)
theorem fci_code (k m:Nat)(s1:ByteArray)(c2:Cell)(i3:Int):evC G_fci qinb (evF G_fci (k+1)) m qinb.code none (retK G_fci qinb) (enter qinb [.agg [Cell.str s1,c2],.one (Cell.int i3)] [])=fci (k+1) m s1 c2 i3:=by
 kernel_rfl
theorem qpvb {s1:ByteArray}{c2:Cell}{i3:Int}{r:Res}(k:Nat)(h:fci (k+1) (k+1) s1 c2 i3=some r):que [.agg [Cell.str s1,c2],.one (Cell.int i3)] []=some r:=qap (k:=k+2) (Eq.trans (Eq.trans (by kernel_rfl) (fci_code k (k+1) s1 c2 i3)) h)
def pl_fcj:List (Nat×Run):=[(qfab,que)]
def G_fcj:Ctx:=ctx qbd qbc pl_fcj
def qvt:Run:=lim G_fcj qezb
theorem ok_fcj:FnOk Tryz.prog OkT qezb qvt:=qal (l:=pl_fcj) qae tyTab_ok qad okT (.cons ok_fci .nil) qezb
def qafb (k m:Nat):Nat→Cell→Int→Int→Option Res | 0,_,_,_=>none | n+1,c4,i5,i6=>(lenC c4).bind fun n7=>cond (decide (i6 < (n7:Int))) ((idxA 2 (c4) i6).bind fun c8=>(deref [] (c8)).bind fun p9=>(cS p9.1 p9.2).bind fun s10=>(cC p9.1 (p9.2+1)).bind fun c11=>(qau que [.agg [Cell.str s10,c11],.one (Cell.int i5)] []).bind fun r12=>cond (qab rk_fci r12) ((cI .i64 (qaa r12 0) 0).bind fun i13=>cond (decide (i13 < 0)) (some ([.one (Cell.int (-1))],[])) (qafb k m n (c4) i13 (IntKind.i64.wrap (i6+1)))) none) (some ([.one (Cell.int i5)],[]))
def fcj (k m:Nat)(c1:Cell)(i2:Int):Option Res:=(lenC c1).bind fun n3=>cond (decide ((IntKind.i64.wrap (i2 - (n3:Int))) < 0)) (some ([.one (Cell.int (-1))],[])) (qafb k m m (c1) (IntKind.i64.wrap (i2 - (n3:Int))) 0)
abbrev fcj_l0_B (k m:Nat):TB:=evC G_fcj qli (evF G_fcj (k+1)) m (sub [1,1,1,0,1,2,3] qli.code) none
abbrev fcj_l0_K (k m:Nat):TK:=qaz 0 (seqK (evC G_fcj qli (evF G_fcj (k+1)) m (sub [1,1,1,1] qli.code) none) (retK G_fcj qli))
theorem fcj_l0_eq (k m:Nat):∀ (n:Nat) (c4:Cell) (i5 i6:Int),qby (some [0,1,5]) (fcj_l0_B k m) (fcj_l0_K k m) n ⟨fT 27 0 [(0,.av (.one (c4))),(1,.av (.one (Cell.int i5))),(5,.av (.one (Cell.int i6)))],fX 27 0 [],[]⟩=qafb (k+1) m n c4 i5 i6:=by
 intro n
 induction n with
 | zero=>intros;rfl
 | succ n ih=>intros;simp only[qafb,← ih];kernel_rfl
theorem fcj_code (k m:Nat)(c1:Cell)(i2:Int):evC G_fcj qli (evF G_fcj (k+1)) m qli.code none (retK G_fcj qli) (enter qli [.one (c1),.one (Cell.int i2)] [])=fcj (k+1) m c1 i2:=by
 simp only[fcj,← fcj_l0_eq k m]
 kernel_rfl
theorem qnnb {c1:Cell}{i2:Int}{r:Res}(k:Nat)(h:fcj (k+1) (k+1) c1 i2=some r):qvt [.one (c1),.one (Cell.int i2)] []=some r:=qap (k:=k+2) (Eq.trans (Eq.trans (by kernel_rfl) (fcj_code k (k+1) c1 i2)) h)
def pl_fco:List (Nat×Run):=[(qxu,qoc),(qqy,qil),(qezb,qvt)]
def G_fco:Ctx:=ctx qbd qbc pl_fco
def qvp:Run:=lim G_fco qcmb
theorem ok_fco:FnOk Tryz.prog OkT qcmb qvp:=qal (l:=pl_fco) qae tyTab_ok qad okT (.cons ok_fcn (.cons ok_fcq (.cons ok_fcj .nil))) qcmb
def fco (k m:Nat)(s1:ByteArray)(c2 c3 c4:Cell)(i5:Int):Option Res:=cond (decide ((IntKind.i64.wrap (i5 - (s1.size:Int))) < 0)) (some ([.one (Cell.int (-1))],[])) ((qau qil [.one (c2),.one (Cell.int (IntKind.i64.wrap (i5 - (s1.size:Int))))] []).bind fun r6=>cond (qab rk_fcq r6) ((cI .i64 (qaa r6 0) 0).bind fun i7=>cond (decide (i7 < 0)) (some ([.one (Cell.int (-1))],[])) ((qau qoc [.one (c3),.one (Cell.int i7)] []).bind fun r8=>cond (qab rk_fcn r8) ((cI .i64 (qaa r8 0) 0).bind fun i9=>cond (decide (i9 < 0)) (some ([.one (Cell.int (-1))],[])) ((qau qvt [.one (c4),.one (Cell.int i9)] []).bind fun r10=>cond (qab rk_fcj r10) ((cI .i64 (qaa r10 0) 0).bind fun i11=>cond (decide (i11 < 0)) (some ([.one (Cell.int (-1))],[])) (some ([.one (Cell.int i11)],[]))) none)) none)) none)
theorem fco_code (k m:Nat)(s1:ByteArray)(c2 c3 c4:Cell)(i5:Int):evC G_fco qkab (evF G_fco (k+1)) m qkab.code none (retK G_fco qkab) (enter qkab [.agg [Cell.str s1,c2,c3,c4],.one (Cell.int i5)] [])=fco (k+1) m s1 c2 c3 c4 i5:=by
 kernel_rfl
theorem qqyb {s1:ByteArray}{c2 c3 c4:Cell}{i5:Int}{r:Res}(k:Nat)(h:fco (k+1) (k+1) s1 c2 c3 c4 i5=some r):qvp [.agg [Cell.str s1,c2,c3,c4],.one (Cell.int i5)] []=some r:=qap (k:=k+2) (Eq.trans (Eq.trans (by kernel_rfl) (fco_code k (k+1) s1 c2 c3 c4 i5)) h)
def pl_fcp:List (Nat×Run):=[(qcmb,qvp)]
def G_fcp:Ctx:=ctx qbd qbc pl_fcp
def qvz:Run:=lim G_fcp qhgb
theorem ok_fcp:FnOk Tryz.prog OkT qhgb qvz:=qal (l:=pl_fcp) qae tyTab_ok qad okT (.cons ok_fco .nil) qhgb
def qzi (k m:Nat):Nat→Cell→Int→Int→Option Res | 0,_,_,_=>none | n+1,c4,i5,i6=>(lenC c4).bind fun n7=>cond (decide (i6 < (n7:Int))) ((idxA 4 (c4) i6).bind fun c8=>(deref [] (c8)).bind fun p9=>(cS p9.1 p9.2).bind fun s10=>(cC p9.1 (p9.2+1)).bind fun c11=>(cC p9.1 ((p9.2+1)+1)).bind fun c12=>(cC p9.1 (((p9.2+1)+1)+1)).bind fun c13=>(qau qvp [.agg [Cell.str s10,c11,c12,c13],.one (Cell.int i5)] []).bind fun r14=>cond (qab rk_fco r14) ((cI .i64 (qaa r14 0) 0).bind fun i15=>cond (decide (i15 < 0)) (some ([.one (Cell.int (-1))],[])) (qzi k m n (c4) i15 (IntKind.i64.wrap (i6+1)))) none) (some ([.one (Cell.int i5)],[]))
def fcp (k m:Nat)(c1:Cell)(i2:Int):Option Res:=(lenC c1).bind fun n3=>cond (decide ((IntKind.i64.wrap (i2 - (n3:Int))) < 0)) (some ([.one (Cell.int (-1))],[])) (qzi k m m (c1) (IntKind.i64.wrap (i2 - (n3:Int))) 0)
abbrev fcp_l0_B (k m:Nat):TB:=evC G_fcp qpb (evF G_fcp (k+1)) m (sub [1,1,1,0,1,2,3] qpb.code) none
abbrev fcp_l0_K (k m:Nat):TK:=qaz 0 (seqK (evC G_fcp qpb (evF G_fcp (k+1)) m (sub [1,1,1,1] qpb.code) none) (retK G_fcp qpb))
theorem fcp_l0_eq (k m:Nat):∀ (n:Nat) (c4:Cell) (i5 i6:Int),qby (some [0,1,5]) (fcp_l0_B k m) (fcp_l0_K k m) n ⟨fT 27 0 [(0,.av (.one (c4))),(1,.av (.one (Cell.int i5))),(5,.av (.one (Cell.int i6)))],fX 27 0 [],[]⟩=qzi (k+1) m n c4 i5 i6:=by
 intro n
 induction n with
 | zero=>intros;rfl
 | succ n ih=>intros;simp only[qzi,← ih];kernel_rfl
theorem fcp_code (k m:Nat)(c1:Cell)(i2:Int):evC G_fcp qpb (evF G_fcp (k+1)) m qpb.code none (retK G_fcp qpb) (enter qpb [.one (c1),.one (Cell.int i2)] [])=fcp (k+1) m c1 i2:=by
 simp only[fcp,← fcp_l0_eq k m]
 kernel_rfl
theorem qmcb {c1:Cell}{i2:Int}{r:Res}(k:Nat)(h:fcp (k+1) (k+1) c1 i2=some r):qvz [.one (c1),.one (Cell.int i2)] []=some r:=qap (k:=k+2) (Eq.trans (Eq.trans (by kernel_rfl) (fcp_code k (k+1) c1 i2)) h)
def pl_fec:List (Nat×Run):=[]
def G_fec:Ctx:=ctx qbd qbc pl_fec
def qnl:Run:=lim G_fec qya
theorem ok_fec:FnOk Tryz.prog OkT qya qnl:=qal (l:=pl_fec) qae tyTab_ok qad okT .nil qya
def fec (k m:Nat)(i1 i2 i3:Int)(c4:Cell):Option Res:=(qbr [] 1 c4).bind fun r5=>(app [] 1 16 (.lst true 1 []) r5).bind fun p6=>some ([.agg [Cell.int i1,Cell.int i2,Cell.int i3,p6.1]],p6.2)
theorem fec_code (k m:Nat)(i1 i2 i3:Int)(c4:Cell):evC G_fec qifb (evF G_fec (k+1)) m qifb.code none (retK G_fec qifb) (enter qifb [.agg [Cell.int i1,Cell.int i2,Cell.int i3,c4]] [])=fec (k+1) m i1 i2 i3 c4:=by
 kernel_rfl
theorem qnob {i1 i2 i3:Int}{c4:Cell}{r:Res}(k:Nat)(h:fec (k+1) (k+1) i1 i2 i3 c4=some r):qnl [.agg [Cell.int i1,Cell.int i2,Cell.int i3,c4]] []=some r:=qap (k:=k+2) (Eq.trans (Eq.trans (by kernel_rfl) (fec_code k (k+1) i1 i2 i3 c4)) h)
def pl_fdq:List (Nat×Run):=[(qya,qnl)]
def G_fdq:Ctx:=ctx qbd qbc pl_fdq
def qwf:Run:=lim G_fdq qbzb
theorem ok_fdq:FnOk Tryz.prog OkT qbzb qwf:=qal (l:=pl_fdq) qae tyTab_ok qad okT (.cons ok_fec .nil) qbzb
def qyp (k m:Nat):Nat→Cell→ByteArray→Int→Option Res | 0,_,_,_=>none | n+1,c3,s4,i5=>(lenC c3).bind fun n6=>cond (decide (i5 < (n6:Int))) ((idxA 5 (c3) i5).bind fun c7=>(fldA c7 0).bind fun c8=>(deref [] (c8)).bind fun p9=>(cS p9.1 p9.2).bind fun s10=>cond (s10.toList==s4.toList) ((idxA 5 (c3) i5).bind fun c11=>(fldA c11 1).bind fun c12=>(deref [] (c12)).bind fun p13=>(cI .i64 p13.1 p13.2).bind fun i14=>(cI .i64 p13.1 (p13.2+1)).bind fun i15=>(cI .i64 p13.1 ((p13.2+1)+1)).bind fun i16=>(cC p13.1 (((p13.2+1)+1)+1)).bind fun c17=>(callL qnl [.agg [Cell.int i14,Cell.int i15,Cell.int i16,c17]] []).bind fun r18=>cond (qab rk_fec r18.1) ((cI .i64 (qaa r18.1 0) 0).bind fun i19=>(cI .i64 (qaa r18.1 0) 1).bind fun i20=>(cI .i64 (qaa r18.1 0) 2).bind fun i21=>(cC (qaa r18.1 0) 3).bind fun c22=>some ([.agg [Cell.int i19,Cell.int i20,Cell.int i21,c22],.one (Cell.bool true)],r18.2)) none) (qyp k m n (c3) s4 (IntKind.i64.wrap (i5+1)))) (some ([.agg [Cell.int 0,Cell.int 0,Cell.int 0,.lst true 1 []],.one (Cell.bool false)],[]))
def fdq (k m:Nat)(c1:Cell)(s2:ByteArray):Option Res:=qyp k m m (c1) s2 0
abbrev fdq_l0_B (k m:Nat):TB:=evC G_fdq qmf (evF G_fdq (k+1)) m (sub [1,0,1,2,3] qmf.code) none
abbrev fdq_l0_K (k m:Nat):TK:=qaz 0 (seqK (evC G_fdq qmf (evF G_fdq (k+1)) m (sub [1,1] qmf.code) none) (retK G_fdq qmf))
theorem fdq_l0_eq (k m:Nat):∀ (n:Nat) (c3:Cell) (s4:ByteArray) (i5:Int),qby (some [0,1,4,6]) (fdq_l0_B k m) (fdq_l0_K k m) n ⟨fT 27 0 [(0,.av (.one (c3))),(1,.av (.one (Cell.str s4))),(4,.loc 4 0),(6,.av (.one (Cell.int i5)))],fX 27 0 [(4,[Cell.int 0,Cell.int 0,Cell.int 0,.lst true 1 []])],[]⟩=qyp (k+1) m n c3 s4 i5:=by
 intro n
 induction n with
 | zero=>intros;rfl
 | succ n ih=>intros;simp only[qyp,← ih];kernel_rfl
theorem fdq_code (k m:Nat)(c1:Cell)(s2:ByteArray):evC G_fdq qmf (evF G_fdq (k+1)) m qmf.code none (retK G_fdq qmf) (enter qmf [.one (c1),.one (Cell.str s2)] [])=fdq (k+1) m c1 s2:=by
 simp only[fdq,← fdq_l0_eq k m]
 kernel_rfl
theorem qoob {c1:Cell}{s2:ByteArray}{r:Res}(k:Nat)(h:fdq (k+1) (k+1) c1 s2=some r):qwf [.one (c1),.one (Cell.str s2)] []=some r:=qap (k:=k+2) (Eq.trans (Eq.trans (by kernel_rfl) (fdq_code k (k+1) c1 s2)) h)
def pl_fdt:List (Nat×Run):=[]
def G_fdt:Ctx:=ctx qbd qbc pl_fdt
def qci:Run:=lim G_fdt qls
theorem ok_fdt:FnOk Tryz.prog OkT qls qci:=qal (l:=pl_fdt) qae tyTab_ok qad okT .nil qls
def qru (k m:Nat):Nat→ByteArray→Int→Cell→Int→Int→List Entry→Option Res | 0,_,_,_,_,_,_=>none | n+1,s3,i4,c5,i6,i7,H8=>cond (decide (i7≤(s3.size:Int))) (cond (i7==(s3.size:Int)) ((subS s3 i6 i7).bind fun s9=>(app H8 1 16 (c5) [[Cell.str s9]]).bind fun p10=>qru k m n s3 i4 (p10.1) (IntKind.i64.wrap (i7+1)) (IntKind.i64.wrap (i7+1)) p10.2) ((bytS s3 i7).bind fun i11=>cond (i11==i4) ((subS s3 i6 i7).bind fun s12=>(app H8 1 16 (c5) [[Cell.str s12]]).bind fun p13=>qru k m n s3 i4 (p13.1) (IntKind.i64.wrap (i7+1)) (IntKind.i64.wrap (i7+1)) p13.2) (qru k m n s3 i4 (c5) i6 (IntKind.i64.wrap (i7+1)) H8))) (some ([.one (c5)],H8))
def fdt (k m:Nat)(s1:ByteArray)(i2:Int):Option Res:=qru k m m s1 i2 (.lst true 1 []) 0 0 []
abbrev fdt_l0_B (k m:Nat):TB:=evC G_fdt qol (evF G_fdt (k+1)) m (sub [1,1,1,0,1,2,3] qol.code) none
abbrev fdt_l0_K (k m:Nat):TK:=qaz 0 (seqK (evC G_fdt qol (evF G_fdt (k+1)) m (sub [1,1,1,1] qol.code) none) (retK G_fdt qol))
theorem fdt_l0_eq (k m:Nat):∀ (n:Nat) (s3:ByteArray) (i4:Int) (c5:Cell) (i6 i7:Int) (H8:List Entry),qby (some [0,1,5,6,7]) (fdt_l0_B k m) (fdt_l0_K k m) n ⟨fT 36 0 [(0,.av (.one (Cell.str s3))),(1,.av (.one (.sc (.int .u8 i4)))),(5,.av (.one (c5))),(6,.av (.one (Cell.int i6))),(7,.av (.one (Cell.int i7)))],fX 36 0 [],H8⟩=qru (k+1) m n s3 i4 c5 i6 i7 H8:=by
 intro n
 induction n with
 | zero=>intros;rfl
 | succ n ih=>intros;simp only[qru,← ih];kernel_rfl
theorem fdt_code (k m:Nat)(s1:ByteArray)(i2:Int):evC G_fdt qol (evF G_fdt (k+1)) m qol.code none (retK G_fdt qol) (enter qol [.one (Cell.str s1),.one (.sc (.int .u8 i2))] [])=fdt (k+1) m s1 i2:=by
 simp only[fdt,← fdt_l0_eq k m]
 kernel_rfl
theorem qqpb {s1:ByteArray}{i2:Int}{r:Res}(k:Nat)(h:fdt (k+1) (k+1) s1 i2=some r):qci [.one (Cell.str s1),.one (.sc (.int .u8 i2))] []=some r:=qap (k:=k+2) (Eq.trans (Eq.trans (by kernel_rfl) (fdt_code k (k+1) s1 i2)) h)
end
end Go.Ev
