/- Conditions: none. -/
import Derived.Test.YtholafaogipaiaaGreatDoorSh2
import Derived.KernelRfl
namespace Go.Ev
open Go Go.Proofs
noncomputable section
set_option maxRecDepth 100000
set_option linter.unusedVariables false
set_option linter.unusedSimpArgs false
def pl_fdi:List (Nat×Run):=[(qyv,qkd),(qph,qdx),(qepb,qum)]
def qzf:Ctx:=ctx qbd qbc pl_fdi
def qqx:Run:=lim qzf qffb
theorem ok_fdi:FnOk Tryz.prog OkT qffb qqx:=qal (l:=pl_fdi) qae tyTab_ok qad okT (.cons ok_feh (.cons ok_fdv (.cons ok_fdg .nil))) qffb
def qkn (k m:Nat)(b_l0:Cell→Int→Int→Int→Int→Cell→Option Res):Nat→Cell→Int→Bool→Bool→Int→Int→Int→Int→Cell→Option Res | 0,_,_,_,_,_,_,_,_,_=>none | n+1,c16,i17,b18,b19,i20,i21,i22,i23,c24=>(idxA 1 (c16) i17).bind fun c25=>(deref [] (c25)).bind fun p26=>(cC p26.1 p26.2).bind fun c27=>(lenC c27).bind fun n28=>cond (decide (i20 < (n28:Int))) (cond b18 ((idxA 1 (c16) i17).bind fun c29=>(deref [] (c29)).bind fun p30=>(cC p30.1 p30.2).bind fun c31=>(idxA 5 (c31) i20).bind fun c32=>(deref [] (c32)).bind fun p33=>(cI .i64 p33.1 p33.2).bind fun i34=>(cI .i64 p33.1 (p33.2+1)).bind fun i35=>(cI .i64 p33.1 ((p33.2+1)+1)).bind fun i36=>(cI .i64 p33.1 (((p33.2+1)+1)+1)).bind fun i37=>(cC p33.1 ((((p33.2+1)+1)+1)+1)).bind fun c38=>(qau qum [.agg [Cell.int i34,Cell.int i35,Cell.int i36,Cell.int i37,c38],.agg [Cell.int i21,Cell.int i22,Cell.int i23,c24]] []).bind fun r39=>cond (qab rk_fdg r39) ((cB (qaa r39 0) 0).bind fun b40=>cond b19 (qkn k m b_l0 n (c16) i17 b40 true (IntKind.i64.wrap (i20+1)) i21 i22 i23 (c24)) ((idxA 1 (c16) i17).bind fun c41=>(deref [] (c41)).bind fun p42=>(cC p42.1 p42.2).bind fun c43=>(idxA 5 (c43) i20).bind fun c44=>(fldA c44 1).bind fun c45=>(fldA c45 3).bind fun c46=>(deref [] (c46)).bind fun p47=>(cC p47.1 p47.2).bind fun c48=>(lenC c48).bind fun n49=>cond (decide ((n49:Int) > 0)) ((idxA 1 (c16) i17).bind fun c50=>(deref [] (c50)).bind fun p51=>(cC p51.1 p51.2).bind fun c52=>(idxA 5 (c52) i20).bind fun c53=>(fldA c53 1).bind fun c54=>(deref [] (c54)).bind fun p55=>(cI .i64 p55.1 p55.2).bind fun i56=>(cI .i64 p55.1 (p55.2+1)).bind fun i57=>(cI .i64 p55.1 ((p55.2+1)+1)).bind fun i58=>(cC p55.1 (((p55.2+1)+1)+1)).bind fun c59=>(qau qkd [.agg [Cell.int i56,Cell.int i57,Cell.int i58,c59],.agg [Cell.int i21,Cell.int i22,Cell.int i23,c24]] []).bind fun r60=>cond (qab rk_feh r60) ((cB (qaa r60 0) 0).bind fun b61=>qkn k m b_l0 n (c16) i17 b40 b61 (IntKind.i64.wrap (i20+1)) i21 i22 i23 (c24)) none) (qkn k m b_l0 n (c16) i17 b40 false (IntKind.i64.wrap (i20+1)) i21 i22 i23 (c24)))) none) (cond b19 (qkn k m b_l0 n (c16) i17 false true (IntKind.i64.wrap (i20+1)) i21 i22 i23 (c24)) ((idxA 1 (c16) i17).bind fun c62=>(deref [] (c62)).bind fun p63=>(cC p63.1 p63.2).bind fun c64=>(idxA 5 (c64) i20).bind fun c65=>(fldA c65 1).bind fun c66=>(fldA c66 3).bind fun c67=>(deref [] (c67)).bind fun p68=>(cC p68.1 p68.2).bind fun c69=>(lenC c69).bind fun n70=>cond (decide ((n70:Int) > 0)) ((idxA 1 (c16) i17).bind fun c71=>(deref [] (c71)).bind fun p72=>(cC p72.1 p72.2).bind fun c73=>(idxA 5 (c73) i20).bind fun c74=>(fldA c74 1).bind fun c75=>(deref [] (c75)).bind fun p76=>(cI .i64 p76.1 p76.2).bind fun i77=>(cI .i64 p76.1 (p76.2+1)).bind fun i78=>(cI .i64 p76.1 ((p76.2+1)+1)).bind fun i79=>(cC p76.1 (((p76.2+1)+1)+1)).bind fun c80=>(qau qkd [.agg [Cell.int i77,Cell.int i78,Cell.int i79,c80],.agg [Cell.int i21,Cell.int i22,Cell.int i23,c24]] []).bind fun r81=>cond (qab rk_feh r81) ((cB (qaa r81 0) 0).bind fun b82=>qkn k m b_l0 n (c16) i17 false b82 (IntKind.i64.wrap (i20+1)) i21 i22 i23 (c24)) none) (qkn k m b_l0 n (c16) i17 false false (IntKind.i64.wrap (i20+1)) i21 i22 i23 (c24))))) (cond b18 (cond b19 (some ([.one (Cell.bool true)],[])) (b_l0 (c16) (IntKind.i64.wrap (i17+1)) i21 i22 i23 (c24))) (b_l0 (c16) (IntKind.i64.wrap (i17+1)) i21 i22 i23 (c24)))
def qtu (k m:Nat):Nat→Cell→Int→Int→Int→Int→Cell→Option Res | 0,_,_,_,_,_,_=>none | n+1,c6,i7,i8,i9,i10,c11=>(lenC c6).bind fun n12=>cond (decide (i7 < (n12:Int))) ((qau qdx [.agg [Cell.int i8,Cell.int i9,Cell.int i10,c11]] []).bind fun r13=>cond (qab qwk r13) ((cB (qaa r13 0) 0).bind fun b14=>(lenC c11).bind fun n15=>qkn k m (qtu k m n) m (c6) i7 b14 ((n15:Int)==0) 0 i8 i9 i10 (c11)) none) (some ([.one (Cell.bool false)],[]))
def fdi (k m:Nat)(c1:Cell)(i2 i3 i4:Int)(c5:Cell):Option Res:=qtu k m m (c1) 0 i2 i3 i4 (c5)
abbrev qbdb (k m:Nat):TB:=evC qzf qgk (evF qzf (k+1)) m (sub [1,0,1,2,3] qgk.code) none
abbrev qsm (k m:Nat):TK:=qaz 0 (seqK (evC qzf qgk (evF qzf (k+1)) m (sub [1,1] qgk.code) none) (retK qzf qgk))
abbrev fdi_l1_B (k m:Nat):TB:=evC qzf qgk (evF qzf (k+1)) m (sub [1,0,1,2,3,1,0,2,1,1,0,1,2,3] qgk.code) none
abbrev fdi_l1_K (k m:Nat)(n_l0:Nat):TK:=qaz 2 (seqK (evC qzf qgk (evF qzf (k+1)) m (sub [1,0,1,2,3,1,0,2,1,1,1] qgk.code) none) (qaz 1 (seqK (evC qzf qgk (evF qzf (k+1)) m (sub [1,0,1,2,3,1,1] qgk.code) none) (loopE (fun s=>qby (some [0,3,5]) (qbdb k m) (qsm k m) n_l0 (qlqb (some [0,3,5]) s)) (qsm k m)))))
theorem fdi_l1_eq (k m:Nat)(b_l0:Cell→Int→Int→Int→Int→Cell→Option Res)(n_l0:Nat)(h_l0:∀ (c6:Cell) (i7 i8 i9 i10:Int) (c11:Cell),qby (some [0,3,5]) (qbdb k m) (qsm k m) n_l0 ⟨fT 72 0 [(0,.av (.one (c6))),(3,.loc 3 0),(5,.av (.one (Cell.int i7)))],fX 72 0 [(3,[Cell.int i8,Cell.int i9,Cell.int i10,c11])],[]⟩=b_l0 c6 i7 i8 i9 i10 c11):∀ (n:Nat) (c16:Cell) (i17:Int) (b18 b19:Bool) (i20 i21 i22 i23:Int) (c24:Cell),qby (some [0,3,5,6,7,8]) (fdi_l1_B k m) (fdi_l1_K k m n_l0) n ⟨fT 72 0 [(0,.av (.one (c16))),(3,.loc 3 0),(5,.av (.one (Cell.int i17))),(6,.av (.one (Cell.bool b18))),(7,.av (.one (Cell.bool b19))),(8,.av (.one (Cell.int i20)))],fX 72 0 [(3,[Cell.int i21,Cell.int i22,Cell.int i23,c24])],[]⟩=qkn (k+1) m b_l0 n c16 i17 b18 b19 i20 i21 i22 i23 c24:=by
 intro n
 induction n with
 | zero=>intros;rfl
 | succ n ih=>intros;simp only[qkn,← h_l0,← ih];kernel_rfl
theorem fdi_l0_eq (k m:Nat):∀ (n:Nat) (c6:Cell) (i7 i8 i9 i10:Int) (c11:Cell),qby (some [0,3,5]) (qbdb k m) (qsm k m) n ⟨fT 72 0 [(0,.av (.one (c6))),(3,.loc 3 0),(5,.av (.one (Cell.int i7)))],fX 72 0 [(3,[Cell.int i8,Cell.int i9,Cell.int i10,c11])],[]⟩=qtu (k+1) m n c6 i7 i8 i9 i10 c11:=by
 intro n
 induction n with
 | zero=>intros;rfl
 | succ n ih=>intros;simp only[qtu,← fdi_l1_eq k m _ _ (ih)];kernel_rfl
theorem fdi_code (k m:Nat)(c1:Cell)(i2 i3 i4:Int)(c5:Cell):evC qzf qgk (evF qzf (k+1)) m qgk.code none (retK qzf qgk) (enter qgk [.one (c1),.agg [Cell.int i2,Cell.int i3,Cell.int i4,c5]] [])=fdi (k+1) m c1 i2 i3 i4 c5:=by
 simp only[fdi,← fdi_l0_eq k m]
 kernel_rfl
theorem qnjb {c1:Cell}{i2 i3 i4:Int}{c5:Cell}{r:Res}(k:Nat)(h:fdi (k+1) (k+1) c1 i2 i3 i4 c5=some r):qqx [.one (c1),.agg [Cell.int i2,Cell.int i3,Cell.int i4,c5]] []=some r:=qap (k:=k+2) (Eq.trans (Eq.trans (by kernel_rfl) (fdi_code k (k+1) c1 i2 i3 i4 c5)) h)
def pl_fdk:List (Nat×Run):=[(qhsb,qus),(qffb,qqx)]
def G_fdk:Ctx:=ctx qbd qbc pl_fdk
def qtz:Run:=lim G_fdk qecb
theorem ok_fdk:FnOk Tryz.prog OkT qecb qtz:=qal (l:=pl_fdk) qae tyTab_ok qad okT (.cons ok_fdo (.cons ok_fdi .nil)) qecb
def fdk (k m:Nat)(s1 s2:ByteArray)(i3 i4 i5:Int)(c6:Cell):Option Res:=(callL qus [.one (Cell.str s2)] []).bind fun r7=>cond (qab rk_fdo r7.1) ((cC (qaa r7.1 0) 0).bind fun c8=>(cB (qaa r7.1 1) 0).bind fun b9=>cond b9 ((qau qqx [.one (c8),.agg [Cell.int i3,Cell.int i4,Cell.int i5,c6]] r7.2).bind fun r10=>cond (qab rk_fdi r10) ((cB (qaa r10 0) 0).bind fun b11=>some ([.one (Cell.bool b11)],r7.2)) none) (some ([.one (Cell.bool false)],r7.2))) none
theorem fdk_code (k m:Nat)(s1 s2:ByteArray)(i3 i4 i5:Int)(c6:Cell):evC G_fdk qiyb (evF G_fdk (k+1)) m qiyb.code none (retK G_fdk qiyb) (enter qiyb [.agg [Cell.str s1,Cell.str s2],.agg [Cell.int i3,Cell.int i4,Cell.int i5,c6]] [])=fdk (k+1) m s1 s2 i3 i4 i5 c6:=by
 kernel_rfl
theorem qrwb {s1 s2:ByteArray}{i3 i4 i5:Int}{c6:Cell}{r:Res}(k:Nat)(h:fdk (k+1) (k+1) s1 s2 i3 i4 i5 c6=some r):qtz [.agg [Cell.str s1,Cell.str s2],.agg [Cell.int i3,Cell.int i4,Cell.int i5,c6]] []=some r:=qap (k:=k+2) (Eq.trans (Eq.trans (by kernel_rfl) (fdk_code k (k+1) s1 s2 i3 i4 i5 c6)) h)
def pl_fev:List (Nat×Run):=[(qbzb,qwf),(qecb,qtz)]
def G_fev:Ctx:=ctx qbd qbc pl_fev
def qrq:Run:=lim G_fev qhpb
theorem ok_fev:FnOk Tryz.prog OkT qhpb qrq:=qal (l:=pl_fev) qae tyTab_ok qad okT (.cons ok_fdq (.cons ok_fdk .nil)) qhpb
def qbnb (k m:Nat):Nat→Cell→Cell→Int→List Entry→Option Res | 0,_,_,_,_=>none | n+1,c3,c4,i5,H6=>(lenC c3).bind fun n7=>cond (decide (i5 < (n7:Int))) ((idxA 2 (c3) i5).bind fun c8=>(fldA c8 0).bind fun c9=>(deref H6 (c9)).bind fun p10=>(cS p10.1 p10.2).bind fun s11=>(callL qwf [.one (c4),.one (Cell.str s11)] H6).bind fun r12=>cond (qab rk_fdq r12.1) ((cI .i64 (qaa r12.1 0) 0).bind fun i13=>(cI .i64 (qaa r12.1 0) 1).bind fun i14=>(cI .i64 (qaa r12.1 0) 2).bind fun i15=>(cC (qaa r12.1 0) 3).bind fun c16=>(cB (qaa r12.1 1) 0).bind fun b17=>cond (!b17) (some ([.one (Cell.bool false)],r12.2)) ((idxA 2 (c3) i5).bind fun c18=>(deref r12.2 (c18)).bind fun p19=>(cS p19.1 p19.2).bind fun s20=>(cS p19.1 (p19.2+1)).bind fun s21=>(qau qtz [.agg [Cell.str s20,Cell.str s21],.agg [Cell.int i13,Cell.int i14,Cell.int i15,c16]] r12.2).bind fun r22=>cond (qab rk_fdk r22) ((cB (qaa r22 0) 0).bind fun b23=>cond (!b23) (some ([.one (Cell.bool false)],r12.2)) (qbnb k m n (c3) (c4) (IntKind.i64.wrap (i5+1)) r12.2)) none)) none) (some ([.one (Cell.bool true)],H6))
def fev (k m:Nat)(c1 c2:Cell):Option Res:=qbnb k m m (c1) (c2) 0 []
abbrev fev_l0_B (k m:Nat):TB:=evC G_fev qlj (evF G_fev (k+1)) m (sub [1,0,1,2,3] qlj.code) none
abbrev fev_l0_K (k m:Nat):TK:=qaz 0 (seqK (evC G_fev qlj (evF G_fev (k+1)) m (sub [1,1] qlj.code) none) (retK G_fev qlj))
theorem fev_l0_eq (k m:Nat):∀ (n:Nat) (c3 c4:Cell) (i5:Int) (H6:List Entry),qby (some [0,1,5]) (fev_l0_B k m) (fev_l0_K k m) n ⟨fT 35 0 [(0,.av (.one (c3))),(1,.av (.one (c4))),(5,.av (.one (Cell.int i5)))],fX 35 0 [],H6⟩=qbnb (k+1) m n c3 c4 i5 H6:=by
 intro n
 induction n with
 | zero=>intros;rfl
 | succ n ih=>intros;simp only[qbnb,← ih];kernel_rfl
theorem fev_code (k m:Nat)(c1 c2:Cell):evC G_fev qlj (evF G_fev (k+1)) m qlj.code none (retK G_fev qlj) (enter qlj [.one (c1),.one (c2)] [])=fev (k+1) m c1 c2:=by
 simp only[fev,← fev_l0_eq k m]
 kernel_rfl
theorem qnzb {c1 c2:Cell}{r:Res}(k:Nat)(h:fev (k+1) (k+1) c1 c2=some r):qrq [.one (c1),.one (c2)] []=some r:=qap (k:=k+2) (Eq.trans (Eq.trans (by kernel_rfl) (fev_code k (k+1) c1 c2)) h)
def pl_feu:List (Nat×Run):=[(qya,qnl)]
def G_feu:Ctx:=ctx qbd qbc pl_feu
def qwq:Run:=lim G_feu qglb
theorem ok_feu:FnOk Tryz.prog OkT qglb qwq:=qal (l:=pl_feu) qae tyTab_ok qad okT (.cons ok_fec .nil) qglb
def feu (k m:Nat)(s1:ByteArray)(i2 i3 i4:Int)(c5 c6:Cell):Option Res:=(callL qnl [.agg [Cell.int i2,Cell.int i3,Cell.int i4,c5]] []).bind fun r7=>cond (qab rk_fec r7.1) ((cI .i64 (qaa r7.1 0) 0).bind fun i8=>(cI .i64 (qaa r7.1 0) 1).bind fun i9=>(cI .i64 (qaa r7.1 0) 2).bind fun i10=>(cC (qaa r7.1 0) 3).bind fun c11=>qka r7.2 ((qbr [] 2 c6).bind fun r12=>(app [] 2 32 (.lst true 2 []) r12).bind fun p13=>some ([.agg [Cell.str s1,Cell.int i8,Cell.int i9,Cell.int i10,c11,p13.1]],p13.2))) none
theorem feu_code (k m:Nat)(s1:ByteArray)(i2 i3 i4:Int)(c5 c6:Cell):evC G_feu qldb (evF G_feu (k+1)) m qldb.code none (retK G_feu qldb) (enter qldb [.agg [Cell.str s1,Cell.int i2,Cell.int i3,Cell.int i4,c5,c6]] [])=feu (k+1) m s1 i2 i3 i4 c5 c6:=by
 kernel_rfl
theorem qpib {s1:ByteArray}{i2 i3 i4:Int}{c5 c6:Cell}{r:Res}(k:Nat)(h:feu (k+1) (k+1) s1 i2 i3 i4 c5 c6=some r):qwq [.agg [Cell.str s1,Cell.int i2,Cell.int i3,Cell.int i4,c5,c6]] []=some r:=qap (k:=k+2) (Eq.trans (Eq.trans (by kernel_rfl) (feu_code k (k+1) s1 i2 i3 i4 c5 c6)) h)
def pl_fdh:List (Nat×Run):=[(qty,qpn),(qglb,qwq)]
def G_fdh:Ctx:=ctx qbd qbc pl_fdh
def qvw:Run:=lim G_fdh qcqb
theorem ok_fdh:FnOk Tryz.prog OkT qcqb qvw:=qal (l:=pl_fdh) qae tyTab_ok qad okT (.cons ok_fdr (.cons ok_feu .nil)) qcqb
def qtx (k m:Nat):Nat→Cell→ByteArray→Int→Int→Int→Int→Cell→Option Res | 0,_,_,_,_,_,_,_=>none | n+1,c7,s8,i9,i10,i11,i12,c13=>(lenC c7).bind fun n14=>cond (decide (i9 < (n14:Int))) ((idxA 6 (c7) i9).bind fun c15=>(fldA c15 0).bind fun c16=>(deref [] (c16)).bind fun p17=>(cS p17.1 p17.2).bind fun s18=>cond (s18.toList==s8.toList) ((idxA 6 (c7) i9).bind fun c19=>(fldA c19 1).bind fun c20=>(deref [] (c20)).bind fun p21=>(cI .i64 p21.1 p21.2).bind fun i22=>(cI .i64 p21.1 (p21.2+1)).bind fun i23=>(cI .i64 p21.1 ((p21.2+1)+1)).bind fun i24=>(cC p21.1 (((p21.2+1)+1)+1)).bind fun c25=>(qau qpn [.agg [Cell.int i22,Cell.int i23,Cell.int i24,c25],.agg [Cell.int i10,Cell.int i11,Cell.int i12,c13]] []).bind fun r26=>cond (qab rk_fdr r26) ((cB (qaa r26 0) 0).bind fun b27=>cond b27 ((idxA 6 (c7) i9).bind fun c28=>(deref [] (c28)).bind fun p29=>(cS p29.1 p29.2).bind fun s30=>(cI .i64 p29.1 (p29.2+1)).bind fun i31=>(cI .i64 p29.1 ((p29.2+1)+1)).bind fun i32=>(cI .i64 p29.1 (((p29.2+1)+1)+1)).bind fun i33=>(cC p29.1 ((((p29.2+1)+1)+1)+1)).bind fun c34=>(cC p29.1 (((((p29.2+1)+1)+1)+1)+1)).bind fun c35=>(callL qwq [.agg [Cell.str s30,Cell.int i31,Cell.int i32,Cell.int i33,c34,c35]] []).bind fun r36=>cond (qab rk_feu r36.1) ((cS (qaa r36.1 0) 0).bind fun s37=>(cI .i64 (qaa r36.1 0) 1).bind fun i38=>(cI .i64 (qaa r36.1 0) 2).bind fun i39=>(cI .i64 (qaa r36.1 0) 3).bind fun i40=>(cC (qaa r36.1 0) 4).bind fun c41=>(cC (qaa r36.1 0) 5).bind fun c42=>some ([.agg [Cell.str s37,Cell.int i38,Cell.int i39,Cell.int i40,c41,c42],.one (Cell.bool true)],r36.2)) none) (qtx k m n (c7) s8 (IntKind.i64.wrap (i9+1)) i10 i11 i12 (c13))) none) (qtx k m n (c7) s8 (IntKind.i64.wrap (i9+1)) i10 i11 i12 (c13))) (some ([.agg [Cell.str (bs []),Cell.int 0,Cell.int 0,Cell.int 0,.lst true 1 [],.lst true 2 []],.one (Cell.bool false)],[]))
def fdh (k m:Nat)(c1:Cell)(s2:ByteArray)(i3 i4 i5:Int)(c6:Cell):Option Res:=qtx k m m (c1) s2 0 i3 i4 i5 (c6)
abbrev fdh_l0_B (k m:Nat):TB:=evC G_fdh qnj (evF G_fdh (k+1)) m (sub [1,0,1,2,3] qnj.code) none
abbrev fdh_l0_K (k m:Nat):TK:=qaz 0 (seqK (evC G_fdh qnj (evF G_fdh (k+1)) m (sub [1,1] qnj.code) none) (retK G_fdh qnj))
theorem fdh_l0_eq (k m:Nat):∀ (n:Nat) (c7:Cell) (s8:ByteArray) (i9 i10 i11 i12:Int) (c13:Cell),qby (some [0,1,5,6,8]) (fdh_l0_B k m) (fdh_l0_K k m) n ⟨fT 37 0 [(0,.av (.one (c7))),(1,.av (.one (Cell.str s8))),(5,.loc 5 0),(6,.loc 6 0),(8,.av (.one (Cell.int i9)))],fX 37 0 [(5,[Cell.int i10,Cell.int i11,Cell.int i12,c13]),(6,[Cell.str (bs []),Cell.int 0,Cell.int 0,Cell.int 0,.lst true 1 [],.lst true 2 []])],[]⟩=qtx (k+1) m n c7 s8 i9 i10 i11 i12 c13:=by
 intro n
 induction n with
 | zero=>intros;rfl
 | succ n ih=>intros;simp only[qtx,← ih];kernel_rfl
theorem fdh_code (k m:Nat)(c1:Cell)(s2:ByteArray)(i3 i4 i5:Int)(c6:Cell):evC G_fdh qnj (evF G_fdh (k+1)) m qnj.code none (retK G_fdh qnj) (enter qnj [.one (c1),.one (Cell.str s2),.agg [Cell.int i3,Cell.int i4,Cell.int i5,c6]] [])=fdh (k+1) m c1 s2 i3 i4 i5 c6:=by
 simp only[fdh,← fdh_l0_eq k m]
 kernel_rfl
theorem qndb {c1:Cell}{s2:ByteArray}{i3 i4 i5:Int}{c6:Cell}{r:Res}(k:Nat)(h:fdh (k+1) (k+1) c1 s2 i3 i4 i5 c6=some r):qvw [.one (c1),.one (Cell.str s2),.agg [Cell.int i3,Cell.int i4,Cell.int i5,c6]] []=some r:=qap (k:=k+2) (Eq.trans (Eq.trans (by kernel_rfl) (fdh_code k (k+1) c1 s2 i3 i4 i5 c6)) h)
def pl_fds:List (Nat×Run):=[(qhpb,qrq),(qcqb,qvw)]
def qlcb:Ctx:=ctx qbd qbc pl_fds
def qxv:Run:=lim qlcb qdhb
theorem ok_fds:FnOk Tryz.prog OkT qdhb qxv:=qal (l:=pl_fds) qae tyTab_ok qad okT (.cons ok_fev (.cons ok_fdh .nil)) qdhb
def qbkb (k m:Nat)(b_l0:Cell→Cell→Int→List Entry→Option Res):Nat→Cell→Cell→Int→Int→List Entry→Option Res | 0,_,_,_,_,_=>none | n+1,c32,c33,i34,i35,H36=>cond (decide (i35 < i34)) ((idxA 5 (c33) i35).bind fun c37=>(fldA c37 0).bind fun c38=>(deref H36 (c38)).bind fun p39=>(cS p39.1 p39.2).bind fun s40=>(idxA 5 (c33) i34).bind fun c41=>(fldA c41 0).bind fun c42=>(deref H36 (c42)).bind fun p43=>(cS p43.1 p43.2).bind fun s44=>cond (s40.toList==s44.toList) (some ([.one (Cell.bool false)],H36)) (qbkb k m b_l0 n (c32) (c33) i34 (IntKind.i64.wrap (i35+1)) H36)) (b_l0 (c32) (c33) (IntKind.i64.wrap (i34+1)) H36)
def qxz (k m:Nat):Nat→Cell→Cell→Int→List Entry→Option Res | 0,_,_,_,_=>none | n+1,c6,c7,i8,H9=>(lenC c7).bind fun n10=>cond (decide (i8 < (n10:Int))) ((idxA 5 (c7) i8).bind fun c11=>(fldA c11 0).bind fun c12=>(deref H9 (c12)).bind fun p13=>(cS p13.1 p13.2).bind fun s14=>(idxA 5 (c7) i8).bind fun c15=>(fldA c15 1).bind fun c16=>(deref H9 (c16)).bind fun p17=>(cI .i64 p17.1 p17.2).bind fun i18=>(cI .i64 p17.1 (p17.2+1)).bind fun i19=>(cI .i64 p17.1 ((p17.2+1)+1)).bind fun i20=>(cC p17.1 (((p17.2+1)+1)+1)).bind fun c21=>(callL qvw [.one (c6),.one (Cell.str s14),.agg [Cell.int i18,Cell.int i19,Cell.int i20,c21]] H9).bind fun r22=>cond (qab rk_fdh r22.1) ((cS (qaa r22.1 0) 0).bind fun s23=>(cI .i64 (qaa r22.1 0) 1).bind fun i24=>(cI .i64 (qaa r22.1 0) 2).bind fun i25=>(cI .i64 (qaa r22.1 0) 3).bind fun i26=>(cC (qaa r22.1 0) 4).bind fun c27=>(cC (qaa r22.1 0) 5).bind fun c28=>(cB (qaa r22.1 1) 0).bind fun b29=>cond (!b29) (some ([.one (Cell.bool false)],r22.2)) ((qau qrq [.one (c28),.one (c7)] r22.2).bind fun r30=>cond (qab rk_fev r30) ((cB (qaa r30 0) 0).bind fun b31=>cond (!b31) (some ([.one (Cell.bool false)],r22.2)) (qbkb k m (qxz k m n) m (c6) (c7) i8 0 r22.2)) none)) none) (some ([.one (Cell.bool true)],H9))
def fds (k m:Nat)(c1 c2 c3:Cell):Option Res:=(qau qrq [.one (c2),.one (c3)] []).bind fun r4=>cond (qab rk_fev r4) ((cB (qaa r4 0) 0).bind fun b5=>cond (!b5) (some ([.one (Cell.bool false)],[])) (qxz k m m (c1) (c3) 0 [])) none
abbrev qzm (k m:Nat):TB:=evC qlcb qhp (evF qlcb (k+1)) m (sub [1,1,0,1,2,3] qhp.code) none
abbrev qsz (k m:Nat):TK:=qaz 0 (seqK (evC qlcb qhp (evF qlcb (k+1)) m (sub [1,1,1] qhp.code) none) (retK qlcb qhp))
abbrev fds_l1_B (k m:Nat):TB:=evC qlcb qhp (evF qlcb (k+1)) m (sub [1,1,0,1,2,3,1,0,2,1,1,1,2,3] qhp.code) none
abbrev fds_l1_K (k m:Nat)(n_l0:Nat):TK:=qaz 2 (qaz 1 (seqK (evC qlcb qhp (evF qlcb (k+1)) m (sub [1,1,0,1,2,3,1,1] qhp.code) none) (loopE (fun s=>qby (some [0,2,7]) (qzm k m) (qsz k m) n_l0 (qlqb (some [0,2,7]) s)) (qsz k m))))
theorem fds_l1_eq (k m:Nat)(b_l0:Cell→Cell→Int→List Entry→Option Res)(n_l0:Nat)(h_l0:∀ (c6 c7:Cell) (i8:Int) (H9:List Entry),qby (some [0,2,7]) (qzm k m) (qsz k m) n_l0 ⟨fT 61 0 [(0,.av (.one (c6))),(2,.av (.one (c7))),(7,.av (.one (Cell.int i8)))],fX 61 0 [],H9⟩=b_l0 c6 c7 i8 H9):∀ (n:Nat) (c32 c33:Cell) (i34 i35:Int) (H36:List Entry),qby (some [0,2,7,10]) (fds_l1_B k m) (fds_l1_K k m n_l0) n ⟨fT 61 0 [(0,.av (.one (c32))),(2,.av (.one (c33))),(7,.av (.one (Cell.int i34))),(10,.av (.one (Cell.int i35)))],fX 61 0 [],H36⟩=qbkb (k+1) m b_l0 n c32 c33 i34 i35 H36:=by
 intro n
 induction n with
 | zero=>intros;rfl
 | succ n ih=>intros;simp only[qbkb,← h_l0,← ih];kernel_rfl
theorem fds_l0_eq (k m:Nat):∀ (n:Nat) (c6 c7:Cell) (i8:Int) (H9:List Entry),qby (some [0,2,7]) (qzm k m) (qsz k m) n ⟨fT 61 0 [(0,.av (.one (c6))),(2,.av (.one (c7))),(7,.av (.one (Cell.int i8)))],fX 61 0 [],H9⟩=qxz (k+1) m n c6 c7 i8 H9:=by
 intro n
 induction n with
 | zero=>intros;rfl
 | succ n ih=>intros;simp only[qxz,← fds_l1_eq k m _ _ (ih)];kernel_rfl
theorem fds_code (k m:Nat)(c1 c2 c3:Cell):evC qlcb qhp (evF qlcb (k+1)) m qhp.code none (retK qlcb qhp) (enter qhp [.one (c1),.one (c2),.one (c3)] [])=fds (k+1) m c1 c2 c3:=by
 simp only[fds,← fds_l0_eq k m]
 kernel_rfl
theorem qmjb {c1 c2 c3:Cell}{r:Res}(k:Nat)(h:fds (k+1) (k+1) c1 c2 c3=some r):qxv [.one (c1),.one (c2),.one (c3)] []=some r:=qap (k:=k+2) (Eq.trans (Eq.trans (by kernel_rfl) (fds_code k (k+1) c1 c2 c3)) h)
def pl_fdw:List (Nat×Run):=[]
def G_fdw:Ctx:=ctx qbd qbc pl_fdw
def qwe:Run:=lim G_fdw qcsb
theorem ok_fdw:FnOk Tryz.prog OkT qcsb qwe:=qal (l:=pl_fdw) qae tyTab_ok qad okT .nil qcsb
def qatb (k m:Nat):Nat→Cell→Cell→Int→List Entry→Option Res | 0,_,_,_,_=>none | n+1,c2,c3,i4,H5=>(lenC c2).bind fun n6=>cond (decide (i4 < (n6:Int))) ((idxA 4 (c2) i4).bind fun c7=>(fldA c7 2).bind fun c8=>(deref H5 (c8)).bind fun p9=>(cC p9.1 p9.2).bind fun c10=>(qbr H5 2 c10).bind fun r11=>(app H5 2 32 (c3) r11).bind fun p12=>qatb k m n (c2) (p12.1) (IntKind.i64.wrap (i4+1)) p12.2) (some ([.one (c3)],H5))
def fdw (k m:Nat)(c1:Cell):Option Res:=qatb k m m (c1) (.lst true 2 []) 0 []
abbrev fdw_l0_B (k m:Nat):TB:=evC G_fdw qne (evF G_fdw (k+1)) m (sub [1,1,0,1,2,3] qne.code) none
abbrev fdw_l0_K (k m:Nat):TK:=qaz 0 (seqK (evC G_fdw qne (evF G_fdw (k+1)) m (sub [1,1,1] qne.code) none) (retK G_fdw qne))
theorem fdw_l0_eq (k m:Nat):∀ (n:Nat) (c2 c3:Cell) (i4:Int) (H5:List Entry),qby (some [0,3,4]) (fdw_l0_B k m) (fdw_l0_K k m) n ⟨fT 20 0 [(0,.av (.one (c2))),(3,.av (.one (c3))),(4,.av (.one (Cell.int i4)))],fX 20 0 [],H5⟩=qatb (k+1) m n c2 c3 i4 H5:=by
 intro n
 induction n with
 | zero=>intros;rfl
 | succ n ih=>intros;simp only[qatb,← ih];kernel_rfl
theorem fdw_code (k m:Nat)(c1:Cell):evC G_fdw qne (evF G_fdw (k+1)) m qne.code none (retK G_fdw qne) (enter qne [.one (c1)] [])=fdw (k+1) m c1:=by
 simp only[fdw,← fdw_l0_eq k m]
 kernel_rfl
theorem qqob {c1:Cell}{r:Res}(k:Nat)(h:fdw (k+1) (k+1) c1=some r):qwe [.one (c1)] []=some r:=qap (k:=k+2) (Eq.trans (Eq.trans (by kernel_rfl) (fdw_code k (k+1) c1)) h)
def pl_fdl:List (Nat×Run):=[(qyl,qnf),(qmu,qfo),(qhh,qcj)]
def G_fdl:Ctx:=ctx qbd qbc pl_fdl
def qxd:Run:=lim G_fdl qcjb
theorem ok_fdl:FnOk Tryz.prog OkT qcjb qxd:=qal (l:=pl_fdl) qae tyTab_ok qad okT (.cons ok_fea (.cons ok_fdy (.cons qabb .nil))) qcjb
def qsu (k m:Nat):Nat→ByteArray→Int→Option Res | 0,_,_=>none | n+1,s2,i3=>cond (decide (i3 < (s2.size:Int))) ((bytS s2 i3).bind fun i4=>(qau qnf [.one (.sc (.int .u8 i4))] []).bind fun r5=>cond (qab rk_fea r5) ((cB (qaa r5 0) 0).bind fun b6=>cond (!b6) (cond (i3==0) (some ([.one (Cell.bool false)],[])) ((bytS s2 i3).bind fun i7=>(qau qfo [.one (.sc (.int .u8 i7))] []).bind fun r8=>cond (qab qnqb r8) ((cB (qaa r8 0) 0).bind fun b9=>cond (!b9) ((bytS s2 i3).bind fun i10=>cond (i10 != 45) (some ([.one (Cell.bool false)],[])) (qsu k m n s2 (IntKind.i64.wrap (i3+1)))) (qsu k m n s2 (IntKind.i64.wrap (i3+1)))) none)) (qsu k m n s2 (IntKind.i64.wrap (i3+1)))) none) ((qau qcj [.one (Cell.int (s2.size:Int)),.one (Cell.int 1),.one (Cell.int 10)] []).bind fun r11=>cond (qab qjp r11) ((cB (qaa r11 0) 0).bind fun b12=>some ([.one (Cell.bool b12)],[])) none)
def fdl (k m:Nat)(s1:ByteArray):Option Res:=qsu k m m s1 0
abbrev fdl_l0_B (k m:Nat):TB:=evC G_fdl qlx (evF G_fdl (k+1)) m (sub [1,0,1,2,3] qlx.code) none
abbrev fdl_l0_K (k m:Nat):TK:=qaz 0 (seqK (evC G_fdl qlx (evF G_fdl (k+1)) m (sub [1,1] qlx.code) none) (retK G_fdl qlx))
theorem fdl_l0_eq (k m:Nat):∀ (n:Nat) (s2:ByteArray) (i3:Int),qby (some [0,3]) (fdl_l0_B k m) (fdl_l0_K k m) n ⟨fT 35 0 [(0,.av (.one (Cell.str s2))),(3,.av (.one (Cell.int i3)))],fX 35 0 [],[]⟩=qsu (k+1) m n s2 i3:=by
 intro n
 induction n with
 | zero=>intros;rfl
 | succ n ih=>intros;simp only[qsu,← ih];kernel_rfl
theorem fdl_code (k m:Nat)(s1:ByteArray):evC G_fdl qlx (evF G_fdl (k+1)) m qlx.code none (retK G_fdl qlx) (enter qlx [.one (Cell.str s1)] [])=fdl (k+1) m s1:=by
 simp only[fdl,← fdl_l0_eq k m]
 kernel_rfl
theorem qrjb {s1:ByteArray}{r:Res}(k:Nat)(h:fdl (k+1) (k+1) s1=some r):qxd [.one (Cell.str s1)] []=some r:=qap (k:=k+2) (Eq.trans (Eq.trans (by kernel_rfl) (fdl_code k (k+1) s1)) h)
def pl_fdx:List (Nat×Run):=[(qcjb,qxd),(qph,qdx)]
def G_fdx:Ctx:=ctx qbd qbc pl_fdx
def qqs:Run:=lim G_fdx qhjb
theorem ok_fdx:FnOk Tryz.prog OkT qhjb qqs:=qal (l:=pl_fdx) qae tyTab_ok qad okT (.cons ok_fdl (.cons ok_fdv .nil)) qhjb
def qvu (k m:Nat):Nat→Cell→Int→Option Res | 0,_,_=>none | n+1,c2,i3=>(lenC c2).bind fun n4=>cond (decide (i3 < (n4:Int))) ((idxA 5 (c2) i3).bind fun c5=>(fldA c5 0).bind fun c6=>(deref [] (c6)).bind fun p7=>(cS p7.1 p7.2).bind fun s8=>(qau qxd [.one (Cell.str s8)] []).bind fun r9=>cond (qab rk_fdl r9) ((cB (qaa r9 0) 0).bind fun b10=>cond (!b10) (some ([.one (Cell.bool false)],[])) ((idxA 5 (c2) i3).bind fun c11=>(fldA c11 1).bind fun c12=>(deref [] (c12)).bind fun p13=>(cI .i64 p13.1 p13.2).bind fun i14=>(cI .i64 p13.1 (p13.2+1)).bind fun i15=>(cI .i64 p13.1 ((p13.2+1)+1)).bind fun i16=>(cC p13.1 (((p13.2+1)+1)+1)).bind fun c17=>(qau qdx [.agg [Cell.int i14,Cell.int i15,Cell.int i16,c17]] []).bind fun r18=>cond (qab qwk r18) ((cB (qaa r18 0) 0).bind fun b19=>cond (!b19) (some ([.one (Cell.bool false)],[])) (cond (decide (i3 > 0)) ((idxA 5 (c2) (IntKind.i64.wrap (i3 - 1))).bind fun c20=>(fldA c20 0).bind fun c21=>(deref [] (c21)).bind fun p22=>(cS p22.1 p22.2).bind fun s23=>(idxA 5 (c2) i3).bind fun c24=>(fldA c24 0).bind fun c25=>(deref [] (c25)).bind fun p26=>(cS p26.1 p26.2).bind fun s27=>cond (!Op.bytesLess s23.toList s27.toList) (some ([.one (Cell.bool false)],[])) (qvu k m n (c2) (IntKind.i64.wrap (i3+1)))) (qvu k m n (c2) (IntKind.i64.wrap (i3+1))))) none)) none) ((lenC c2).bind fun n28=>some ([.one (Cell.bool (decide ((n28:Int)≤12)))],[]))
def fdx (k m:Nat)(c1:Cell):Option Res:=qvu k m m (c1) 0
abbrev fdx_l0_B (k m:Nat):TB:=evC G_fdx qnw (evF G_fdx (k+1)) m (sub [1,0,1,2,3] qnw.code) none
abbrev fdx_l0_K (k m:Nat):TK:=qaz 0 (seqK (evC G_fdx qnw (evF G_fdx (k+1)) m (sub [1,1] qnw.code) none) (retK G_fdx qnw))
theorem fdx_l0_eq (k m:Nat):∀ (n:Nat) (c2:Cell) (i3:Int),qby (some [0,3]) (fdx_l0_B k m) (fdx_l0_K k m) n ⟨fT 47 0 [(0,.av (.one (c2))),(3,.av (.one (Cell.int i3)))],fX 47 0 [],[]⟩=qvu (k+1) m n c2 i3:=by
 intro n
 induction n with
 | zero=>intros;rfl
 | succ n ih=>intros;simp only[qvu,← ih];kernel_rfl
theorem fdx_code (k m:Nat)(c1:Cell):evC G_fdx qnw (evF G_fdx (k+1)) m qnw.code none (retK G_fdx qnw) (enter qnw [.one (c1)] [])=fdx (k+1) m c1:=by
 simp only[fdx,← fdx_l0_eq k m]
 kernel_rfl
theorem qmbb {c1:Cell}{r:Res}(k:Nat)(h:fdx (k+1) (k+1) c1=some r):qqs [.one (c1)] []=some r:=qap (k:=k+2) (Eq.trans (Eq.trans (by kernel_rfl) (fdx_code k (k+1) c1)) h)
def pl_fdm:List (Nat×Run):=[(qls,qci),(qqv,qhg),(qhjb,qqs)]
def G_fdm:Ctx:=ctx qbd qbc pl_fdm
def qtt:Run:=lim G_fdm qhmb
theorem ok_fdm:FnOk Tryz.prog OkT qhmb qtt:=qal (l:=pl_fdm) qae tyTab_ok qad okT (.cons ok_fdt (.cons ok_fdp (.cons ok_fdx .nil))) qhmb
def qacb (k m:Nat):Nat→Cell→Cell→Int→List Entry→Option Res | 0,_,_,_,_=>none | n+1,c4,c5,i6,H7=>(lenC c5).bind fun n8=>cond (decide (i6 < (IntKind.i64.wrap ((n8:Int) - 1)))) ((idxA 1 (c5) i6).bind fun c9=>(deref H7 (c9)).bind fun p10=>(cS p10.1 p10.2).bind fun s11=>(callL qci [.one (Cell.str s11),.one (.sc (.int .u8 64))] H7).bind fun r12=>cond (qab qlp r12.1) ((cC (qaa r12.1 0) 0).bind fun c13=>(lenC c13).bind fun n14=>cond ((n14:Int) != 2) (some ([.one (.lst true 5 []),.one (Cell.bool false)],r12.2)) ((idxA 1 (c13) 1).bind fun c15=>(deref r12.2 (c15)).bind fun p16=>(cS p16.1 p16.2).bind fun s17=>(callL qhg [.one (Cell.str s17)] r12.2).bind fun r18=>cond (qab qltb r18.1) ((cI .i64 (qaa r18.1 0) 0).bind fun i19=>(cI .i64 (qaa r18.1 0) 1).bind fun i20=>(cI .i64 (qaa r18.1 0) 2).bind fun i21=>(cC (qaa r18.1 0) 3).bind fun c22=>(cB (qaa r18.1 1) 0).bind fun b23=>cond (!b23) (some ([.one (.lst true 5 []),.one (Cell.bool false)],r18.2)) ((idxA 1 (c13) 0).bind fun c24=>(deref r18.2 (c24)).bind fun p25=>(cS p25.1 p25.2).bind fun s26=>restK [Cell.str s26,Cell.int i19,Cell.int i20,Cell.int i21,c22] fun d27=>(qbr r18.2 5 (.lst true 5 (chunks 5 1 d27))).bind fun r28=>(app r18.2 5 64 (c4) r28).bind fun p29=>qacb k m n (p29.1) (c5) (IntKind.i64.wrap (i6+1)) p29.2)) none)) none) ((lenC c5).bind fun n30=>(idxA 1 (c5) (IntKind.i64.wrap ((n30:Int) - 1))).bind fun c31=>(deref H7 (c31)).bind fun p32=>(cS p32.1 p32.2).bind fun s33=>cond (!(s33.toList==(bs []).toList)) (some ([.one (.lst true 5 []),.one (Cell.bool false)],H7)) ((qau qqs [.one (c4)] H7).bind fun r34=>cond (qab rk_fdx r34) ((cB (qaa r34 0) 0).bind fun b35=>cond (!b35) (some ([.one (.lst true 5 []),.one (Cell.bool false)],H7)) (some ([.one (c4),.one (Cell.bool true)],H7))) none))
def fdm (k m:Nat)(s1:ByteArray):Option Res:=(callL qci [.one (Cell.str s1),.one (.sc (.int .u8 10))] []).bind fun r2=>cond (qab qlp r2.1) ((cC (qaa r2.1 0) 0).bind fun c3=>qacb k m m (.lst true 5 []) (c3) 0 r2.2) none
abbrev fdm_l0_B (k m:Nat):TB:=evC G_fdm qoz (evF G_fdm (k+1)) m (sub [1,1,1,0,1,2,3] qoz.code) none
abbrev fdm_l0_K (k m:Nat):TK:=qaz 0 (seqK (evC G_fdm qoz (evF G_fdm (k+1)) m (sub [1,1,1,1] qoz.code) none) (retK G_fdm qoz))
theorem fdm_l0_eq (k m:Nat):∀ (n:Nat) (c4 c5:Cell) (i6:Int) (H7:List Entry),qby (some [4,5,6]) (fdm_l0_B k m) (fdm_l0_K k m) n ⟨fT 61 0 [(4,.av (.one (c4))),(5,.av (.one (c5))),(6,.av (.one (Cell.int i6)))],fX 61 0 [],H7⟩=qacb (k+1) m n c4 c5 i6 H7:=by
 intro n
 induction n with
 | zero=>intros;rfl
 | succ n ih=>intros;simp only[qacb,← ih];kernel_rfl
theorem fdm_code (k m:Nat)(s1:ByteArray):evC G_fdm qoz (evF G_fdm (k+1)) m qoz.code none (retK G_fdm qoz) (enter qoz [.one (Cell.str s1)] [])=fdm (k+1) m s1:=by
 simp only[fdm,← fdm_l0_eq k m]
 kernel_rfl
theorem qrmb {s1:ByteArray}{r:Res}(k:Nat)(h:fdm (k+1) (k+1) s1=some r):qtt [.one (Cell.str s1)] []=some r:=qap (k:=k+2) (Eq.trans (Eq.trans (by kernel_rfl) (fdm_code k (k+1) s1)) h)
def pl_fdu:List (Nat×Run):=[(qdhb,qxv),(qcsb,qwe),(qhmb,qtt)]
def G_fdu:Ctx:=ctx qbd qbc pl_fdu
def qyt:Run:=lim G_fdu qdwb
theorem ok_fdu:FnOk Tryz.prog OkT qdwb qyt:=qal (l:=pl_fdu) qae tyTab_ok qad okT (.cons ok_fds (.cons ok_fdw (.cons ok_fdm .nil))) qdwb
def fdu (k m:Nat)(c1 c2:Cell)(s3:ByteArray):Option Res:=(callL qtt [.one (Cell.str s3)] []).bind fun r4=>cond (qab rk_fdm r4.1) ((cC (qaa r4.1 0) 0).bind fun c5=>(cB (qaa r4.1 1) 0).bind fun b6=>cond (!b6) (some ([.one (Cell.bool true)],r4.2)) ((callL qwe [.one (c2)] r4.2).bind fun r7=>cond (qab rk_fdw r7.1) ((cC (qaa r7.1 0) 0).bind fun c8=>(qau qxv [.one (c1),.one (c8),.one (c5)] r7.2).bind fun r9=>cond (qab rk_fds r9) ((cB (qaa r9 0) 0).bind fun b10=>some ([.one (Cell.bool (!b10))],r7.2)) none) none)) none
theorem fdu_code (k m:Nat)(c1 c2:Cell)(s3:ByteArray):evC G_fdu qllb (evF G_fdu (k+1)) m qllb.code none (retK G_fdu qllb) (enter qllb [.one (c1),.one (c2),.one (Cell.str s3)] [])=fdu (k+1) m c1 c2 s3:=by
 kernel_rfl
theorem qoub {c1 c2:Cell}{s3:ByteArray}{r:Res}(k:Nat)(h:fdu (k+1) (k+1) c1 c2 s3=some r):qyt [.one (c1),.one (c2),.one (Cell.str s3)] []=some r:=qap (k:=k+2) (Eq.trans (Eq.trans (by kernel_rfl) (fdu_code k (k+1) c1 c2 s3)) h)
def pl_fcs:List (Nat×Run):=[(qqf,qiu)]
def G_fcs:Ctx:=ctx qbd qbc pl_fcs
def quh:Run:=lim G_fcs qfgb
theorem ok_fcs:FnOk Tryz.prog OkT qfgb quh:=qal (l:=pl_fcs) qae tyTab_ok qad okT (.cons ok_fda .nil) qfgb
def fcs (k m:Nat)(s1:ByteArray)(c2:Cell):Option Res:=(callL qiu [.one (c2)] []).bind fun r3=>cond (qab rk_fda r3.1) ((cC (qaa r3.1 0) 0).bind fun c4=>some ([.agg [Cell.str s1,c4]],r3.2)) none
theorem fcs_code (k m:Nat)(s1:ByteArray)(c2:Cell):evC G_fcs qjgb (evF G_fcs (k+1)) m qjgb.code none (retK G_fcs qjgb) (enter qjgb [.agg [Cell.str s1,c2]] [])=fcs (k+1) m s1 c2:=by
 kernel_rfl
theorem qmhb {s1:ByteArray}{c2:Cell}{r:Res}(k:Nat)(h:fcs (k+1) (k+1) s1 c2=some r):quh [.agg [Cell.str s1,c2]] []=some r:=qap (k:=k+2) (Eq.trans (Eq.trans (by kernel_rfl) (fcs_code k (k+1) s1 c2)) h)
def pl_fct:List (Nat×Run):=[(qfgb,quh)]
def G_fct:Ctx:=ctx qbd qbc pl_fct
def qyu:Run:=lim G_fct qcab
theorem ok_fct:FnOk Tryz.prog OkT qcab qyu:=qal (l:=pl_fct) qae tyTab_ok qad okT (.cons ok_fcs .nil) qcab
def qbcb (k m:Nat):Nat→Cell→Cell→Int→List Entry→Option Res | 0,_,_,_,_=>none | n+1,c3,c4,i5,H6=>(lenC c3).bind fun n7=>cond (decide (i5 < (n7:Int))) ((idxA 2 (c3) i5).bind fun c8=>(deref H6 (c8)).bind fun p9=>(cS p9.1 p9.2).bind fun s10=>(cC p9.1 (p9.2+1)).bind fun c11=>(callL quh [.agg [Cell.str s10,c11]] H6).bind fun r12=>cond (qab rk_fcs r12.1) ((cS (qaa r12.1 0) 0).bind fun s13=>(cC (qaa r12.1 0) 1).bind fun c14=>(idxA 2 (c4) i5).bind fun c15=>(qce r12.2 (c15) [Cell.str s13,c14]).bind fun h16=>qbcb k m n (c3) (c4) (IntKind.i64.wrap (i5+1)) h16) none) (some ([.one (c4)],H6))
def fct (k m:Nat)(c1:Cell):Option Res:=(lenC c1).bind fun n2=>if 0≤(n2:Int)∧(n2:Int)≤(n2:Int)∧(n2:Int)*40≤bound∧(n2:Int)≤bound then (qbcb k m m (c1) ((.vs 0 2 0 (n2:Int).toNat 0)) 0 [Entry.mk 2 (qcd (n2:Int).toNat [Cell.str (bs []),.lst true 1 []]) 0 false]) else none
abbrev fct_l0_B (k m:Nat):TB:=evC G_fct qlk (evF G_fct (k+1)) m (sub [1,1,0,1,2,3] qlk.code) none
abbrev fct_l0_K (k m:Nat):TK:=qaz 0 (seqK (evC G_fct qlk (evF G_fct (k+1)) m (sub [1,1,1] qlk.code) none) (retK G_fct qlk))
theorem fct_l0_eq (k m:Nat):∀ (n:Nat) (c3 c4:Cell) (i5:Int) (H6:List Entry),qby (some [0,3,4]) (fct_l0_B k m) (fct_l0_K k m) n ⟨fT 23 0 [(0,.av (.one (c3))),(3,.av (.one (c4))),(4,.av (.one (Cell.int i5)))],fX 23 0 [],H6⟩=qbcb (k+1) m n c3 c4 i5 H6:=by
 intro n
 induction n with
 | zero=>intros;rfl
 | succ n ih=>intros;simp only[qbcb,← ih];kernel_rfl
theorem fct_code (k m:Nat)(c1:Cell):evC G_fct qlk (evF G_fct (k+1)) m qlk.code none (retK G_fct qlk) (enter qlk [.one (c1)] [])=fct (k+1) m c1:=by
 simp only[fct,← fct_l0_eq k m]
 kernel_rfl
theorem qphb {c1:Cell}{r:Res}(k:Nat)(h:fct (k+1) (k+1) c1=some r):qyu [.one (c1)] []=some r:=qap (k:=k+2) (Eq.trans (Eq.trans (by kernel_rfl) (fct_code k (k+1) c1)) h)
def pl_fcy:List (Nat×Run):=[(qwg,qlv),(qqf,qiu),(qcab,qyu)]
def G_fcy:Ctx:=ctx qbd qbc pl_fcy
def qur:Run:=lim G_fcy qfxb
theorem ok_fcy:FnOk Tryz.prog OkT qfxb qur:=qal (l:=pl_fcy) qae tyTab_ok qad okT (.cons ok_fcx (.cons ok_fda (.cons ok_fct .nil))) qfxb
def fcy (k m:Nat)(s1:ByteArray)(c2 c3 c4:Cell):Option Res:=(callL qiu [.one (c2)] []).bind fun r5=>cond (qab rk_fda r5.1) ((cC (qaa r5.1 0) 0).bind fun c6=>(callL qlv [.one (c3)] r5.2).bind fun r7=>cond (qab rk_fcx r7.1) ((cC (qaa r7.1 0) 0).bind fun c8=>(callL qyu [.one (c4)] r7.2).bind fun r9=>cond (qab rk_fct r9.1) ((cC (qaa r9.1 0) 0).bind fun c10=>some ([.agg [Cell.str s1,c6,c8,c10]],r9.2)) none) none) none
theorem fcy_code (k m:Nat)(s1:ByteArray)(c2 c3 c4:Cell):evC G_fcy qlnb (evF G_fcy (k+1)) m qlnb.code none (retK G_fcy qlnb) (enter qlnb [.agg [Cell.str s1,c2,c3,c4]] [])=fcy (k+1) m s1 c2 c3 c4:=by
 kernel_rfl
theorem qncb {s1:ByteArray}{c2 c3 c4:Cell}{r:Res}(k:Nat)(h:fcy (k+1) (k+1) s1 c2 c3 c4=some r):qur [.agg [Cell.str s1,c2,c3,c4]] []=some r:=qap (k:=k+2) (Eq.trans (Eq.trans (by kernel_rfl) (fcy_code k (k+1) s1 c2 c3 c4)) h)
def pl_fcz:List (Nat×Run):=[(qfxb,qur)]
def G_fcz:Ctx:=ctx qbd qbc pl_fcz
def qnr:Run:=lim G_fcz qfkb
theorem ok_fcz:FnOk Tryz.prog OkT qfkb qnr:=qal (l:=pl_fcz) qae tyTab_ok qad okT (.cons ok_fcy .nil) qfkb
def qanb (k m:Nat):Nat→Cell→Cell→Int→List Entry→Option Res | 0,_,_,_,_=>none | n+1,c3,c4,i5,H6=>(lenC c3).bind fun n7=>cond (decide (i5 < (n7:Int))) ((idxA 4 (c3) i5).bind fun c8=>(deref H6 (c8)).bind fun p9=>(cS p9.1 p9.2).bind fun s10=>(cC p9.1 (p9.2+1)).bind fun c11=>(cC p9.1 ((p9.2+1)+1)).bind fun c12=>(cC p9.1 (((p9.2+1)+1)+1)).bind fun c13=>(callL qur [.agg [Cell.str s10,c11,c12,c13]] H6).bind fun r14=>cond (qab rk_fcy r14.1) ((cS (qaa r14.1 0) 0).bind fun s15=>(cC (qaa r14.1 0) 1).bind fun c16=>(cC (qaa r14.1 0) 2).bind fun c17=>(cC (qaa r14.1 0) 3).bind fun c18=>(idxA 4 (c4) i5).bind fun c19=>(qce r14.2 (c19) [Cell.str s15,c16,c17,c18]).bind fun h20=>qanb k m n (c3) (c4) (IntKind.i64.wrap (i5+1)) h20) none) (some ([.one (c4)],H6))
def fcz (k m:Nat)(c1:Cell):Option Res:=(lenC c1).bind fun n2=>if 0≤(n2:Int)∧(n2:Int)≤(n2:Int)∧(n2:Int)*88≤bound∧(n2:Int)≤bound then (qanb k m m (c1) ((.vs 0 4 0 (n2:Int).toNat 0)) 0 [Entry.mk 4 (qcd (n2:Int).toNat [Cell.str (bs []),.lst true 1 [],.lst true 2 [],.lst true 2 []]) 0 false]) else none
abbrev fcz_l0_B (k m:Nat):TB:=evC G_fcz qmb (evF G_fcz (k+1)) m (sub [1,1,0,1,2,3] qmb.code) none
abbrev fcz_l0_K (k m:Nat):TK:=qaz 0 (seqK (evC G_fcz qmb (evF G_fcz (k+1)) m (sub [1,1,1] qmb.code) none) (retK G_fcz qmb))
theorem fcz_l0_eq (k m:Nat):∀ (n:Nat) (c3 c4:Cell) (i5:Int) (H6:List Entry),qby (some [0,3,4]) (fcz_l0_B k m) (fcz_l0_K k m) n ⟨fT 23 0 [(0,.av (.one (c3))),(3,.av (.one (c4))),(4,.av (.one (Cell.int i5)))],fX 23 0 [],H6⟩=qanb (k+1) m n c3 c4 i5 H6:=by
 intro n
 induction n with
 | zero=>intros;rfl
 | succ n ih=>intros;simp only[qanb,← ih];kernel_rfl
theorem fcz_code (k m:Nat)(c1:Cell):evC G_fcz qmb (evF G_fcz (k+1)) m qmb.code none (retK G_fcz qmb) (enter qmb [.one (c1)] [])=fcz (k+1) m c1:=by
 simp only[fcz,← fcz_l0_eq k m]
 kernel_rfl
theorem qnfb {c1:Cell}{r:Res}(k:Nat)(h:fcz (k+1) (k+1) c1=some r):qnr [.one (c1)] []=some r:=qap (k:=k+2) (Eq.trans (Eq.trans (by kernel_rfl) (fcz_code k (k+1) c1)) h)
def pl_fdd:List (Nat×Run):=[]
def G_fdd:Ctx:=ctx qbd qbc pl_fdd
def qte:Run:=lim G_fdd qddb
theorem ok_fdd:FnOk Tryz.prog OkT qddb qte:=qal (l:=pl_fdd) qae tyTab_ok qad okT .nil qddb
def qpr (k m:Nat):Nat→Cell→Cell→Int→Int→Option Res | 0,_,_,_,_=>none | n+1,c6,c7,i8,i9=>cond (decide (i9 < i8)) ((idxA 1 (c6) i9).bind fun c10=>(deref [] (c10)).bind fun p11=>(cS p11.1 p11.2).bind fun s12=>(idxA 1 (c7) i9).bind fun c13=>(deref [] (c13)).bind fun p14=>(cS p14.1 p14.2).bind fun s15=>cond (!(s12.toList==s15.toList)) (some ([.one (Cell.bool false)],[])) (qpr k m n (c6) (c7) i8 (IntKind.i64.wrap (i9+1)))) (some ([.one (Cell.bool true)],[]))
def fdd (k m:Nat)(c1 c2:Cell):Option Res:=(lenC c1).bind fun n3=>(lenC c2).bind fun n4=>cond ((n3:Int) != (n4:Int)) (some ([.one (Cell.bool false)],[])) ((lenC c1).bind fun n5=>qpr k m m (c1) (c2) (n5:Int) 0)
abbrev fdd_l0_B (k m:Nat):TB:=evC G_fdd qpe (evF G_fdd (k+1)) m (sub [1,1,0,1,2,3] qpe.code) none
abbrev fdd_l0_K (k m:Nat):TK:=qaz 0 (seqK (evC G_fdd qpe (evF G_fdd (k+1)) m (sub [1,1,1] qpe.code) none) (retK G_fdd qpe))
theorem fdd_l0_eq (k m:Nat):∀ (n:Nat) (c6 c7:Cell) (i8 i9:Int),qby (some [0,1,12,13]) (fdd_l0_B k m) (fdd_l0_K k m) n ⟨fT 26 0 [(0,.av (.one (c6))),(1,.av (.one (c7))),(12,.av (.one (Cell.int i8))),(13,.av (.one (Cell.int i9)))],fX 26 0 [],[]⟩=qpr (k+1) m n c6 c7 i8 i9:=by
 intro n
 induction n with
 | zero=>intros;rfl
 | succ n ih=>intros;simp only[qpr,← ih];kernel_rfl
theorem fdd_code (k m:Nat)(c1 c2:Cell):evC G_fdd qpe (evF G_fdd (k+1)) m qpe.code none (retK G_fdd qpe) (enter qpe [.one (c1),.one (c2)] [])=fdd (k+1) m c1 c2:=by
 simp only[fdd,← fdd_l0_eq k m]
 kernel_rfl
theorem qxt {c1 c2:Cell}{r:Res}(k:Nat)(h:fdd (k+1) (k+1) c1 c2=some r):qte [.one (c1),.one (c2)] []=some r:=qap (k:=k+2) (Eq.trans (Eq.trans (by kernel_rfl) (fdd_code k (k+1) c1 c2)) h)
def pl_fap:List (Nat×Run):=[(qddb,qte)]
def G_fap:Ctx:=ctx qbd qbc pl_fap
def qtj:Run:=lim G_fap qgwb
theorem ok_fap:FnOk Tryz.prog OkT qgwb qtj:=qal (l:=pl_fap) qae tyTab_ok qad okT (.cons ok_fdd .nil) qgwb
def fap (k m:Nat)(i1 i2 i3:Int)(c4:Cell)(i5 i6 i7:Int)(c8:Cell):Option Res:=cond (i1==i5) (cond (i2==i6) (cond (i3==i7) ((qau qte [.one (c4),.one (c8)] []).bind fun r9=>cond (qab rk_fdd r9) ((cB (qaa r9 0) 0).bind fun b10=>some ([.one (Cell.bool b10)],[])) none) (some ([.one (Cell.bool false)],[]))) (some ([.one (Cell.bool false)],[]))) (some ([.one (Cell.bool false)],[]))
theorem fap_code (k m:Nat)(i1 i2 i3:Int)(c4:Cell)(i5 i6 i7:Int)(c8:Cell):evC G_fap qiwb (evF G_fap (k+1)) m qiwb.code none (retK G_fap qiwb) (enter qiwb [.agg [Cell.int i1,Cell.int i2,Cell.int i3,c4],.agg [Cell.int i5,Cell.int i6,Cell.int i7,c8]] [])=fap (k+1) m i1 i2 i3 c4 i5 i6 i7 c8:=by
 kernel_rfl
theorem qocb {i1 i2 i3:Int}{c4:Cell}{i5 i6 i7:Int}{c8:Cell}{r:Res}(k:Nat)(h:fap (k+1) (k+1) i1 i2 i3 c4 i5 i6 i7 c8=some r):qtj [.agg [Cell.int i1,Cell.int i2,Cell.int i3,c4],.agg [Cell.int i5,Cell.int i6,Cell.int i7,c8]] []=some r:=qap (k:=k+2) (Eq.trans (Eq.trans (by kernel_rfl) (fap_code k (k+1) i1 i2 i3 c4 i5 i6 i7 c8)) h)
def pl_fbb:List (Nat×Run):=[(qgwb,qtj)]
def G_fbb:Ctx:=ctx qbd qbc pl_fbb
def qrp:Run:=lim G_fbb qio
theorem ok_fbb:FnOk Tryz.prog OkT qio qrp:=qal (l:=pl_fbb) qae tyTab_ok qad okT (.cons ok_fap .nil) qio
def fbb (k m:Nat)(s1:ByteArray)(i2 i3 i4:Int)(c5 c6 c7 c8:Cell)(H:List Entry):Option Res:=(deref H (c7)).bind fun p9=>(cS p9.1 p9.2).bind fun s10=>cond (s1.toList==s10.toList) ((deref H (c8)).bind fun p11=>(cI .i64 p11.1 p11.2).bind fun i12=>(cI .i64 p11.1 (p11.2+1)).bind fun i13=>(cI .i64 p11.1 ((p11.2+1)+1)).bind fun i14=>(cC p11.1 (((p11.2+1)+1)+1)).bind fun c15=>(qau qtj [.agg [Cell.int i2,Cell.int i3,Cell.int i4,c5],.agg [Cell.int i12,Cell.int i13,Cell.int i14,c15]] H).bind fun r16=>cond (qab rk_fap r16) ((cB (qaa r16 0) 0).bind fun b17=>some ([.one (Cell.bool b17)],H)) none) (some ([.one (Cell.bool false)],H))
theorem fbb_code (k m:Nat)(s1:ByteArray)(i2 i3 i4:Int)(c5 c6 c7 c8:Cell)(H:List Entry):evC G_fbb qikb (evF G_fbb (k+1)) m qikb.code none (retK G_fbb qikb) (enter qikb [.agg [Cell.str s1,Cell.int i2,Cell.int i3,Cell.int i4,c5,c6],.one (c7),.one (c8)] H)=fbb (k+1) m s1 i2 i3 i4 c5 c6 c7 c8 H:=by
 kernel_rfl
theorem qmtb {s1:ByteArray}{i2 i3 i4:Int}{c5 c6 c7 c8:Cell}{H:List Entry}{r:Res}(k:Nat)(h:fbb (k+1) (k+1) s1 i2 i3 i4 c5 c6 c7 c8 H=some r):qrp [.agg [Cell.str s1,Cell.int i2,Cell.int i3,Cell.int i4,c5,c6],.one (c7),.one (c8)] H=some r:=qap (k:=k+2) (Eq.trans (Eq.trans (by kernel_rfl) (fbb_code k (k+1) s1 i2 i3 i4 c5 c6 c7 c8 H)) h)
end
end Go.Ev
