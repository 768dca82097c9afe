/- Conditions: none. -/
import Derived.Test.YtholafaogipaiaaGreatDoorSh4
import Derived.KernelRfl
namespace Go.Ev
open Go Go.Proofs
noncomputable section
set_option maxRecDepth 100000
set_option linter.unusedVariables false
set_option linter.unusedSimpArgs false
def pl_fbe:List (Nat×Run):=[(qot,qfg)]
def G_fbe:Ctx:=ctx qbd qbc pl_fbe
def qis:Run:=lim G_fbe qyg
theorem ok_fbe:FnOk Tryz.prog OkT qyg qis:=qal (l:=pl_fbe) qae tyTab_ok qad okT (.cons ok_fbd .nil) qyg
def qzo (k m:Nat):Nat→ByteArray→Int→Option Res | 0,_,_=>none | n+1,s2,i3=>cond (decide (i3 < (s2.size:Int))) ((bytS s2 i3).bind fun i4=>(qau qfg [.one (.sc (.int .u8 i4))] []).bind fun r5=>cond (qab qkvb r5) ((cB (qaa r5 0) 0).bind fun b6=>cond (!b6) (some ([.one (Cell.bool false)],[])) (qzo k m n s2 (IntKind.i64.wrap (i3+1)))) none) (some ([.one (Cell.bool (!(s2.toList==(bs []).toList)))],[]))
def fbe (k m:Nat)(s1:ByteArray):Option Res:=qzo k m m s1 0
abbrev fbe_l0_B (k m:Nat):TB:=evC G_fbe qpa (evF G_fbe (k+1)) m (sub [1,0,1,2,3] qpa.code) none
abbrev fbe_l0_K (k m:Nat):TK:=qaz 0 (seqK (evC G_fbe qpa (evF G_fbe (k+1)) m (sub [1,1] qpa.code) none) (retK G_fbe qpa))
theorem fbe_l0_eq (k m:Nat):∀ (n:Nat) (s2:ByteArray) (i3:Int),qby (some [0,3]) (fbe_l0_B k m) (fbe_l0_K k m) n ⟨fT 17 0 [(0,.av (.one (Cell.str s2))),(3,.av (.one (Cell.int i3)))],fX 17 0 [],[]⟩=qzo (k+1) m n s2 i3:=by
 intro n
 induction n with
 | zero=>intros;rfl
 | succ n ih=>intros;simp only[qzo,← ih];kernel_rfl
theorem fbe_code (k m:Nat)(s1:ByteArray):evC G_fbe qpa (evF G_fbe (k+1)) m qpa.code none (retK G_fbe qpa) (enter qpa [.one (Cell.str s1)] [])=fbe (k+1) m s1:=by
 simp only[fbe,← fbe_l0_eq k m]
 kernel_rfl
theorem qolb {s1:ByteArray}{r:Res}(k:Nat)(h:fbe (k+1) (k+1) s1=some r):qis [.one (Cell.str s1)] []=some r:=qap (k:=k+2) (Eq.trans (Eq.trans (by kernel_rfl) (fbe_code k (k+1) s1)) h)
def pl_fbm:List (Nat×Run):=[(qpo,qen),(qtr,qmn),(qot,qfg),(qyg,qis)]
def G_fbm:Ctx:=ctx qbd qbc pl_fbm
def qvr:Run:=lim G_fbm qeeb
theorem ok_fbm:FnOk Tryz.prog OkT qeeb qvr:=qal (l:=pl_fbm) qae tyTab_ok qad okT (.cons ok_fbc (.cons ok_fbf (.cons ok_fbd (.cons ok_fbe .nil)))) qeeb
def qkq (k m:Nat):Nat→ByteArray→Int→Option Res | 0,_,_=>none | n+1,s2,i3=>cond (decide (i3 < (s2.size:Int))) ((bytS s2 i3).bind fun i4=>(qau qmn [.one (.sc (.int .u8 i4))] []).bind fun r5=>cond (qab rk_fbf r5) ((cB (qaa r5 0) 0).bind fun b6=>cond (!b6) (cond (decide (i4≥65)) (cond (!(decide (i4≤90))) ((qau qfg [.one (.sc (.int .u8 i4))] []).bind fun r7=>cond (qab qkvb r7) ((cB (qaa r7 0) 0).bind fun b8=>cond (!b8) (cond (i4 != 45) (some ([.one (Cell.bool false)],[])) (qkq k m n s2 (IntKind.i64.wrap (i3+1)))) (qkq k m n s2 (IntKind.i64.wrap (i3+1)))) none) (qkq k m n s2 (IntKind.i64.wrap (i3+1)))) ((qau qfg [.one (.sc (.int .u8 i4))] []).bind fun r9=>cond (qab qkvb r9) ((cB (qaa r9 0) 0).bind fun b10=>cond (!b10) (cond (i4 != 45) (some ([.one (Cell.bool false)],[])) (qkq k m n s2 (IntKind.i64.wrap (i3+1)))) (qkq k m n s2 (IntKind.i64.wrap (i3+1)))) none)) (qkq k m n s2 (IntKind.i64.wrap (i3+1)))) none) ((qau qen [.one (Cell.int (s2.size:Int)),.one (Cell.int 1),.one (Cell.int 8)] []).bind fun r11=>cond (qab qzz r11) ((cB (qaa r11 0) 0).bind fun b12=>cond b12 ((qau qis [.one (Cell.str s2)] []).bind fun r13=>cond (qab qsqb r13) ((cB (qaa r13 0) 0).bind fun b14=>cond (!b14) (some ([.one (Cell.bool true)],[])) (cond (s2.toList==(bs [48]).toList) (some ([.one (Cell.bool true)],[])) ((bytS s2 0).bind fun i15=>some ([.one (Cell.bool (i15 != 48))],[])))) none) (some ([.one (Cell.bool false)],[]))) none)
def fbm (k m:Nat)(s1:ByteArray):Option Res:=qkq k m m s1 0
abbrev fbm_l0_B (k m:Nat):TB:=evC G_fbm qlb (evF G_fbm (k+1)) m (sub [1,0,1,2,3] qlb.code) none
abbrev fbm_l0_K (k m:Nat):TK:=qaz 0 (seqK (evC G_fbm qlb (evF G_fbm (k+1)) m (sub [1,1] qlb.code) none) (retK G_fbm qlb))
theorem fbm_l0_eq (k m:Nat):∀ (n:Nat) (s2:ByteArray) (i3:Int),qby (some [0,3]) (fbm_l0_B k m) (fbm_l0_K k m) n ⟨fT 52 0 [(0,.av (.one (Cell.str s2))),(3,.av (.one (Cell.int i3)))],fX 52 0 [],[]⟩=qkq (k+1) m n s2 i3:=by
 intro n
 induction n with
 | zero=>intros;rfl
 | succ n ih=>intros;simp only[qkq,← ih];kernel_rfl
theorem fbm_code (k m:Nat)(s1:ByteArray):evC G_fbm qlb (evF G_fbm (k+1)) m qlb.code none (retK G_fbm qlb) (enter qlb [.one (Cell.str s1)] [])=fbm (k+1) m s1:=by
 simp only[fbm,← fbm_l0_eq k m]
 kernel_rfl
theorem qtcb {s1:ByteArray}{r:Res}(k:Nat)(h:fbm (k+1) (k+1) s1=some r):qvr [.one (Cell.str s1)] []=some r:=qap (k:=k+2) (Eq.trans (Eq.trans (by kernel_rfl) (fbm_code k (k+1) s1)) h)
def pl_fas:List (Nat×Run):=[(qpo,qen),(qeeb,qvr)]
def G_fas:Ctx:=ctx qbd qbc pl_fas
def qft:Run:=lim G_fas qlf
theorem ok_fas:FnOk Tryz.prog OkT qlf qft:=qal (l:=pl_fas) qae tyTab_ok qad okT (.cons ok_fbc (.cons ok_fbm .nil)) qlf
def qbab (k m:Nat):Nat→Cell→Int→Int→Int→Int→Int→Cell→Option Res | 0,_,_,_,_,_,_,_=>none | n+1,c6,i7,i8,i9,i10,i11,c12=>cond (decide (i8 < i7)) ((idxA 1 (c6) i8).bind fun c13=>(deref [] (c13)).bind fun p14=>(cS p14.1 p14.2).bind fun s15=>(qau qvr [.one (Cell.str s15)] []).bind fun r16=>cond (qab rk_fbm r16) ((cB (qaa r16 0) 0).bind fun b17=>cond (!b17) (some ([.one (Cell.bool false)],[])) (qbab k m n (c6) i7 (IntKind.i64.wrap (i8+1)) i9 i10 i11 (c12))) none) ((qau qen [.one (Cell.int i9),.one (Cell.int 0),.one (Cell.int 9999)] []).bind fun r18=>cond (qab qzz r18) ((cB (qaa r18 0) 0).bind fun b19=>cond b19 ((qau qen [.one (Cell.int i10),.one (Cell.int 0),.one (Cell.int 9999)] []).bind fun r20=>cond (qab qzz r20) ((cB (qaa r20 0) 0).bind fun b21=>cond b21 ((qau qen [.one (Cell.int i11),.one (Cell.int 0),.one (Cell.int 9999)] []).bind fun r22=>cond (qab qzz r22) ((cB (qaa r22 0) 0).bind fun b23=>cond b23 ((lenC c12).bind fun n24=>some ([.one (Cell.bool (decide ((n24:Int)≤3)))],[])) (some ([.one (Cell.bool false)],[]))) none) (some ([.one (Cell.bool false)],[]))) none) (some ([.one (Cell.bool false)],[]))) none)
def fas (k m:Nat)(i1 i2 i3:Int)(c4:Cell):Option Res:=(lenC c4).bind fun n5=>qbab k m m (c4) (n5:Int) 0 i1 i2 i3 (c4)
abbrev fas_l0_B (k m:Nat):TB:=evC G_fas qnk (evF G_fas (k+1)) m (sub [1,0,1,2,3] qnk.code) none
abbrev fas_l0_K (k m:Nat):TK:=qaz 0 (seqK (evC G_fas qnk (evF G_fas (k+1)) m (sub [1,1] qnk.code) none) (retK G_fas qnk))
theorem fas_l0_eq (k m:Nat):∀ (n:Nat) (c6:Cell) (i7 i8 i9 i10 i11:Int) (c12:Cell),qby (some [1,6,7,8]) (fas_l0_B k m) (fas_l0_K k m) n ⟨fT 35 0 [(1,.loc 1 0),(6,.av (.one (c6))),(7,.av (.one (Cell.int i7))),(8,.av (.one (Cell.int i8)))],fX 35 0 [(1,[Cell.int i9,Cell.int i10,Cell.int i11,c12])],[]⟩=qbab (k+1) m n c6 i7 i8 i9 i10 i11 c12:=by
 intro n
 induction n with
 | zero=>intros;rfl
 | succ n ih=>intros;simp only[qbab,← ih];kernel_rfl
theorem fas_code (k m:Nat)(i1 i2 i3:Int)(c4:Cell):evC G_fas qnk (evF G_fas (k+1)) m qnk.code none (retK G_fas qnk) (enter qnk [.agg [Cell.int i1,Cell.int i2,Cell.int i3,c4]] [])=fas (k+1) m i1 i2 i3 c4:=by
 simp only[fas,← fas_l0_eq k m]
 kernel_rfl
theorem qteb {i1 i2 i3:Int}{c4:Cell}{r:Res}(k:Nat)(h:fas (k+1) (k+1) i1 i2 i3 c4=some r):qft [.agg [Cell.int i1,Cell.int i2,Cell.int i3,c4]] []=some r:=qap (k:=k+2) (Eq.trans (Eq.trans (by kernel_rfl) (fas_code k (k+1) i1 i2 i3 c4)) h)
def pl_fat:List (Nat×Run):=[(qlf,qft),(qvx,qjg),(fid_ffd,qgpb)]
def G_fat:Ctx:=ctx qbd qbc pl_fat
def qfs:Run:=lim G_fat qvh
theorem ok_fat:FnOk Tryz.prog OkT qvh qfs:=qal (l:=pl_fat) qae tyTab_ok qad okT (.cons ok_fas (.cons ok_fak (.cons ok_ffd .nil))) qvh
def fat (k m:Nat)(i1 i2 i3:Int)(c4:Cell):Option Res:=(qau qft [.agg [Cell.int i1,Cell.int i2,Cell.int i3,c4]] []).bind fun r5=>cond (qab qpnb r5) ((cB (qaa r5 0) 0).bind fun b6=>cond (!b6) (some ([.one (Cell.str (bs []))],[])) ((qau qjg [.one (Cell.int i1)] []).bind fun r7=>cond (qab qnpb r7) ((cS (qaa r7 0) 0).bind fun s8=>(catS s8 (bs [46])).bind fun s9=>(qau qjg [.one (Cell.int i2)] []).bind fun r10=>cond (qab qnpb r10) ((cS (qaa r10 0) 0).bind fun s11=>(catS s9 s11).bind fun s12=>(catS s12 (bs [46])).bind fun s13=>(qau qjg [.one (Cell.int i3)] []).bind fun r14=>cond (qab qnpb r14) ((cS (qaa r14 0) 0).bind fun s15=>(catS s13 s15).bind fun s16=>(lenC c4).bind fun n17=>cond (decide ((n17:Int) > 0)) ((qau qgpb [.one (c4),.one (Cell.str (bs [46]))] []).bind fun r18=>cond (qab rk_ffd r18) ((cS (qaa r18 0) 0).bind fun s19=>(catS (bs [45]) s19).bind fun s20=>(catS s16 s20).bind fun s21=>some ([.one (Cell.str s21)],[])) none) (some ([.one (Cell.str s16)],[]))) none) none) none)) none
theorem fat_code (k m:Nat)(i1 i2 i3:Int)(c4:Cell):evC G_fat qlgb (evF G_fat (k+1)) m qlgb.code none (retK G_fat qlgb) (enter qlgb [.agg [Cell.int i1,Cell.int i2,Cell.int i3,c4]] [])=fat (k+1) m i1 i2 i3 c4:=by
 kernel_rfl
theorem qryb {i1 i2 i3:Int}{c4:Cell}{r:Res}(k:Nat)(h:fat (k+1) (k+1) i1 i2 i3 c4=some r):qfs [.agg [Cell.int i1,Cell.int i2,Cell.int i3,c4]] []=some r:=qap (k:=k+2) (Eq.trans (Eq.trans (by kernel_rfl) (fat_code k (k+1) i1 i2 i3 c4)) h)
def pl_fao:List (Nat×Run):=[(qvg,qfr),(qoi,qer),(qtl,qiv),(qvh,qfs)]
def G_fao:Ctx:=ctx qbd qbc pl_fao
def qfj:Run:=lim G_fao qrg
theorem ok_fao:FnOk Tryz.prog OkT qrg qfj:=qal (l:=pl_fao) qae tyTab_ok qad okT (.cons ok_ffa (.cons ok_ffe (.cons ok_fam (.cons ok_fat .nil)))) qrg
def qno (k m:Nat):Nat→ByteArray→ByteArray→Bool→Cell→Cell→Cell→Cell→Cell→Int→List Entry→Option Res | 0,_,_,_,_,_,_,_,_,_,_=>none | n+1,s9,s10,b11,c12,c13,c14,c15,c16,i17,H18=>cond (decide (i17 < 3)) (if 0≤i17∧i17 < 3 then ((cC [c14,c15,c16] (i17.toNat*1)).bind fun c19=>(idxA 1 (c12) i17).bind fun c20=>(deref H18 (c20)).bind fun p21=>(cS p21.1 p21.2).bind fun s22=>(qau qiv [.one (Cell.str s22),.one (Cell.int 9999)] H18).bind fun r23=>cond (qab rk_fam r23) ((cI .i64 (qaa r23 0) 0).bind fun i24=>(cB (qaa r23 1) 0).bind fun b25=>cond (!b25) (some ([.agg [Cell.int 0,Cell.int 0,Cell.int 0,.lst true 1 []],.one (Cell.bool false)],H18)) ((ptrC c19).bind fun c26=>(qce H18 (c26) [Cell.int i24]).bind fun h27=>qno k m n s9 s10 b11 (c12) (c13) (c14) (c15) (c16) (IntKind.i64.wrap (i17+1)) h27)) none) else none) (cond b11 ((qjx qer [.one (Cell.str s10),.one (Cell.str (bs [46]))] H18).bind fun r28=>cond (qab qiub r28.1) ((cC (qaa r28.1 0) 0).bind fun c29=>(fldA c13 3).bind fun c30=>(qce r28.2 (c30) [c29]).bind fun h31=>(deref h31 (c13)).bind fun p32=>(cI .i64 p32.1 p32.2).bind fun i33=>(cI .i64 p32.1 (p32.2+1)).bind fun i34=>(cI .i64 p32.1 ((p32.2+1)+1)).bind fun i35=>(cC p32.1 (((p32.2+1)+1)+1)).bind fun c36=>(qau qfs [.agg [Cell.int i33,Cell.int i34,Cell.int i35,c36]] h31).bind fun r37=>cond (qab qpbb r37) ((cS (qaa r37 0) 0).bind fun s38=>cond (!(s38.toList==s9.toList)) (some ([.agg [Cell.int 0,Cell.int 0,Cell.int 0,.lst true 1 []],.one (Cell.bool false)],h31)) ((deref h31 (c13)).bind fun p39=>(cI .i64 p39.1 p39.2).bind fun i40=>(cI .i64 p39.1 (p39.2+1)).bind fun i41=>(cI .i64 p39.1 ((p39.2+1)+1)).bind fun i42=>(cC p39.1 (((p39.2+1)+1)+1)).bind fun c43=>some ([.agg [Cell.int i40,Cell.int i41,Cell.int i42,c43],.one (Cell.bool true)],h31))) none) none) ((deref H18 (c13)).bind fun p44=>(cI .i64 p44.1 p44.2).bind fun i45=>(cI .i64 p44.1 (p44.2+1)).bind fun i46=>(cI .i64 p44.1 ((p44.2+1)+1)).bind fun i47=>(cC p44.1 (((p44.2+1)+1)+1)).bind fun c48=>(qau qfs [.agg [Cell.int i45,Cell.int i46,Cell.int i47,c48]] H18).bind fun r49=>cond (qab qpbb r49) ((cS (qaa r49 0) 0).bind fun s50=>cond (!(s50.toList==s9.toList)) (some ([.agg [Cell.int 0,Cell.int 0,Cell.int 0,.lst true 1 []],.one (Cell.bool false)],H18)) ((deref H18 (c13)).bind fun p51=>(cI .i64 p51.1 p51.2).bind fun i52=>(cI .i64 p51.1 (p51.2+1)).bind fun i53=>(cI .i64 p51.1 ((p51.2+1)+1)).bind fun i54=>(cC p51.1 (((p51.2+1)+1)+1)).bind fun c55=>some ([.agg [Cell.int i52,Cell.int i53,Cell.int i54,c55],.one (Cell.bool true)],H18))) none))
def fao (k m:Nat)(s1:ByteArray):Option Res:=(qau qfr [.one (Cell.str s1),.one (Cell.str (bs [45]))] []).bind fun r2=>cond (qab rk_ffa r2) ((cS (qaa r2 0) 0).bind fun s3=>(cS (qaa r2 1) 0).bind fun s4=>(cB (qaa r2 2) 0).bind fun b5=>(qjx qer [.one (Cell.str s3),.one (Cell.str (bs [46]))] []).bind fun r6=>cond (qab qiub r6.1) ((cC (qaa r6.1 0) 0).bind fun c7=>(lenC c7).bind fun n8=>cond ((n8:Int) != 3) (some ([.agg [Cell.int 0,Cell.int 0,Cell.int 0,.lst true 1 []],.one (Cell.bool false)],r6.2)) (qno k m m s1 s4 b5 (c7) (.ptr r6.2.length 4 0 0 0) (.ptr r6.2.length 4 0 0 0) (.ptr r6.2.length 4 0 1 0) (.ptr r6.2.length 4 0 2 0) 0 (r6.2++[Entry.mk 4 [[Cell.int 0,Cell.int 0,Cell.int 0,.lst true 1 []]] 0 false]))) none) none
abbrev fao_l0_B (k m:Nat):TB:=evC G_fao qom (evF G_fao (k+1)) m (sub [1,1,1,1,1,0,1,2,3] qom.code) none
abbrev fao_l0_K (k m:Nat):TK:=qaz 0 (seqK (evC G_fao qom (evF G_fao (k+1)) m (sub [1,1,1,1,1,1] qom.code) none) (retK G_fao qom))
theorem fao_l0_eq (k m:Nat):∀ (n:Nat) (s9 s10:ByteArray) (b11:Bool) (c12 c13 c14 c15 c16:Cell) (i17:Int) (H18:List Entry),qby (some [0,2,5,6,7,8,28,29]) (fao_l0_B k m) (fao_l0_K k m) n ⟨fT 58 0 [(0,.av (.one (Cell.str s9))),(2,.loc 2 0),(5,.av (.one (Cell.str s10))),(6,.av (.one (Cell.bool b11))),(7,.av (.one (c12))),(8,.av (.one (c13))),(28,.av (.agg [c14,c15,c16])),(29,.av (.one (Cell.int i17)))],fX 58 0 [(2,[Cell.int 0,Cell.int 0,Cell.int 0,.lst true 1 []])],H18⟩=qno (k+1) m n s9 s10 b11 c12 c13 c14 c15 c16 i17 H18:=by
 intro n
 induction n with
 | zero=>intros;rfl
 | succ n ih=>intros;simp only[qno,← ih];kernel_rfl
theorem fao_code (k m:Nat)(s1:ByteArray):evC G_fao qom (evF G_fao (k+1)) m qom.code none (retK G_fao qom) (enter qom [.one (Cell.str s1)] [])=fao (k+1) m s1:=by
 simp only[fao,← fao_l0_eq k m]
 kernel_rfl
theorem qyw {s1:ByteArray}{r:Res}(k:Nat)(h:fao (k+1) (k+1) s1=some r):qfj [.one (Cell.str s1)] []=some r:=qap (k:=k+2) (Eq.trans (Eq.trans (by kernel_rfl) (fao_code k (k+1) s1)) h)
def pl_fbu:List (Nat×Run):=[]
def G_fbu:Ctx:=ctx qbd qbc pl_fbu
def qtq:Run:=lim G_fbu qcnb
theorem ok_fbu:FnOk Tryz.prog OkT qcnb qtq:=qal (l:=pl_fbu) qae tyTab_ok qad okT .nil qcnb
def fbu (k m:Nat)(s1 s2:ByteArray):Option Res:=cond (decide ((s1.size:Int)≥(s2.size:Int))) ((subS s1 0 (s2.size:Int)).bind fun s3=>some ([.one (Cell.bool (s3.toList==s2.toList))],[])) (some ([.one (Cell.bool false)],[]))
theorem fbu_code (k m:Nat)(s1 s2:ByteArray):evC G_fbu qkxb (evF G_fbu (k+1)) m qkxb.code none (retK G_fbu qkxb) (enter qkxb [.one (Cell.str s1),.one (Cell.str s2)] [])=fbu (k+1) m s1 s2:=by
 kernel_rfl
theorem qokb {s1 s2:ByteArray}{r:Res}(k:Nat)(h:fbu (k+1) (k+1) s1 s2=some r):qtq [.one (Cell.str s1),.one (Cell.str s2)] []=some r:=qap (k:=k+2) (Eq.trans (Eq.trans (by kernel_rfl) (fbu_code k (k+1) s1 s2)) h)
def pl_fbt:List (Nat×Run):=[(qcnb,qtq)]
def G_fbt:Ctx:=ctx qbd qbc pl_fbt
def qup:Run:=lim G_fbt qdmb
theorem ok_fbt:FnOk Tryz.prog OkT qdmb qup:=qal (l:=pl_fbt) qae tyTab_ok qad okT (.cons ok_fbu .nil) qdmb
def fbt (k m:Nat)(s1 s2:ByteArray):Option Res:=(qau qtq [.one (Cell.str s1),.one (Cell.str s2)] []).bind fun r3=>cond (qab rk_fbu r3) ((cB (qaa r3 0) 0).bind fun b4=>cond (!b4) (some ([.one (Cell.str s1),.one (Cell.bool false)],[])) ((subS s1 (s2.size:Int) (s1.size:Int)).bind fun s5=>some ([.one (Cell.str s5),.one (Cell.bool true)],[]))) none
theorem fbt_code (k m:Nat)(s1 s2:ByteArray):evC G_fbt qilb (evF G_fbt (k+1)) m qilb.code none (retK G_fbt qilb) (enter qilb [.one (Cell.str s1),.one (Cell.str s2)] [])=fbt (k+1) m s1 s2:=by
 kernel_rfl
theorem qptb {s1 s2:ByteArray}{r:Res}(k:Nat)(h:fbt (k+1) (k+1) s1 s2=some r):qup [.one (Cell.str s1),.one (Cell.str s2)] []=some r:=qap (k:=k+2) (Eq.trans (Eq.trans (by kernel_rfl) (fbt_code k (k+1) s1 s2)) h)
def pl_ffb:List (Nat×Run):=[(qdmb,qup)]
def G_ffb:Ctx:=ctx qbd qbc pl_ffb
def quu:Run:=lim G_ffb qcfb
theorem ok_ffb:FnOk Tryz.prog OkT qcfb quu:=qal (l:=pl_ffb) qae tyTab_ok qad okT (.cons ok_fbt .nil) qcfb
def ffb (k m:Nat)(s1 s2:ByteArray):Option Res:=(qau qup [.one (Cell.str s1),.one (Cell.str s2)] []).bind fun r3=>cond (qab rk_fbt r3) ((cS (qaa r3 0) 0).bind fun s4=>(cB (qaa r3 1) 0).bind fun b5=>some ([.one (Cell.str s4),.one (Cell.bool b5)],[])) none
theorem ffb_code (k m:Nat)(s1 s2:ByteArray):evC G_ffb qiqb (evF G_ffb (k+1)) m qiqb.code none (retK G_ffb qiqb) (enter qiqb [.one (Cell.str s1),.one (Cell.str s2)] [])=ffb (k+1) m s1 s2:=by
 kernel_rfl
theorem qmfb {s1 s2:ByteArray}{r:Res}(k:Nat)(h:ffb (k+1) (k+1) s1 s2=some r):quu [.one (Cell.str s1),.one (Cell.str s2)] []=some r:=qap (k:=k+2) (Eq.trans (Eq.trans (by kernel_rfl) (ffb_code k (k+1) s1 s2)) h)
def pl_fbj:List (Nat×Run):=[(qrg,qfj),(qoi,qer),(qtl,qiv)]
def qedb:Ctx:=ctx qbd qbc pl_fbj
def qvd:Run:=lim qedb qdfb
theorem ok_fbj:FnOk Tryz.prog OkT qdfb qvd:=qal (l:=pl_fbj) qae tyTab_ok qad okT (.cons ok_fao (.cons ok_ffe (.cons ok_fam .nil))) qdfb
def qoq (k m:Nat):Nat→Int→Cell→Int→Int→Int→Int→List Entry→Option Res | 0,_,_,_,_,_,_,_=>none | n+1,i19,c20,i21,i22,i23,i24,H25=>cond (decide (i22 < i21)) ((idxA 1 (c20) i22).bind fun c26=>(deref H25 (c26)).bind fun p27=>(cS p27.1 p27.2).bind fun s28=>(qau qiv [.one (Cell.str s28),.one (Cell.int 9999)] H25).bind fun r29=>cond (qab rk_fam r29) ((cI .i64 (qaa r29 0) 0).bind fun i30=>(cB (qaa r29 1) 0).bind fun b31=>cond (!b31) (some ([.agg [Cell.int 0,Cell.int 0,Cell.int 0,.lst true 1 []],.one (Cell.int 0),.one (Cell.bool false)],H25)) (if i22=1 then (qoq k m n i19 (c20) i21 (IntKind.i64.wrap (i22+1)) i23 i30 H25) else if i22=0 then (qoq k m n i19 (c20) i21 (IntKind.i64.wrap (i22+1)) i30 i24 H25) else none)) none) (some ([.agg [Cell.int i23,Cell.int i24,Cell.int 0,.lst true 1 []],.one (Cell.int i19),.one (Cell.bool true)],H25))
def qqc (k m:Nat):Nat→Cell→Int→List Entry→Option Res | 0,_,_,_=>none | n+1,c11,i12,H13=>cond (decide (i12 > 1)) ((idxA 1 (c11) (IntKind.i64.wrap (i12 - 1))).bind fun c14=>(deref H13 (c14)).bind fun p15=>(cS p15.1 p15.2).bind fun s16=>cond (s16.toList==(bs [120]).toList) (qqc k m n (c11) (IntKind.i64.wrap (i12 - 1)) H13) (cond (decide (i12 > 2)) (some ([.agg [Cell.int 0,Cell.int 0,Cell.int 0,.lst true 1 []],.one (Cell.int 0),.one (Cell.bool false)],H13)) ((slcC 1 (c11) 0 (some i12) none).bind fun c17=>(lenC c17).bind fun n18=>qoq k m m i12 (c17) (n18:Int) 0 0 0 H13))) (cond (decide (i12 > 2)) (some ([.agg [Cell.int 0,Cell.int 0,Cell.int 0,.lst true 1 []],.one (Cell.int 0),.one (Cell.bool false)],H13)) ((slcC 1 (c11) 0 (some i12) none).bind fun c32=>(lenC c32).bind fun n33=>qoq k m m i12 (c32) (n33:Int) 0 0 0 H13))
def fbj (k m:Nat)(s1:ByteArray):Option Res:=(qjx qfj [.one (Cell.str s1)] []).bind fun r2=>cond (qab qnhb r2.1) ((cI .i64 (qaa r2.1 0) 0).bind fun i3=>(cI .i64 (qaa r2.1 0) 1).bind fun i4=>(cI .i64 (qaa r2.1 0) 2).bind fun i5=>(cC (qaa r2.1 0) 3).bind fun c6=>(cB (qaa r2.1 1) 0).bind fun b7=>cond b7 (some ([.agg [Cell.int i3,Cell.int i4,Cell.int i5,c6],.one (Cell.int 3),.one (Cell.bool true)],r2.2)) ((qjx qer [.one (Cell.str s1),.one (Cell.str (bs [46]))] r2.2).bind fun r8=>cond (qab qiub r8.1) ((cC (qaa r8.1 0) 0).bind fun c9=>(lenC c9).bind fun n10=>cond (decide ((n10:Int) > 3)) (some ([.agg [Cell.int 0,Cell.int 0,Cell.int 0,.lst true 1 []],.one (Cell.int 0),.one (Cell.bool false)],r8.2)) (qqc k m m (c9) (n10:Int) r8.2)) none)) none
abbrev fbj_l0_B (k m:Nat):TB:=evC qedb qhc (evF qedb (k+1)) m (sub [1,1,1,1,1,0,2,3] qhc.code) none
abbrev fbj_l0_K (k m:Nat):TK:=qaz 0 (seqK (evC qedb qhc (evF qedb (k+1)) m (sub [1,1,1,1,1,1] qhc.code) none) (retK qedb qhc))
abbrev fbj_l1_B (k m:Nat):TB:=evC qedb qhc (evF qedb (k+1)) m (sub [1,1,1,1,1,1,1,1,0,1,2,3] qhc.code) none
abbrev fbj_l1_K (k m:Nat):TK:=qaz 2 (seqK (evC qedb qhc (evF qedb (k+1)) m (sub [1,1,1,1,1,1,1,1,1] qhc.code) none) (retK qedb qhc))
theorem fbj_l1_eq (k m:Nat):∀ (n:Nat) (i19:Int) (c20:Cell) (i21 i22 i23 i24:Int) (H25:List Entry),qby (some [2,8,9,45,46,47]) (fbj_l1_B k m) (fbj_l1_K k m) n ⟨fT 70 0 [(2,.loc 2 0),(8,.av (.one (Cell.int i19))),(9,.loc 9 0),(45,.av (.one (c20))),(46,.av (.one (Cell.int i21))),(47,.av (.one (Cell.int i22)))],fX 70 0 [(2,[Cell.int 0,Cell.int 0,Cell.int 0,.lst true 1 []]),(9,[Cell.int i23,Cell.int i24])],H25⟩=qoq (k+1) m n i19 c20 i21 i22 i23 i24 H25:=by
 intro n
 induction n with
 | zero=>intros;rfl
 | succ n ih=>intros;simp only[qoq,← ih];kernel_rfl
theorem fbj_l0_eq (k m:Nat):∀ (n:Nat) (c11:Cell) (i12:Int) (H13:List Entry),qby (some [2,7,8]) (fbj_l0_B k m) (fbj_l0_K k m) n ⟨fT 70 0 [(2,.loc 2 0),(7,.av (.one (c11))),(8,.av (.one (Cell.int i12)))],fX 70 0 [(2,[Cell.int 0,Cell.int 0,Cell.int 0,.lst true 1 []])],H13⟩=qqc (k+1) m n c11 i12 H13:=by
 intro n
 induction n with
 | zero=>intros;rfl
 | succ n ih=>intros;simp only[qqc,← fbj_l1_eq k m,← ih];kernel_rfl
theorem fbj_code (k m:Nat)(s1:ByteArray):evC qedb qhc (evF qedb (k+1)) m qhc.code none (retK qedb qhc) (enter qhc [.one (Cell.str s1)] [])=fbj (k+1) m s1:=by
 simp only[fbj,← fbj_l0_eq k m]
 kernel_rfl
theorem qpd {s1:ByteArray}{r:Res}(k:Nat)(h:fbj (k+1) (k+1) s1=some r):qvd [.one (Cell.str s1)] []=some r:=qap (k:=k+2) (Eq.trans (Eq.trans (by kernel_rfl) (fbj_code k (k+1) s1)) h)
def pl_fbi:List (Nat×Run):=[]
def G_fbi:Ctx:=ctx qbd qbc pl_fbi
def qii:Run:=lim G_fbi qdrb
theorem ok_fbi:FnOk Tryz.prog OkT qdrb qii:=qal (l:=pl_fbi) qae tyTab_ok qad okT .nil qdrb
def fbi (k m:Nat)(i1 i2 i3:Int)(c4:Cell)(i5:Int):Option Res:=cond (i5==1) (some ([.agg [Cell.int (IntKind.i64.wrap (i1+1)),Cell.int 0,Cell.int 0,.lst true 1 []]],[])) (cond (i5==2) (some ([.agg [Cell.int i1,Cell.int (IntKind.i64.wrap (i2+1)),Cell.int 0,.lst true 1 []]],[])) (some ([.agg [Cell.int i1,Cell.int i2,Cell.int (IntKind.i64.wrap (i3+1)),.lst true 1 []]],[])))
theorem fbi_code (k m:Nat)(i1 i2 i3:Int)(c4:Cell)(i5:Int):evC G_fbi qkyb (evF G_fbi (k+1)) m qkyb.code none (retK G_fbi qkyb) (enter qkyb [.agg [Cell.int i1,Cell.int i2,Cell.int i3,c4],.one (Cell.int i5)] [])=fbi (k+1) m i1 i2 i3 c4 i5:=by
 kernel_rfl
theorem qvo {i1 i2 i3:Int}{c4:Cell}{i5:Int}{r:Res}(k:Nat)(h:fbi (k+1) (k+1) i1 i2 i3 c4 i5=some r):qii [.agg [Cell.int i1,Cell.int i2,Cell.int i3,c4],.one (Cell.int i5)] []=some r:=qap (k:=k+2) (Eq.trans (Eq.trans (by kernel_rfl) (fbi_code k (k+1) i1 i2 i3 c4 i5)) h)
def pl_fav:List (Nat×Run):=[]
def G_fav:Ctx:=ctx qbd qbc pl_fav
def qkj:Run:=lim G_fav qdab
theorem ok_fav:FnOk Tryz.prog OkT qdab qkj:=qal (l:=pl_fav) qae tyTab_ok qad okT .nil qdab
def fav (k m:Nat)(i1 i2 i3:Int)(c4:Cell):Option Res:=some ([.agg [Cell.int 1,Cell.int i1,Cell.int i2,Cell.int i3,.lst true 1 [[Cell.str (bs [48])]]]],[])
theorem fav_code (k m:Nat)(i1 i2 i3:Int)(c4:Cell):evC G_fav qkeb (evF G_fav (k+1)) m qkeb.code none (retK G_fav qkeb) (enter qkeb [.agg [Cell.int i1,Cell.int i2,Cell.int i3,c4]] [])=fav (k+1) m i1 i2 i3 c4:=by
 kernel_rfl
theorem qrcb {i1 i2 i3:Int}{c4:Cell}{r:Res}(k:Nat)(h:fav (k+1) (k+1) i1 i2 i3 c4=some r):qkj [.agg [Cell.int i1,Cell.int i2,Cell.int i3,c4]] []=some r:=qap (k:=k+2) (Eq.trans (Eq.trans (by kernel_rfl) (fav_code k (k+1) i1 i2 i3 c4)) h)
def pl_faw:List (Nat×Run):=[]
def G_faw:Ctx:=ctx qbd qbc pl_faw
def qun:Run:=lim G_faw qfwb
theorem ok_faw:FnOk Tryz.prog OkT qfwb qun:=qal (l:=pl_faw) qae tyTab_ok qad okT .nil qfwb
def faw (k m:Nat)(i1 i2 i3:Int)(c4:Cell)(i5:Int):Option Res:=cond (i1 != 0) (some ([.agg [Cell.int (IntKind.i64.wrap (i1+1)),Cell.int 0,Cell.int 0,.lst true 1 []]],[])) (cond (i5==1) (some ([.agg [Cell.int (IntKind.i64.wrap (i1+1)),Cell.int 0,Cell.int 0,.lst true 1 []]],[])) (cond (i2 != 0) (some ([.agg [Cell.int 0,Cell.int (IntKind.i64.wrap (i2+1)),Cell.int 0,.lst true 1 []]],[])) (cond (i5==2) (some ([.agg [Cell.int 0,Cell.int (IntKind.i64.wrap (i2+1)),Cell.int 0,.lst true 1 []]],[])) (some ([.agg [Cell.int 0,Cell.int 0,Cell.int (IntKind.i64.wrap (i3+1)),.lst true 1 []]],[])))))
theorem faw_code (k m:Nat)(i1 i2 i3:Int)(c4:Cell)(i5:Int):evC G_faw qkqb (evF G_faw (k+1)) m qkqb.code none (retK G_faw qkqb) (enter qkqb [.agg [Cell.int i1,Cell.int i2,Cell.int i3,c4],.one (Cell.int i5)] [])=faw (k+1) m i1 i2 i3 c4 i5:=by
 kernel_rfl
theorem qtbb {i1 i2 i3:Int}{c4:Cell}{i5:Int}{r:Res}(k:Nat)(h:faw (k+1) (k+1) i1 i2 i3 c4 i5=some r):qun [.agg [Cell.int i1,Cell.int i2,Cell.int i3,c4],.one (Cell.int i5)] []=some r:=qap (k:=k+2) (Eq.trans (Eq.trans (by kernel_rfl) (faw_code k (k+1) i1 i2 i3 c4 i5)) h)
def pl_fbo:List (Nat×Run):=[(qdrb,qii),(qdab,qkj),(qfwb,qun)]
def G_fbo:Ctx:=ctx qbd qbc pl_fbo
def qwu:Run:=lim G_fbo qfyb
theorem ok_fbo:FnOk Tryz.prog OkT qfyb qwu:=qal (l:=pl_fbo) qae tyTab_ok qad okT (.cons ok_fbi (.cons ok_fav (.cons ok_faw .nil))) qfyb
def fbo (k m:Nat)(s1:ByteArray)(i2 i3 i4:Int)(c5:Cell)(i6:Int):Option Res:=(callL qii [.agg [Cell.int i2,Cell.int i3,Cell.int i4,c5],.one (Cell.int i6)] []).bind fun r7=>cond (qab rk_fbi r7.1) ((cI .i64 (qaa r7.1 0) 0).bind fun i8=>(cI .i64 (qaa r7.1 0) 1).bind fun i9=>(cI .i64 (qaa r7.1 0) 2).bind fun i10=>(cC (qaa r7.1 0) 3).bind fun c11=>cond (s1.toList==(bs [62,61]).toList) (restK [Cell.int 4,Cell.int i2,Cell.int i3,Cell.int i4,c5] fun d12=>some ([.one ((.lst true 5 (chunks 5 1 d12)))],r7.2)) (cond (s1.toList==(bs [60]).toList) (restK [Cell.int 1,Cell.int i2,Cell.int i3,Cell.int i4,c5] fun d13=>some ([.one ((.lst true 5 (chunks 5 1 d13)))],r7.2)) (cond (s1.toList==(bs [62]).toList) (cond (decide (i6 < 3)) (restK [Cell.int 4,Cell.int i8,Cell.int i9,Cell.int i10,c11] fun d14=>some ([.one ((.lst true 5 (chunks 5 1 d14)))],r7.2)) (restK [Cell.int 3,Cell.int i2,Cell.int i3,Cell.int i4,c5] fun d15=>some ([.one ((.lst true 5 (chunks 5 1 d15)))],r7.2))) (cond (s1.toList==(bs [60,61]).toList) (cond (decide (i6 < 3)) ((callL qkj [.agg [Cell.int i8,Cell.int i9,Cell.int i10,c11]] r7.2).bind fun r16=>cond (qab qmlb r16.1) ((cI .i64 (qaa r16.1 0) 0).bind fun i17=>(cI .i64 (qaa r16.1 0) 1).bind fun i18=>(cI .i64 (qaa r16.1 0) 2).bind fun i19=>(cI .i64 (qaa r16.1 0) 3).bind fun i20=>(cC (qaa r16.1 0) 4).bind fun c21=>restK [Cell.int i17,Cell.int i18,Cell.int i19,Cell.int i20,c21] fun d22=>some ([.one ((.lst true 5 (chunks 5 1 d22)))],r16.2)) none) (restK [Cell.int 2,Cell.int i2,Cell.int i3,Cell.int i4,c5] fun d23=>some ([.one ((.lst true 5 (chunks 5 1 d23)))],r7.2))) (cond (s1.toList==(bs [126]).toList) ((callL qii [.agg [Cell.int i2,Cell.int i3,Cell.int 0,.lst true 1 []],.one (Cell.int (if 2 < i6 then 2 else i6))] []).bind fun r24=>cond (qab rk_fbi r24.1) ((cI .i64 (qaa r24.1 0) 0).bind fun i25=>(cI .i64 (qaa r24.1 0) 1).bind fun i26=>(cI .i64 (qaa r24.1 0) 2).bind fun i27=>(cC (qaa r24.1 0) 3).bind fun c28=>qka r24.2 ((callL qkj [.agg [Cell.int i25,Cell.int i26,Cell.int i27,c28]] []).bind fun r29=>cond (qab qmlb r29.1) ((cI .i64 (qaa r29.1 0) 0).bind fun i30=>(cI .i64 (qaa r29.1 0) 1).bind fun i31=>(cI .i64 (qaa r29.1 0) 2).bind fun i32=>(cI .i64 (qaa r29.1 0) 3).bind fun i33=>(cC (qaa r29.1 0) 4).bind fun c34=>qka r29.2 (restK [Cell.int 4,Cell.int i2,Cell.int i3,Cell.int i4,c5,Cell.int i30,Cell.int i31,Cell.int i32,Cell.int i33,c34] fun d35=>some ([.one ((.lst true 5 (chunks 5 2 d35)))],r7.2))) none)) none) (cond (s1.toList==(bs [94]).toList) ((callL qun [.agg [Cell.int i2,Cell.int i3,Cell.int i4,c5],.one (Cell.int i6)] []).bind fun r36=>cond (qab rk_faw r36.1) ((cI .i64 (qaa r36.1 0) 0).bind fun i37=>(cI .i64 (qaa r36.1 0) 1).bind fun i38=>(cI .i64 (qaa r36.1 0) 2).bind fun i39=>(cC (qaa r36.1 0) 3).bind fun c40=>qka r36.2 ((callL qkj [.agg [Cell.int i37,Cell.int i38,Cell.int i39,c40]] []).bind fun r41=>cond (qab qmlb r41.1) ((cI .i64 (qaa r41.1 0) 0).bind fun i42=>(cI .i64 (qaa r41.1 0) 1).bind fun i43=>(cI .i64 (qaa r41.1 0) 2).bind fun i44=>(cI .i64 (qaa r41.1 0) 3).bind fun i45=>(cC (qaa r41.1 0) 4).bind fun c46=>qka r41.2 (restK [Cell.int 4,Cell.int i2,Cell.int i3,Cell.int i4,c5,Cell.int i42,Cell.int i43,Cell.int i44,Cell.int i45,c46] fun d47=>some ([.one ((.lst true 5 (chunks 5 2 d47)))],r7.2))) none)) none) (cond (decide (i6 < 3)) ((callL qkj [.agg [Cell.int i8,Cell.int i9,Cell.int i10,c11]] []).bind fun r48=>cond (qab qmlb r48.1) ((cI .i64 (qaa r48.1 0) 0).bind fun i49=>(cI .i64 (qaa r48.1 0) 1).bind fun i50=>(cI .i64 (qaa r48.1 0) 2).bind fun i51=>(cI .i64 (qaa r48.1 0) 3).bind fun i52=>(cC (qaa r48.1 0) 4).bind fun c53=>qka r48.2 (restK [Cell.int 4,Cell.int i2,Cell.int i3,Cell.int i4,c5,Cell.int i49,Cell.int i50,Cell.int i51,Cell.int i52,c53] fun d54=>some ([.one ((.lst true 5 (chunks 5 2 d54)))],r7.2))) none) (restK [Cell.int 0,Cell.int i2,Cell.int i3,Cell.int i4,c5] fun d55=>some ([.one ((.lst true 5 (chunks 5 1 d55)))],r7.2))))))))) none
theorem fbo_code (k m:Nat)(s1:ByteArray)(i2 i3 i4:Int)(c5:Cell)(i6:Int):evC G_fbo qlpb (evF G_fbo (k+1)) m qlpb.code none (retK G_fbo qlpb) (enter qlpb [.one (Cell.str s1),.agg [Cell.int i2,Cell.int i3,Cell.int i4,c5],.one (Cell.int i6)] [])=fbo (k+1) m s1 i2 i3 i4 c5 i6:=by
 kernel_rfl
theorem qpxb {s1:ByteArray}{i2 i3 i4:Int}{c5:Cell}{i6:Int}{r:Res}(k:Nat)(h:fbo (k+1) (k+1) s1 i2 i3 i4 c5 i6=some r):qwu [.one (Cell.str s1),.agg [Cell.int i2,Cell.int i3,Cell.int i4,c5],.one (Cell.int i6)] []=some r:=qap (k:=k+2) (Eq.trans (Eq.trans (by kernel_rfl) (fbo_code k (k+1) s1 i2 i3 i4 c5 i6)) h)
def pl_fax:List (Nat×Run):=[(qcfb,quu),(qdfb,qvd),(qfyb,qwu)]
def G_fax:Ctx:=ctx qbd qbc pl_fax
def qvy:Run:=lim G_fax qeab
theorem ok_fax:FnOk Tryz.prog OkT qeab qvy:=qal (l:=pl_fax) qae tyTab_ok qad okT (.cons ok_ffb (.cons ok_fbj (.cons ok_fbo .nil))) qeab
def qvj (k m:Nat):Nat→ByteArray→Int→Option Res | 0,_,_=>none | n+1,s2,i3=>cond (decide (i3 < 8)) (if 0≤i3∧i3 < 8 then ((cS [Cell.str (bs [94]),Cell.str (bs [126]),Cell.str (bs [62,61]),Cell.str (bs [62]),Cell.str (bs [60,61]),Cell.str (bs [60]),Cell.str (bs [61]),Cell.str (bs [])] (i3.toNat*1)).bind fun s4=>(qau quu [.one (Cell.str s2),.one (Cell.str s4)] []).bind fun r5=>cond (qab rk_ffb r5) ((cS (qaa r5 0) 0).bind fun s6=>(cB (qaa r5 1) 0).bind fun b7=>cond (!b7) (qvj k m n s2 (IntKind.i64.wrap (i3+1))) ((callL qvd [.one (Cell.str s6)] []).bind fun r8=>cond (qab rk_fbj r8.1) ((cI .i64 (qaa r8.1 0) 0).bind fun i9=>(cI .i64 (qaa r8.1 0) 1).bind fun i10=>(cI .i64 (qaa r8.1 0) 2).bind fun i11=>(cC (qaa r8.1 0) 3).bind fun c12=>(cI .i64 (qaa r8.1 1) 0).bind fun i13=>(cB (qaa r8.1 2) 0).bind fun b14=>cond (!b14) (some ([.one (.lst true 5 []),.one (Cell.bool false)],r8.2)) ((callL qwu [.one (Cell.str s4),.agg [Cell.int i9,Cell.int i10,Cell.int i11,c12],.one (Cell.int i13)] r8.2).bind fun r15=>cond (qab rk_fbo r15.1) ((cC (qaa r15.1 0) 0).bind fun c16=>some ([.one (c16),.one (Cell.bool true)],r15.2)) none)) none)) none) else none) (some ([.one (.lst true 5 []),.one (Cell.bool false)],[]))
def fax (k m:Nat)(s1:ByteArray):Option Res:=cond (s1.toList==(bs [42]).toList) (some ([.one (.lst true 5 [[Cell.int 4,Cell.int 0,Cell.int 0,Cell.int 0,.lst true 1 []]]),.one (Cell.bool true)],[])) (qvj k m m s1 0)
abbrev fax_l0_B (k m:Nat):TB:=evC G_fax qon (evF G_fax (k+1)) m (sub [1,1,0,1,2,3] qon.code) none
abbrev fax_l0_K (k m:Nat):TK:=qaz 0 (seqK (evC G_fax qon (evF G_fax (k+1)) m (sub [1,1,1] qon.code) none) (retK G_fax qon))
theorem fax_l0_eq (k m:Nat):∀ (n:Nat) (s2:ByteArray) (i3:Int),qby (some [0,15,16]) (fax_l0_B k m) (fax_l0_K k m) n ⟨fT 40 0 [(0,.av (.one (Cell.str s2))),(15,.av (.agg [Cell.str (bs [94]),Cell.str (bs [126]),Cell.str (bs [62,61]),Cell.str (bs [62]),Cell.str (bs [60,61]),Cell.str (bs [60]),Cell.str (bs [61]),Cell.str (bs [])])),(16,.av (.one (Cell.int i3)))],fX 40 0 [],[]⟩=qvj (k+1) m n s2 i3:=by
 intro n
 induction n with
 | zero=>intros;rfl
 | succ n ih=>intros;simp only[qvj,← ih];kernel_rfl
theorem fax_code (k m:Nat)(s1:ByteArray):evC G_fax qon (evF G_fax (k+1)) m qon.code none (retK G_fax qon) (enter qon [.one (Cell.str s1)] [])=fax (k+1) m s1:=by
 simp only[fax,← fax_l0_eq k m]
 kernel_rfl
theorem qxp {s1:ByteArray}{r:Res}(k:Nat)(h:fax (k+1) (k+1) s1=some r):qvy [.one (Cell.str s1)] []=some r:=qap (k:=k+2) (Eq.trans (Eq.trans (by kernel_rfl) (fax_code k (k+1) s1)) h)
def pl_fbg:List (Nat×Run):=[(qrg,qfj),(qoi,qer),(qlf,qft),(fid_fff,qdqb),(qeab,qvy)]
def qejb:Ctx:=ctx qbd qbc pl_fbg
def qwt:Run:=lim qejb qcvb
theorem ok_fbg:FnOk Tryz.prog OkT qcvb qwt:=qal (l:=pl_fbg) qae tyTab_ok qad okT (.cons ok_fao (.cons ok_ffe (.cons ok_fas (.cons ok_fff (.cons ok_fax .nil))))) qcvb
def qzj (k m:Nat):Nat→Cell→Cell→Int→Int→List Entry→Option Res | 0,_,_,_,_,_=>none | n+1,c43,c44,i45,i46,H47=>cond (decide (i46 < i45)) ((idxA 5 (c44) i46).bind fun c48=>(deref H47 (c48)).bind fun p49=>(cI .i64 p49.1 p49.2).bind fun i50=>(cI .i64 p49.1 (p49.2+1)).bind fun i51=>(cI .i64 p49.1 ((p49.2+1)+1)).bind fun i52=>(cI .i64 p49.1 (((p49.2+1)+1)+1)).bind fun i53=>(cC p49.1 ((((p49.2+1)+1)+1)+1)).bind fun c54=>(qau qft [.agg [Cell.int i51,Cell.int i52,Cell.int i53,c54]] H47).bind fun r55=>cond (qab qpnb r55) ((cB (qaa r55 0) 0).bind fun b56=>cond (!b56) (some ([.one (.lst true 5 []),.one (Cell.bool false)],H47)) (qzj k m n (c43) (c44) i45 (IntKind.i64.wrap (i46+1)) H47)) none) ((lenC c43).bind fun n57=>some ([.one (c43),.one (Cell.bool (decide ((n57:Int)≤4)))],H47))
def qsf (k m:Nat):Nat→Cell→Cell→Int→Int→List Entry→Option Res | 0,_,_,_,_,_=>none | n+1,c29,c30,i31,i32,H33=>cond (decide (i32 < i31)) ((idxA 1 (c30) i32).bind fun c34=>(deref H33 (c34)).bind fun p35=>(cS p35.1 p35.2).bind fun s36=>(callL qvy [.one (Cell.str s36)] H33).bind fun r37=>cond (qab rk_fax r37.1) ((cC (qaa r37.1 0) 0).bind fun c38=>(cB (qaa r37.1 1) 0).bind fun b39=>cond (!b39) (some ([.one (.lst true 5 []),.one (Cell.bool false)],r37.2)) ((qbr r37.2 5 c38).bind fun r40=>(app r37.2 5 56 (c29) r40).bind fun p41=>qsf k m n (p41.1) (c30) i31 (IntKind.i64.wrap (i32+1)) p41.2)) none) ((lenC c29).bind fun n42=>qzj k m m (c29) (c29) (n42:Int) 0 H33)
def fbg (k m:Nat)(s1:ByteArray):Option Res:=(qau qdqb [.one (Cell.str s1),.one (Cell.str (bs [32]))] []).bind fun r2=>cond (qab rk_fff r2) ((cS (qaa r2 0) 0).bind fun s3=>(qjx qer [.one (Cell.str s3),.one (Cell.str (bs [32]))] []).bind fun r4=>cond (qab qiub r4.1) ((cC (qaa r4.1 0) 0).bind fun c5=>(lenC c5).bind fun n6=>cond ((n6:Int)==3) ((idxA 1 (c5) 1).bind fun c7=>(deref r4.2 (c7)).bind fun p8=>(cS p8.1 p8.2).bind fun s9=>cond (s9.toList==(bs [45]).toList) ((idxA 1 (c5) 0).bind fun c10=>(deref r4.2 (c10)).bind fun p11=>(cS p11.1 p11.2).bind fun s12=>(qjx qfj [.one (Cell.str s12)] r4.2).bind fun r13=>cond (qab qnhb r13.1) ((cI .i64 (qaa r13.1 0) 0).bind fun i14=>(cI .i64 (qaa r13.1 0) 1).bind fun i15=>(cI .i64 (qaa r13.1 0) 2).bind fun i16=>(cC (qaa r13.1 0) 3).bind fun c17=>(cB (qaa r13.1 1) 0).bind fun b18=>(idxA 1 (c5) 2).bind fun c19=>(deref r13.2 (c19)).bind fun p20=>(cS p20.1 p20.2).bind fun s21=>(qjx qfj [.one (Cell.str s21)] r13.2).bind fun r22=>cond (qab qnhb r22.1) ((cI .i64 (qaa r22.1 0) 0).bind fun i23=>(cI .i64 (qaa r22.1 0) 1).bind fun i24=>(cI .i64 (qaa r22.1 0) 2).bind fun i25=>(cC (qaa r22.1 0) 3).bind fun c26=>(cB (qaa r22.1 1) 0).bind fun b27=>cond b18 (some ([.one ((.vs r22.2.length 5 0 2 0)),.one (Cell.bool b27)],(r22.2++[Entry.mk 5 [[Cell.int 4,Cell.int i14,Cell.int i15,Cell.int i16,c17],[Cell.int 2,Cell.int i23,Cell.int i24,Cell.int i25,c26]] 0 false]))) (some ([.one ((.vs r22.2.length 5 0 2 0)),.one (Cell.bool false)],(r22.2++[Entry.mk 5 [[Cell.int 4,Cell.int i14,Cell.int i15,Cell.int i16,c17],[Cell.int 2,Cell.int i23,Cell.int i24,Cell.int i25,c26]] 0 false])))) none) none) ((lenC c5).bind fun n28=>qsf k m m (.lst true 5 []) (c5) (n28:Int) 0 r4.2)) ((lenC c5).bind fun n58=>qsf k m m (.lst true 5 []) (c5) (n58:Int) 0 r4.2)) none) none
abbrev fbg_l0_B (k m:Nat):TB:=evC qejb qha (evF qejb (k+1)) m (sub [1,1,1,1,0,1,2,3] qha.code) none
abbrev fbg_l0_K (k m:Nat):TK:=qaz 0 (seqK (evC qejb qha (evF qejb (k+1)) m (sub [1,1,1,1,1] qha.code) none) (retK qejb qha))
abbrev fbg_l1_B (k m:Nat):TB:=evC qejb qha (evF qejb (k+1)) m (sub [1,1,1,1,1,0,1,2,3] qha.code) none
abbrev fbg_l1_K (k m:Nat):TK:=qaz 2 (seqK (evC qejb qha (evF qejb (k+1)) m (sub [1,1,1,1,1,1] qha.code) none) (retK qejb qha))
theorem fbg_l1_eq (k m:Nat):∀ (n:Nat) (c43 c44:Cell) (i45 i46:Int) (H47:List Entry),qby (some [9,68,69,70]) (fbg_l1_B k m) (fbg_l1_K k m) n ⟨fT 83 0 [(9,.av (.one (c43))),(68,.av (.one (c44))),(69,.av (.one (Cell.int i45))),(70,.av (.one (Cell.int i46)))],fX 83 0 [],H47⟩=qzj (k+1) m n c43 c44 i45 i46 H47:=by
 intro n
 induction n with
 | zero=>intros;rfl
 | succ n ih=>intros;simp only[qzj,← ih];kernel_rfl
theorem fbg_l0_eq (k m:Nat):∀ (n:Nat) (c29 c30:Cell) (i31 i32:Int) (H33:List Entry),qby (some [9,51,52,53]) (fbg_l0_B k m) (fbg_l0_K k m) n ⟨fT 83 0 [(9,.av (.one (c29))),(51,.av (.one (c30))),(52,.av (.one (Cell.int i31))),(53,.av (.one (Cell.int i32)))],fX 83 0 [],H33⟩=qsf (k+1) m n c29 c30 i31 i32 H33:=by
 intro n
 induction n with
 | zero=>intros;rfl
 | succ n ih=>intros;simp only[qsf,← fbg_l1_eq k m,← ih];kernel_rfl
theorem fbg_code (k m:Nat)(s1:ByteArray):evC qejb qha (evF qejb (k+1)) m qha.code none (retK qejb qha) (enter qha [.one (Cell.str s1)] [])=fbg (k+1) m s1:=by
 simp only[fbg,← fbg_l0_eq k m]
 kernel_rfl
theorem qwx {s1:ByteArray}{r:Res}(k:Nat)(h:fbg (k+1) (k+1) s1=some r):qwt [.one (Cell.str s1)] []=some r:=qap (k:=k+2) (Eq.trans (Eq.trans (by kernel_rfl) (fbg_code k (k+1) s1)) h)
def pl_fan:List (Nat×Run):=[(qoi,qer),(qcvb,qwt)]
def G_fan:Ctx:=ctx qbd qbc pl_fan
def qxm:Run:=lim G_fan qfob
theorem ok_fan:FnOk Tryz.prog OkT qfob qxm:=qal (l:=pl_fan) qae tyTab_ok qad okT (.cons ok_ffe (.cons ok_fbg .nil)) qfob
def qbmb (k m:Nat):Nat→Cell→Cell→Int→Int→List Entry→Option Res | 0,_,_,_,_,_=>none | n+1,c6,c7,i8,i9,H10=>cond (decide (i9 < i8)) ((idxA 1 (c7) i9).bind fun c11=>(deref H10 (c11)).bind fun p12=>(cS p12.1 p12.2).bind fun s13=>(callL qwt [.one (Cell.str s13)] H10).bind fun r14=>cond (qab rk_fbg r14.1) ((cC (qaa r14.1 0) 0).bind fun c15=>(cB (qaa r14.1 1) 0).bind fun b16=>cond (!b16) (some ([.one (.lst true 1 []),.one (Cell.bool false)],r14.2)) (restK [c15] fun d17=>(qbr r14.2 1 (.lst true 1 (chunks 1 1 d17))).bind fun r18=>(app r14.2 1 24 (c6) r18).bind fun p19=>qbmb k m n (p19.1) (c7) i8 (IntKind.i64.wrap (i9+1)) p19.2)) none) (some ([.one (c6),.one (Cell.bool true)],H10))
def fan (k m:Nat)(s1:ByteArray):Option Res:=(qjx qer [.one (Cell.str s1),.one (Cell.str (bs [124,124]))] []).bind fun r2=>cond (qab qiub r2.1) ((cC (qaa r2.1 0) 0).bind fun c3=>(lenC c3).bind fun n4=>cond (decide ((n4:Int) > 4)) (some ([.one (.lst true 1 []),.one (Cell.bool false)],r2.2)) ((lenC c3).bind fun n5=>qbmb k m m (.lst true 1 []) (c3) (n5:Int) 0 r2.2)) none
abbrev fan_l0_B (k m:Nat):TB:=evC G_fan qnn (evF G_fan (k+1)) m (sub [1,1,1,1,0,1,2,3] qnn.code) none
abbrev fan_l0_K (k m:Nat):TK:=qaz 0 (seqK (evC G_fan qnn (evF G_fan (k+1)) m (sub [1,1,1,1,1] qnn.code) none) (retK G_fan qnn))
theorem fan_l0_eq (k m:Nat):∀ (n:Nat) (c6 c7:Cell) (i8 i9:Int) (H10:List Entry),qby (some [5,15,16,17]) (fan_l0_B k m) (fan_l0_K k m) n ⟨fT 34 0 [(5,.av (.one (c6))),(15,.av (.one (c7))),(16,.av (.one (Cell.int i8))),(17,.av (.one (Cell.int i9)))],fX 34 0 [],H10⟩=qbmb (k+1) m n c6 c7 i8 i9 H10:=by
 intro n
 induction n with
 | zero=>intros;rfl
 | succ n ih=>intros;simp only[qbmb,← ih];kernel_rfl
theorem fan_code (k m:Nat)(s1:ByteArray):evC G_fan qnn (evF G_fan (k+1)) m qnn.code none (retK G_fan qnn) (enter qnn [.one (Cell.str s1)] [])=fan (k+1) m s1:=by
 simp only[fan,← fan_l0_eq k m]
 kernel_rfl
theorem qwz {s1:ByteArray}{r:Res}(k:Nat)(h:fan (k+1) (k+1) s1=some r):qxm [.one (Cell.str s1)] []=some r:=qap (k:=k+2) (Eq.trans (Eq.trans (by kernel_rfl) (fan_code k (k+1) s1)) h)
def pl_fac:List (Nat×Run):=[]
def G_fac:Ctx:=ctx qbd qbc pl_fac
def qfh:Run:=lim G_fac quv
theorem ok_fac:FnOk Tryz.prog OkT quv qfh:=qal (l:=pl_fac) qae tyTab_ok qad okT .nil quv
def qbgb (k m:Nat):Nat→Cell→Int→Int→Option Res | 0,_,_,_=>none | n+1,c3,i4,i5=>cond (decide (i5 < i4)) ((idxA 1 (c3) i5).bind fun c6=>(deref [] (c6)).bind fun p7=>(cI .i64 p7.1 p7.2).bind fun i8=>cond (i8 != 0) (some ([.one (Cell.int i8)],[])) (qbgb k m n (c3) i4 (IntKind.i64.wrap (i5+1)))) (some ([.one (Cell.int 0)],[]))
def fac (k m:Nat)(c1:Cell):Option Res:=(lenC c1).bind fun n2=>qbgb k m m (c1) (n2:Int) 0
abbrev fac_l0_B (k m:Nat):TB:=evC G_fac qlq (evF G_fac (k+1)) m (sub [1,1,0,1,2,3] qlq.code) none
abbrev fac_l0_K (k m:Nat):TK:=qaz 0 (seqK (evC G_fac qlq (evF G_fac (k+1)) m (sub [1,1,1] qlq.code) none) (retK G_fac qlq))
theorem fac_l0_eq (k m:Nat):∀ (n:Nat) (c3:Cell) (i4 i5:Int),qby (some [3,6,7,8]) (fac_l0_B k m) (fac_l0_K k m) n ⟨fT 18 0 [(3,.av (.one (Cell.int 0))),(6,.av (.one (c3))),(7,.av (.one (Cell.int i4))),(8,.av (.one (Cell.int i5)))],fX 18 0 [],[]⟩=qbgb (k+1) m n c3 i4 i5:=by
 intro n
 induction n with
 | zero=>intros;rfl
 | succ n ih=>intros;simp only[qbgb,← ih];kernel_rfl
theorem fac_code (k m:Nat)(c1:Cell):evC G_fac qlq (evF G_fac (k+1)) m qlq.code none (retK G_fac qlq) (enter qlq [.one (c1)] [])=fac (k+1) m c1:=by
 simp only[fac,← fac_l0_eq k m]
 kernel_rfl
theorem qmnb {c1:Cell}{r:Res}(k:Nat)(h:fac (k+1) (k+1) c1=some r):qfh [.one (c1)] []=some r:=qap (k:=k+2) (Eq.trans (Eq.trans (by kernel_rfl) (fac_code k (k+1) c1)) h)
def pl_fad:List (Nat×Run):=[]
def G_fad:Ctx:=ctx qbd qbc pl_fad
def qqe:Run:=lim G_fad qclb
theorem ok_fad:FnOk Tryz.prog OkT qclb qqe:=qal (l:=pl_fad) qae tyTab_ok qad okT .nil qclb
def fad (k m:Nat)(i1:Int):Option Res:=some ([.one (Cell.bool (i1 != i1))],[])
theorem fad_code (k m:Nat)(i1:Int):evC G_fad qknb (evF G_fad (k+1)) m qknb.code none (retK G_fad qknb) (enter qknb [.one (Cell.int i1)] [])=fad (k+1) m i1:=by
 kernel_rfl
theorem qrib {i1:Int}{r:Res}(k:Nat)(h:fad (k+1) (k+1) i1=some r):qqe [.one (Cell.int i1)] []=some r:=qap (k:=k+2) (Eq.trans (Eq.trans (by kernel_rfl) (fad_code k (k+1) i1)) h)
end
end Go.Ev
