/- What the evaluator says of the functions, each as a Lean function over cells. Printed by a program of this claim. Conditions: none. -/
import Derived.Test.YteofbfalngmmeaaGreatDoorSh4
import Derived.KernelRfl
namespace Go.Ev
open Go Go.Proofs
noncomputable section
set_option maxRecDepth 100000
set_option linter.unusedVariables false
set_option linter.unusedSimpArgs false
def qcqd:List (Nat×Run):=[]
def qvwb:Ctx:=ctx qbi qbh qcqd
def qfm:Run:=lim qvwb qqf
theorem qwqb:FnOk Tryz.prog OkT qqf qfm:=qao (l:=qcqd) qac tyTab_ok qad okT .nil qqf
def qbgb (k m:Nat):Nat→ByteArray→Int→Cell→Cell→Option Res | 0,_,_,_,_=>none | n+1,s4,i5,c6,c7=>(lenC c6).bind fun n8=>cond (decide (i5 < (n8:Int))) ((idxA 1 (c6) i5).bind fun c9=>(deref [] (c9)).bind fun p10=>(cS p10.1 p10.2).bind fun s11=>cond (s11.toList==s4.toList) (some ([.one (Cell.int i5)],[])) (qbgb k m n s4 (IntKind.i64.wrap (i5+1)) (c6) (c7))) (some ([.one (Cell.int (-1))],[]))
def fdb (k m:Nat)(c1 c2:Cell)(s3:ByteArray):Option Res:=qbgb k m m s3 0 (c1) (c2)
abbrev qibc (k m:Nat):TB:=evC qvwb qot (evF qvwb (k+1)) m (sub [1,0,1,2,3] qot.code) none
abbrev qhnc (k m:Nat):TK:=qaw 0 (seqK (evC qvwb qot (evF qvwb (k+1)) m (sub [1,1] qot.code) none) (retK qvwb qot))
theorem qxfb (k m:Nat):∀ (n:Nat) (s4:ByteArray) (i5:Int) (c6 c7:Cell),qbj (some [1,2,5]) (qibc k m) (qhnc k m) n ⟨fT 21 0 [(1,.av (.one (Cell.str s4))),(2,.loc 2 0),(5,.av (.one (Cell.int i5)))],fX 21 0 [(2,[c6,c7])],[]⟩=qbgb (k+1) m n s4 i5 c6 c7:=by
 intro n
 induction n with
 | zero=>intros;rfl
 | succ n ih=>intros;simp only[qbgb,← ih];kernel_rfl
theorem qovc (k m:Nat)(c1 c2:Cell)(s3:ByteArray):evC qvwb qot (evF qvwb (k+1)) m qot.code none (retK qvwb qot) (enter qot [.agg [c1,c2],.one (Cell.str s3)] [])=fdb (k+1) m c1 c2 s3:=by
 simp only[fdb,← qxfb k m]
 kernel_rfl
theorem qoqb {c1 c2:Cell}{s3:ByteArray}{r:Res}(k:Nat)(h:fdb (k+1) (k+1) c1 c2 s3=some r):qfm [.agg [c1,c2],.one (Cell.str s3)] []=some r:=qap (k:=k+2) (Eq.trans (Eq.trans (by kernel_rfl) (qovc k (k+1) c1 c2 s3)) h)
def qtqc:List (Nat×Run):=[(qqf,qfm)]
def qfcd:Ctx:=ctx qbi qbh qtqc
def qic:Run:=lim qfcd qro
theorem qizc:FnOk Tryz.prog OkT qro qic:=qao (l:=qtqc) qac tyTab_ok qad okT (.cons qwqb .nil) qro
def fdd (k m:Nat)(c1 c2:Cell)(s3:ByteArray):Option Res:=(qbc qfm [.agg [c1,c2],.one (Cell.str s3)] []).bind fun r4=>cond (qab qmub r4) ((cI .i64 (qaa r4 0) 0).bind fun i5=>cond (decide (i5 < 0)) (some ([.one (.lst true 1 [])],[])) ((idxA 1 (c2) i5).bind fun c6=>(deref [] (c6)).bind fun p7=>(cC p7.1 p7.2).bind fun c8=>some ([.one (c8)],[]))) none
theorem qkmc (k m:Nat)(c1 c2:Cell)(s3:ByteArray):evC qfcd qhxb (evF qfcd (k+1)) m qhxb.code none (retK qfcd qhxb) (enter qhxb [.agg [c1,c2],.one (Cell.str s3)] [])=fdd (k+1) m c1 c2 s3:=by
 kernel_rfl
theorem qvj {c1 c2:Cell}{s3:ByteArray}{r:Res}(k:Nat)(h:fdd (k+1) (k+1) c1 c2 s3=some r):qic [.agg [c1,c2],.one (Cell.str s3)] []=some r:=qap (k:=k+2) (Eq.trans (Eq.trans (by kernel_rfl) (qkmc k (k+1) c1 c2 s3)) h)
def qcgd:List (Nat×Run):=[(qqf,qfm),(qgo,qby),(qro,qic)]
def qxdb:Ctx:=ctx qbi qbh qcgd
def qrn:Run:=lim qxdb qegb
theorem ok_fdh:FnOk Tryz.prog OkT qegb qrn:=qao (l:=qcgd) qac tyTab_ok qad okT (.cons qwqb (.cons qwx (.cons qizc .nil))) qegb
def qyz (k m:Nat):Nat→Cell→Cell→Int→Cell→Cell→List Entry→Option Res | 0,_,_,_,_,_,_=>none | n+1,c7,c8,i9,c10,c11,H12=>(lenC c8).bind fun n13=>cond (decide (i9 < (n13:Int))) ((idxA 1 (c8) i9).bind fun c14=>(deref H12 (c14)).bind fun p15=>(cS p15.1 p15.2).bind fun s16=>(qbc qby [.one (c7),.one (Cell.str s16)] H12).bind fun r17=>cond (qab qqn r17) ((cB (qaa r17 0) 0).bind fun b18=>cond (!b18) ((idxA 1 (c8) i9).bind fun c19=>(deref H12 (c19)).bind fun p20=>(cS p20.1 p20.2).bind fun s21=>(qbc qfm [.agg [c10,c11],.one (Cell.str s21)] H12).bind fun r22=>cond (qab qmub r22) ((cI .i64 (qaa r22 0) 0).bind fun i23=>cond (decide (i23≥0)) (some ([.one (Cell.bool false)],H12)) (qyz k m n (c7) (c8) (IntKind.i64.wrap (i9+1)) (c10) (c11) H12)) none) (qyz k m n (c7) (c8) (IntKind.i64.wrap (i9+1)) (c10) (c11) H12)) none) (some ([.one (Cell.bool true)],H12))
def fdh (k m:Nat)(c1 c2:Cell)(s3:ByteArray)(c4:Cell):Option Res:=(callL qic [.agg [c1,c2],.one (Cell.str s3)] []).bind fun r5=>cond (qab qpob r5.1) ((cC (qaa r5.1 0) 0).bind fun c6=>qyz k m m (c4) (c6) 0 (c1) (c2) r5.2) none
abbrev qrpc (k m:Nat):TB:=evC qxdb qnl (evF qxdb (k+1)) m (sub [1,1,0,1,2,3] qnl.code) none
abbrev qguc (k m:Nat):TK:=qaw 0 (seqK (evC qxdb qnl (evF qxdb (k+1)) m (sub [1,1,1] qnl.code) none) (retK qxdb qnl))
theorem qxpb (k m:Nat):∀ (n:Nat) (c7 c8:Cell) (i9:Int) (c10 c11:Cell) (H12:List Entry),qbj (some [2,3,7,8]) (qrpc k m) (qguc k m) n ⟨fT 34 0 [(2,.av (.one (c7))),(3,.loc 3 0),(7,.av (.one (c8))),(8,.av (.one (Cell.int i9)))],fX 34 0 [(3,[c10,c11])],H12⟩=qyz (k+1) m n c7 c8 i9 c10 c11 H12:=by
 intro n
 induction n with
 | zero=>intros;rfl
 | succ n ih=>intros;simp only[qyz,← ih];kernel_rfl
theorem qfuc (k m:Nat)(c1 c2:Cell)(s3:ByteArray)(c4:Cell):evC qxdb qnl (evF qxdb (k+1)) m qnl.code none (retK qxdb qnl) (enter qnl [.agg [c1,c2],.one (Cell.str s3),.one (c4)] [])=fdh (k+1) m c1 c2 s3 c4:=by
 simp only[fdh,← qxpb k m]
 kernel_rfl
theorem qlvb {c1 c2:Cell}{s3:ByteArray}{c4:Cell}{r:Res}(k:Nat)(h:fdh (k+1) (k+1) c1 c2 s3 c4=some r):qrn [.agg [c1,c2],.one (Cell.str s3),.one (c4)] []=some r:=qap (k:=k+2) (Eq.trans (Eq.trans (by kernel_rfl) (qfuc k (k+1) c1 c2 s3 c4)) h)
def qvjc:List (Nat×Run):=[(qgo,qby),(qegb,qrn)]
def qkub:Ctx:=ctx qbi qbh qvjc
def qur:Run:=lim qkub qgob
theorem ok_fde:FnOk Tryz.prog OkT qgob qur:=qao (l:=qvjc) qac tyTab_ok qad okT (.cons qwx (.cons ok_fdh .nil)) qgob
def qua (k m:Nat)(b_l0:Cell→Cell→Cell→List Entry→Option Res):Nat→Cell→Int→Cell→Cell→List Entry→Option Res | 0,_,_,_,_,_=>none | n+1,c9,i10,c11,c12,H13=>(lenC c11).bind fun n14=>cond (decide (i10 < (n14:Int))) ((idxA 1 (c11) i10).bind fun c15=>(deref H13 (c15)).bind fun p16=>(cS p16.1 p16.2).bind fun s17=>(qbc qby [.one (c9),.one (Cell.str s17)] H13).bind fun r18=>cond (qab qqn r18) ((cB (qaa r18 0) 0).bind fun b19=>cond b19 (qua k m b_l0 n (c9) (IntKind.i64.wrap (i10+1)) (c11) (c12) H13) ((idxA 1 (c11) i10).bind fun c20=>(deref H13 (c20)).bind fun p21=>(cS p21.1 p21.2).bind fun s22=>(qbc qrn [.agg [c11,c12],.one (Cell.str s22),.one (c9)] H13).bind fun r23=>cond (qab qulc r23) ((cB (qaa r23 0) 0).bind fun b24=>cond (!b24) (qua k m b_l0 n (c9) (IntKind.i64.wrap (i10+1)) (c11) (c12) H13) ((lenC c11).bind fun n25=>cond (i10==(n25:Int)) (some ([.one (.lst true 1 []),.one (Cell.bool false)],H13)) ((idxA 1 (c11) i10).bind fun c26=>(deref H13 (c26)).bind fun p27=>(cS p27.1 p27.2).bind fun s28=>(app H13 1 16 (c9) [[Cell.str s28]]).bind fun p29=>b_l0 (p29.1) (c11) (c12) p29.2))) none)) none) ((lenC c11).bind fun n30=>cond (i10==(n30:Int)) (some ([.one (.lst true 1 []),.one (Cell.bool false)],H13)) ((idxA 1 (c11) i10).bind fun c31=>(deref H13 (c31)).bind fun p32=>(cS p32.1 p32.2).bind fun s33=>(app H13 1 16 (c9) [[Cell.str s33]]).bind fun p34=>b_l0 (p34.1) (c11) (c12) p34.2))
def qou (k m:Nat):Nat→Cell→Cell→Cell→List Entry→Option Res | 0,_,_,_,_=>none | n+1,c3,c4,c5,H6=>(lenC c3).bind fun n7=>(lenC c4).bind fun n8=>cond (decide ((n7:Int) < (n8:Int))) (qua k m (qou k m n) m (c3) 0 (c4) (c5) H6) (some ([.one (c3),.one (Cell.bool true)],H6))
def fde (k m:Nat)(c1 c2:Cell):Option Res:=qou k m m (.lst true 1 []) (c1) (c2) []
abbrev qbjb (k m:Nat):TB:=evC qkub qii (evF qkub (k+1)) m (sub [1,1,0,2,3] qii.code) none
abbrev qsg (k m:Nat):TK:=qaw 0 (seqK (evC qkub qii (evF qkub (k+1)) m (sub [1,1,1] qii.code) none) (retK qkub qii))
abbrev qhcc (k m:Nat):TB:=evC qkub qii (evF qkub (k+1)) m (sub [1,1,0,2,3,1,2,1,0,2,3] qii.code) none
abbrev qpac (k m:Nat)(n_l0:Nat):TK:=qaw 2 (seqK (evC qkub qii (evF qkub (k+1)) m (sub [1,1,0,2,3,1,2,1,1] qii.code) none) (qaw 1 (qetb (fun s=>qbj (some [1,4]) (qbjb k m) (qsg k m) n_l0 (qmf (some [1,4]) s)) (qsg k m))))
theorem qdvc (k m:Nat)(b_l0:Cell→Cell→Cell→List Entry→Option Res)(n_l0:Nat)(h_l0:∀ (c3 c4 c5:Cell) (H6:List Entry),qbj (some [1,4]) (qbjb k m) (qsg k m) n_l0 ⟨fT 55 0 [(1,.loc 1 0),(4,.av (.one (c3)))],fX 55 0 [(1,[c4,c5])],H6⟩=b_l0 c3 c4 c5 H6):∀ (n:Nat) (c9:Cell) (i10:Int) (c11 c12:Cell) (H13:List Entry),qbj (some [1,4,5]) (qhcc k m) (qpac k m n_l0) n ⟨fT 55 0 [(1,.loc 1 0),(4,.av (.one (c9))),(5,.av (.one (Cell.int i10)))],fX 55 0 [(1,[c11,c12])],H13⟩=qua (k+1) m b_l0 n c9 i10 c11 c12 H13:=by
 intro n
 induction n with
 | zero=>intros;rfl
 | succ n ih=>intros;simp only[qua,← h_l0,← ih];kernel_rfl
theorem qckc (k m:Nat):∀ (n:Nat) (c3 c4 c5:Cell) (H6:List Entry),qbj (some [1,4]) (qbjb k m) (qsg k m) n ⟨fT 55 0 [(1,.loc 1 0),(4,.av (.one (c3)))],fX 55 0 [(1,[c4,c5])],H6⟩=qou (k+1) m n c3 c4 c5 H6:=by
 intro n
 induction n with
 | zero=>intros;rfl
 | succ n ih=>intros;simp only[qou,← qdvc k m _ _ (ih)];kernel_rfl
theorem qkac (k m:Nat)(c1 c2:Cell):evC qkub qii (evF qkub (k+1)) m qii.code none (retK qkub qii) (enter qii [.agg [c1,c2]] [])=fde (k+1) m c1 c2:=by
 simp only[fde,← qckc k m]
 kernel_rfl
theorem qwk {c1 c2:Cell}{r:Res}(k:Nat)(h:fde (k+1) (k+1) c1 c2=some r):qur [.agg [c1,c2]] []=some r:=qap (k:=k+2) (Eq.trans (Eq.trans (by kernel_rfl) (qkac k (k+1) c1 c2)) h)
def qayd:List (Nat×Run):=[]
def qybb:Ctx:=ctx qbi qbh qayd
def qjx:Run:=lim qybb qrk
theorem qrqc:FnOk Tryz.prog OkT qrk qjx:=qao (l:=qayd) qac tyTab_ok qad okT .nil qrk
def qckb (k m:Nat):Nat→Cell→Int→Cell→Cell→List Entry→Option Res | 0,_,_,_,_,_=>none | n+1,c2,i3,c4,c5,H6=>(lenC c2).bind fun n7=>cond (decide (i3 < (n7:Int))) ((idxA 4 (c2) i3).bind fun c8=>(fldA c8 0).bind fun c9=>(deref H6 (c9)).bind fun p10=>(cS p10.1 p10.2).bind fun s11=>(qah (H6++[Entry.mk 1 [[Cell.str s11]] 0 false]) 1 (.vs H6.length 1 0 1 0)).bind fun r12=>(app (H6++[Entry.mk 1 [[Cell.str s11]] 0 false]) 1 16 (c4) r12).bind fun p13=>(idxA 4 (c2) i3).bind fun c14=>(fldA c14 1).bind fun c15=>(deref [] (c15)).bind fun p16=>(cC p16.1 p16.2).bind fun c17=>(qah (p13.2++[Entry.mk 1 [] 0 false]) 1 c17).bind fun r18=>(app (p13.2++[Entry.mk 1 [] 0 false]) 1 16 ((.vs p13.2.length 1 0 0 0)) r18).bind fun p19=>(qah (p19.2++[Entry.mk 1 [[p19.1]] 0 false]) 1 (.vs p19.2.length 1 0 1 0)).bind fun r20=>(app (p19.2++[Entry.mk 1 [[p19.1]] 0 false]) 1 24 (c5) r20).bind fun p21=>qckb k m n (c2) (IntKind.i64.wrap (i3+1)) (p13.1) (p21.1) p21.2) (some ([.agg [c4,c5]],H6))
def fdf (k m:Nat)(c1:Cell):Option Res:=qckb k m m (c1) 0 (.lst true 1 []) (.lst true 1 []) []
abbrev qrec (k m:Nat):TB:=evC qybb qnq (evF qybb (k+1)) m (sub [1,1,0,1,2,3] qnq.code) none
abbrev qqlc (k m:Nat):TK:=qaw 0 (seqK (evC qybb qnq (evF qybb (k+1)) m (sub [1,1,1] qnq.code) none) (retK qybb qnq))
theorem qanc (k m:Nat):∀ (n:Nat) (c2:Cell) (i3:Int) (c4 c5:Cell) (H6:List Entry),qbj (some [0,2,3,4]) (qrec k m) (qqlc k m) n ⟨fT 35 0 [(0,.av (.one (c2))),(2,.loc 2 0),(3,.loc 3 0),(4,.av (.one (Cell.int i3)))],fX 35 0 [(2,[.lst true 1 [],.lst true 1 []]),(3,[c4,c5])],H6⟩=qckb (k+1) m n c2 i3 c4 c5 H6:=by
 intro n
 induction n with
 | zero=>intros;rfl
 | succ n ih=>intros;simp only[qckb,← ih];kernel_rfl
theorem qnec (k m:Nat)(c1:Cell):evC qybb qnq (evF qybb (k+1)) m qnq.code none (retK qybb qnq) (enter qnq [.one (c1)] [])=fdf (k+1) m c1:=by
 simp only[fdf,← qanc k m]
 kernel_rfl
theorem qpvb {c1:Cell}{r:Res}(k:Nat)(h:fdf (k+1) (k+1) c1=some r):qjx [.one (c1)] []=some r:=qap (k:=k+2) (Eq.trans (Eq.trans (by kernel_rfl) (qnec k (k+1) c1)) h)
def qusc:List (Nat×Run):=[(qgob,qur),(qrk,qjx)]
def qemd:Ctx:=ctx qbi qbh qusc
def qwd:Run:=lim qemd qekb
theorem ok_fcx:FnOk Tryz.prog OkT qekb qwd:=qao (l:=qusc) qac tyTab_ok qad okT (.cons ok_fde (.cons qrqc .nil)) qekb
def fcx (k m:Nat)(c1:Cell):Option Res:=(callL qjx [.one (c1)] []).bind fun r2=>cond (qab qvfb r2.1) ((cC (qaa r2.1 0) 0).bind fun c3=>(cC (qaa r2.1 0) 1).bind fun c4=>(callL qur [.agg [c3,c4]] r2.2).bind fun r5=>cond (qab qaid r5.1) ((cC (qaa r5.1 0) 0).bind fun c6=>(cB (qaa r5.1 1) 0).bind fun b7=>some ([.one (c6),.one (Cell.bool b7)],r5.2)) none) none
theorem qkwc (k m:Nat)(c1:Cell):evC qemd qkdb (evF qemd (k+1)) m qkdb.code none (retK qemd qkdb) (enter qkdb [.one (c1)] [])=fcx (k+1) m c1:=by
 kernel_rfl
theorem qokb {c1:Cell}{r:Res}(k:Nat)(h:fcx (k+1) (k+1) c1=some r):qwd [.one (c1)] []=some r:=qap (k:=k+2) (Eq.trans (Eq.trans (by kernel_rfl) (qkwc k (k+1) c1)) h)
def qytc:List (Nat×Run):=[(qxk,qpb),(qvl,qnx),(qjk,qcp)]
def qdvd:Ctx:=ctx qbi qbh qytc
def qve:Run:=lim qdvd qdsb
theorem ok_fct:FnOk Tryz.prog OkT qdsb qve:=qao (l:=qytc) qac tyTab_ok qad okT (.cons quec (.cons qxxc (.cons qkqb .nil))) qdsb
def fct (k m:Nat)(c1:Cell):Option Res:=(qpb [.one (c1)] []).bind fun r2=>cond (qab qqsc r2.1) ((cC (qaa r2.1 0) 0).bind fun c3=>(qnx [.one (c3)] r2.2).bind fun r4=>cond (qab qmhc r4.1) ((cC (qaa r4.1 0) 0).bind fun c5=>(qcp [.one (c3),.one (.lst true 1 [[Cell.str (bs [97])],[Cell.str (bs [98])],[Cell.str (bs [99])],[Cell.str (bs [113])]])] r4.2).bind fun r6=>cond (qab qjl r6.1) ((cS (qaa r6.1 0) 0).bind fun s7=>some ([.one (c5),.one (Cell.str s7)],r6.2)) none) none) none
theorem qogc (k m:Nat)(c1:Cell):evC qdvd qigb (evF qdvd (k+1)) m qigb.code none (retK qdvd qigb) (enter qigb [.one (c1)] [])=fct (k+1) m c1:=by
 kernel_rfl
theorem qqob {c1:Cell}{r:Res}(k:Nat)(h:fct (k+1) (k+1) c1=some r):qve [.one (c1)] []=some r:=qap (k:=k+2) (Eq.trans (Eq.trans (by kernel_rfl) (qogc k (k+1) c1)) h)
def qand:List (Nat×Run):=[(qdsb,qve)]
def qead:Ctx:=ctx qbi qbh qand
def qvt:Run:=lim qead qfhb
theorem ok_fcs:FnOk Tryz.prog OkT qfhb qvt:=qao (l:=qand) qac tyTab_ok qad okT (.cons ok_fct .nil) qfhb
def fcs (k m:Nat)(c1:Cell):Option Res:=(callL qve [.one (c1)] []).bind fun r2=>cond (qab qvdc r2.1) ((cC (qaa r2.1 0) 0).bind fun c3=>(cS (qaa r2.1 1) 0).bind fun s4=>some ([.one (c3),.one (Cell.str s4)],r2.2)) none
theorem qmkc (k m:Nat)(c1:Cell):evC qead qjkb (evF qead (k+1)) m qjkb.code none (retK qead qjkb) (enter qjkb [.one (c1)] [])=fcs (k+1) m c1:=by
 kernel_rfl
theorem qqjb {c1:Cell}{r:Res}(k:Nat)(h:fcs (k+1) (k+1) c1=some r):qvt [.one (c1)] []=some r:=qap (k:=k+2) (Eq.trans (Eq.trans (by kernel_rfl) (qmkc k (k+1) c1)) h)
def qwlc:List (Nat×Run):=[]
def qwpb:Ctx:=ctx qbi qbh qwlc
def qhy:Run:=lim qwpb qfeb
theorem ok_fch:FnOk Tryz.prog OkT qfeb qhy:=qao (l:=qwlc) qac tyTab_ok qad okT .nil qfeb
def qcnb (k m:Nat):Nat→Cell→Cell→Int→Option Res | 0,_,_,_=>none | n+1,c5,c6,i7=>(lenC c5).bind fun n8=>cond (decide (i7 < (n8:Int))) ((idxA 1 (c5) i7).bind fun c9=>(deref [] (c9)).bind fun p10=>(cS p10.1 p10.2).bind fun s11=>(idxA 1 (c6) i7).bind fun c12=>(deref [] (c12)).bind fun p13=>(cS p13.1 p13.2).bind fun s14=>cond (!(s11.toList==s14.toList)) (some ([.one (Cell.bool false)],[])) (qcnb k m n (c5) (c6) (IntKind.i64.wrap (i7+1)))) (some ([.one (Cell.bool true)],[]))
def fch (k m:Nat)(c1 c2:Cell):Option Res:=(lenC c1).bind fun n3=>(lenC c2).bind fun n4=>cond ((n3:Int) != (n4:Int)) (some ([.one (Cell.bool false)],[])) (qcnb k m m (c1) (c2) 0)
abbrev qnzc (k m:Nat):TB:=evC qwpb qpv (evF qwpb (k+1)) m (sub [1,1,0,1,2,3] qpv.code) none
abbrev qfxc (k m:Nat):TK:=qaw 0 (seqK (evC qwpb qpv (evF qwpb (k+1)) m (sub [1,1,1] qpv.code) none) (retK qwpb qpv))
theorem qawc (k m:Nat):∀ (n:Nat) (c5 c6:Cell) (i7:Int),qbj (some [0,1,5]) (qnzc k m) (qfxc k m) n ⟨fT 26 0 [(0,.av (.one (c5))),(1,.av (.one (c6))),(5,.av (.one (Cell.int i7)))],fX 26 0 [],[]⟩=qcnb (k+1) m n c5 c6 i7:=by
 intro n
 induction n with
 | zero=>intros;rfl
 | succ n ih=>intros;simp only[qcnb,← ih];kernel_rfl
theorem qkhc (k m:Nat)(c1 c2:Cell):evC qwpb qpv (evF qwpb (k+1)) m qpv.code none (retK qwpb qpv) (enter qpv [.one (c1),.one (c2)] [])=fch (k+1) m c1 c2:=by
 simp only[fch,← qawc k m]
 kernel_rfl
theorem qpqb {c1 c2:Cell}{r:Res}(k:Nat)(h:fch (k+1) (k+1) c1 c2=some r):qhy [.one (c1),.one (c2)] []=some r:=qap (k:=k+2) (Eq.trans (Eq.trans (by kernel_rfl) (qkhc k (k+1) c1 c2)) h)
def qahd:List (Nat×Run):=[(qgo,qby)]
def qbsb:Ctx:=ctx qbi qbh qahd
def qfs:Run:=lim qbsb qvh
theorem qded:FnOk Tryz.prog OkT qvh qfs:=qao (l:=qahd) qac tyTab_ok qad okT (.cons qwx .nil) qvh
def qcsb (k m:Nat)(b_l0:Cell→Cell→Int→List Entry→Option Res):Nat→Cell→Cell→Int→Int→List Entry→Option Res | 0,_,_,_,_,_=>none | n+1,c17,c18,i19,i20,H21=>cond (decide (i20 > 0)) ((idxA 1 (c18) (IntKind.i64.wrap (i20 - 1))).bind fun c22=>(deref H21 (c22)).bind fun p23=>(cS p23.1 p23.2).bind fun s24=>(idxA 1 (c17) i19).bind fun c25=>(deref H21 (c25)).bind fun p26=>(cS p26.1 p26.2).bind fun s27=>cond (!(Op.bytesLess s24.toList s27.toList||s24.toList==s27.toList)) ((idxA 1 (c18) (IntKind.i64.wrap (i20 - 1))).bind fun c28=>(deref H21 (c28)).bind fun p29=>(cS p29.1 p29.2).bind fun s30=>(idxA 1 (c18) i20).bind fun c31=>(qbu H21 (c31) [Cell.str s30]).bind fun h32=>qcsb k m b_l0 n (c17) (c18) i19 (IntKind.i64.wrap (i20 - 1)) h32) ((idxA 1 (c17) i19).bind fun c33=>(deref H21 (c33)).bind fun p34=>(cS p34.1 p34.2).bind fun s35=>(idxA 1 (c18) i20).bind fun c36=>(qbu H21 (c36) [Cell.str s35]).bind fun h37=>b_l0 (c17) (c18) (IntKind.i64.wrap (i19+1)) h37)) ((idxA 1 (c17) i19).bind fun c38=>(deref H21 (c38)).bind fun p39=>(cS p39.1 p39.2).bind fun s40=>(idxA 1 (c18) i20).bind fun c41=>(qbu H21 (c41) [Cell.str s40]).bind fun h42=>b_l0 (c17) (c18) (IntKind.i64.wrap (i19+1)) h42)
def qtd (k m:Nat):Nat→Cell→Cell→Int→List Entry→Option Res | 0,_,_,_,_=>none | n+1,c2,c3,i4,H5=>(lenC c2).bind fun n6=>cond (decide (i4 < (n6:Int))) ((idxA 1 (c2) i4).bind fun c7=>(deref H5 (c7)).bind fun p8=>(cS p8.1 p8.2).bind fun s9=>(qbc qby [.one (c3),.one (Cell.str s9)] H5).bind fun r10=>cond (qab qqn r10) ((cB (qaa r10 0) 0).bind fun b11=>cond b11 (qtd k m n (c2) (c3) (IntKind.i64.wrap (i4+1)) H5) ((idxA 1 (c2) i4).bind fun c12=>(deref H5 (c12)).bind fun p13=>(cS p13.1 p13.2).bind fun s14=>(app H5 1 16 (c3) [[Cell.str s14]]).bind fun p15=>(lenC p15.1).bind fun n16=>qcsb k m (qtd k m n) m (c2) (p15.1) i4 (IntKind.i64.wrap ((n16:Int) - 1)) p15.2)) none) (some ([.one (c3)],H5))
def fcz (k m:Nat)(c1:Cell):Option Res:=qtd k m m (c1) (.lst true 1 []) 0 []
abbrev qamb (k m:Nat):TB:=evC qbsb qgw (evF qbsb (k+1)) m (sub [1,1,0,1,2,3] qgw.code) none
abbrev qtm (k m:Nat):TK:=qaw 0 (seqK (evC qbsb qgw (evF qbsb (k+1)) m (sub [1,1,1] qgw.code) none) (retK qbsb qgw))
abbrev qktc (k m:Nat):TB:=evC qbsb qgw (evF qbsb (k+1)) m (sub [1,1,0,1,2,3,1,0,2,1,1,1,0,2,3] qgw.code) none
abbrev qkkc (k m:Nat)(n_l0:Nat):TK:=qaw 2 (seqK (evC qbsb qgw (evF qbsb (k+1)) m (sub [1,1,0,1,2,3,1,0,2,1,1,1,1] qgw.code) none) (qaw 1 (seqK (evC qbsb qgw (evF qbsb (k+1)) m (sub [1,1,0,1,2,3,1,1] qgw.code) none) (qetb (fun s=>qbj (some [0,3,4]) (qamb k m) (qtm k m) n_l0 (qmf (some [0,3,4]) s)) (qtm k m)))))
theorem qbrc (k m:Nat)(b_l0:Cell→Cell→Int→List Entry→Option Res)(n_l0:Nat)(h_l0:∀ (c2 c3:Cell) (i4:Int) (H5:List Entry),qbj (some [0,3,4]) (qamb k m) (qtm k m) n_l0 ⟨fT 61 0 [(0,.av (.one (c2))),(3,.av (.one (c3))),(4,.av (.one (Cell.int i4)))],fX 61 0 [],H5⟩=b_l0 c2 c3 i4 H5):∀ (n:Nat) (c17 c18:Cell) (i19 i20:Int) (H21:List Entry),qbj (some [0,3,4,5]) (qktc k m) (qkkc k m n_l0) n ⟨fT 61 0 [(0,.av (.one (c17))),(3,.av (.one (c18))),(4,.av (.one (Cell.int i19))),(5,.av (.one (Cell.int i20)))],fX 61 0 [],H21⟩=qcsb (k+1) m b_l0 n c17 c18 i19 i20 H21:=by
 intro n
 induction n with
 | zero=>intros;rfl
 | succ n ih=>intros;simp only[qcsb,← h_l0,← ih];kernel_rfl
theorem qsyb (k m:Nat):∀ (n:Nat) (c2 c3:Cell) (i4:Int) (H5:List Entry),qbj (some [0,3,4]) (qamb k m) (qtm k m) n ⟨fT 61 0 [(0,.av (.one (c2))),(3,.av (.one (c3))),(4,.av (.one (Cell.int i4)))],fX 61 0 [],H5⟩=qtd (k+1) m n c2 c3 i4 H5:=by
 intro n
 induction n with
 | zero=>intros;rfl
 | succ n ih=>intros;simp only[qtd,← qbrc k m _ _ (ih),← ih];kernel_rfl
theorem qikc (k m:Nat)(c1:Cell):evC qbsb qgw (evF qbsb (k+1)) m qgw.code none (retK qbsb qgw) (enter qgw [.one (c1)] [])=fcz (k+1) m c1:=by
 simp only[fcz,← qsyb k m]
 kernel_rfl
theorem qrbb {c1:Cell}{r:Res}(k:Nat)(h:fcz (k+1) (k+1) c1=some r):qfs [.one (c1)] []=some r:=qap (k:=k+2) (Eq.trans (Eq.trans (by kernel_rfl) (qikc k (k+1) c1)) h)
def qxhc:List (Nat×Run):=[(qgo,qby),(qvh,qfs),(qro,qic)]
def qwrb:Ctx:=ctx qbi qbh qxhc
def qfe:Run:=lim qwrb qqu
theorem qjlc:FnOk Tryz.prog OkT qqu qfe:=qao (l:=qxhc) qac tyTab_ok qad okT (.cons qwx (.cons qded (.cons qizc .nil))) qqu
def qtc (k m:Nat):Nat→Cell→Cell→Cell→Cell→List Entry→Option Res | 0,_,_,_,_,_=>none | n+1,c8,c9,c10,c11,H12=>(lenC c9).bind fun n13=>cond (decide ((n13:Int) > 0)) ((idxA 1 (c9) 0).bind fun c14=>(deref H12 (c14)).bind fun p15=>(cS p15.1 p15.2).bind fun s16=>(slcC 1 (c9) 1 none none).bind fun c17=>(qah H12 1 c17).bind fun r18=>(app H12 1 16 (.lst true 1 []) r18).bind fun p19=>(qbc qby [.one (c8),.one (Cell.str s16)] p19.2).bind fun r20=>cond (qab qqn r20) ((cB (qaa r20 0) 0).bind fun b21=>cond (!b21) ((app p19.2 1 16 (c8) [[Cell.str s16]]).bind fun p22=>(callL qic [.agg [c10,c11],.one (Cell.str s16)] p22.2).bind fun r23=>cond (qab qpob r23.1) ((cC (qaa r23.1 0) 0).bind fun c24=>(qah r23.2 1 c24).bind fun r25=>(app r23.2 1 16 (p19.1) r25).bind fun p26=>qtc k m n (p22.1) (p26.1) (c10) (c11) p26.2) none) (qtc k m n (c8) (p19.1) (c10) (c11) p19.2)) none) ((callL qfs [.one (c8)] H12).bind fun r27=>cond (qab qnnc r27.1) ((cC (qaa r27.1 0) 0).bind fun c28=>some ([.one (c28)],r27.2)) none)
def fdg (k m:Nat)(c1 c2:Cell)(s3:ByteArray):Option Res:=(callL qic [.agg [c1,c2],.one (Cell.str s3)] []).bind fun r4=>cond (qab qpob r4.1) ((cC (qaa r4.1 0) 0).bind fun c5=>(qah r4.2 1 c5).bind fun r6=>(app r4.2 1 16 (.lst true 1 []) r6).bind fun p7=>qtc k m m (.lst true 1 []) (p7.1) (c1) (c2) p7.2) none
abbrev qrjc (k m:Nat):TB:=evC qwrb qnr (evF qwrb (k+1)) m (sub [1,1,1,0,2,3] qnr.code) none
abbrev qqqc (k m:Nat):TK:=qaw 0 (seqK (evC qwrb qnr (evF qwrb (k+1)) m (sub [1,1,1,1] qnr.code) none) (retK qwrb qnr))
theorem queb (k m:Nat):∀ (n:Nat) (c8 c9 c10 c11:Cell) (H12:List Entry),qbj (some [2,5,6]) (qrjc k m) (qqqc k m) n ⟨fT 39 0 [(2,.loc 2 0),(5,.av (.one (c8))),(6,.av (.one (c9)))],fX 39 0 [(2,[c10,c11])],H12⟩=qtc (k+1) m n c8 c9 c10 c11 H12:=by
 intro n
 induction n with
 | zero=>intros;rfl
 | succ n ih=>intros;simp only[qtc,← ih];kernel_rfl
theorem qnmc (k m:Nat)(c1 c2:Cell)(s3:ByteArray):evC qwrb qnr (evF qwrb (k+1)) m qnr.code none (retK qwrb qnr) (enter qnr [.agg [c1,c2],.one (Cell.str s3)] [])=fdg (k+1) m c1 c2 s3:=by
 simp only[fdg,← queb k m]
 kernel_rfl
theorem qqcb {c1 c2:Cell}{s3:ByteArray}{r:Res}(k:Nat)(h:fdg (k+1) (k+1) c1 c2 s3=some r):qfe [.agg [c1,c2],.one (Cell.str s3)] []=some r:=qap (k:=k+2) (Eq.trans (Eq.trans (by kernel_rfl) (qnmc k (k+1) c1 c2 s3)) h)
def qbad:List (Nat×Run):=[(qqf,qfm),(qgo,qby)]
def qkfb:Ctx:=ctx qbi qbh qbad
def qoo:Run:=lim qkfb qgwb
theorem ok_fdc:FnOk Tryz.prog OkT qgwb qoo:=qao (l:=qbad) qac tyTab_ok qad okT (.cons qwqb (.cons qwx .nil)) qgwb
def qbfb (k m:Nat)(b_l0:Cell→Cell→Int→Cell→Cell→List Entry→Option Res):Nat→Cell→Cell→Int→Int→Cell→Cell→List Entry→Option Res | 0,_,_,_,_,_,_,_=>none | n+1,c11,c12,i13,i14,c15,c16,H17=>(idxA 1 (c16) i13).bind fun c18=>(deref H17 (c18)).bind fun p19=>(cC p19.1 p19.2).bind fun c20=>(lenC c20).bind fun n21=>cond (decide (i14 < (n21:Int))) ((idxA 1 (c15) i13).bind fun c22=>(deref H17 (c22)).bind fun p23=>(cS p23.1 p23.2).bind fun s24=>(qbc qfm [.agg [c15,c16],.one (Cell.str s24)] H17).bind fun r25=>cond (qab qmub r25) ((cI .i64 (qaa r25 0) 0).bind fun i26=>cond (i26==i13) ((idxA 1 (c16) i13).bind fun c27=>(deref H17 (c27)).bind fun p28=>(cC p28.1 p28.2).bind fun c29=>(idxA 1 (c29) i14).bind fun c30=>(deref H17 (c30)).bind fun p31=>(cS p31.1 p31.2).bind fun s32=>(qbc qby [.one (c11),.one (Cell.str s32)] H17).bind fun r33=>cond (qab qqn r33) ((cB (qaa r33 0) 0).bind fun b34=>cond b34 ((idxA 1 (c15) i13).bind fun c35=>(deref H17 (c35)).bind fun p36=>(cS p36.1 p36.2).bind fun s37=>(app H17 1 16 (c12) [[Cell.str s37]]).bind fun p38=>b_l0 (c11) (p38.1) (IntKind.i64.wrap (i13+1)) (c15) (c16) p38.2) (qbfb k m b_l0 n (c11) (c12) i13 (IntKind.i64.wrap (i14+1)) (c15) (c16) H17)) none) (b_l0 (c11) (c12) (IntKind.i64.wrap (i13+1)) (c15) (c16) H17)) none) (b_l0 (c11) (c12) (IntKind.i64.wrap (i13+1)) (c15) (c16) H17)
def qyo (k m:Nat):Nat→Cell→Cell→Int→Cell→Cell→List Entry→Option Res | 0,_,_,_,_,_,_=>none | n+1,c4,c5,i6,c7,c8,H9=>(lenC c7).bind fun n10=>cond (decide (i6 < (n10:Int))) (qbfb k m (qyo k m n) m (c4) (c5) i6 0 (c7) (c8) H9) (some ([.one (c5)],H9))
def fdc (k m:Nat)(c1 c2 c3:Cell):Option Res:=qyo k m m (c3) (.lst true 1 []) 0 (c1) (c2) []
abbrev qcpb (k m:Nat):TB:=evC qkfb qil (evF qkfb (k+1)) m (sub [1,1,0,1,2,3] qil.code) none
abbrev qsi (k m:Nat):TK:=qaw 0 (seqK (evC qkfb qil (evF qkfb (k+1)) m (sub [1,1,1] qil.code) none) (retK qkfb qil))
abbrev qjpc (k m:Nat):TB:=evC qkfb qil (evF qkfb (k+1)) m (sub [1,1,0,1,2,3,1,0,2,1,2,3] qil.code) none
abbrev qjcc (k m:Nat)(n_l0:Nat):TK:=qaw 2 (qaw 1 (seqK (evC qkfb qil (evF qkfb (k+1)) m (sub [1,1,0,1,2,3,1,1] qil.code) none) (qetb (fun s=>qbj (some [1,2,5,6]) (qcpb k m) (qsi k m) n_l0 (qmf (some [1,2,5,6]) s)) (qsi k m))))
theorem qcpc (k m:Nat)(b_l0:Cell→Cell→Int→Cell→Cell→List Entry→Option Res)(n_l0:Nat)(h_l0:∀ (c4 c5:Cell) (i6:Int) (c7 c8:Cell) (H9:List Entry),qbj (some [1,2,5,6]) (qcpb k m) (qsi k m) n_l0 ⟨fT 56 0 [(1,.av (.one (c4))),(2,.loc 2 0),(5,.av (.one (c5))),(6,.av (.one (Cell.int i6)))],fX 56 0 [(2,[c7,c8])],H9⟩=b_l0 c4 c5 i6 c7 c8 H9):∀ (n:Nat) (c11 c12:Cell) (i13 i14:Int) (c15 c16:Cell) (H17:List Entry),qbj (some [1,2,5,6,7]) (qjpc k m) (qjcc k m n_l0) n ⟨fT 56 0 [(1,.av (.one (c11))),(2,.loc 2 0),(5,.av (.one (c12))),(6,.av (.one (Cell.int i13))),(7,.av (.one (Cell.int i14)))],fX 56 0 [(2,[c15,c16])],H17⟩=qbfb (k+1) m b_l0 n c11 c12 i13 i14 c15 c16 H17:=by
 intro n
 induction n with
 | zero=>intros;rfl
 | succ n ih=>intros;simp only[qbfb,← h_l0,← ih];kernel_rfl
theorem qzmb (k m:Nat):∀ (n:Nat) (c4 c5:Cell) (i6:Int) (c7 c8:Cell) (H9:List Entry),qbj (some [1,2,5,6]) (qcpb k m) (qsi k m) n ⟨fT 56 0 [(1,.av (.one (c4))),(2,.loc 2 0),(5,.av (.one (c5))),(6,.av (.one (Cell.int i6)))],fX 56 0 [(2,[c7,c8])],H9⟩=qyo (k+1) m n c4 c5 i6 c7 c8 H9:=by
 intro n
 induction n with
 | zero=>intros;rfl
 | succ n ih=>intros;simp only[qyo,← qcpc k m _ _ (ih)];kernel_rfl
theorem qmec (k m:Nat)(c1 c2 c3:Cell):evC qkfb qil (evF qkfb (k+1)) m qil.code none (retK qkfb qil) (enter qil [.agg [c1,c2],.one (c3)] [])=fdc (k+1) m c1 c2 c3:=by
 simp only[fdc,← qzmb k m]
 kernel_rfl
theorem qrmb {c1 c2 c3:Cell}{r:Res}(k:Nat)(h:fdc (k+1) (k+1) c1 c2 c3=some r):qoo [.agg [c1,c2],.one (c3)] []=some r:=qap (k:=k+2) (Eq.trans (Eq.trans (by kernel_rfl) (qmec k (k+1) c1 c2 c3)) h)
def qtvc:List (Nat×Run):=[(qgo,qby),(qro,qic),(qgwb,qoo)]
def qri:Ctx:=ctx qbi qbh qtvc
def quw:Run:=lim qri qeab
theorem ok_fdk:FnOk Tryz.prog OkT qeab quw:=qao (l:=qtvc) qac tyTab_ok qad okT (.cons qwx (.cons qizc (.cons ok_fdc .nil))) qeab
def qjvb (k m:Nat)(b_l1:Cell→Cell→Int→Cell→Cell→List Entry→Option Res):Nat→Cell→Cell→Int→Cell→Int→Cell→Cell→List Entry→Option Res | 0,_,_,_,_,_,_,_,_=>none | n+1,c47,c48,i49,c50,i51,c52,c53,H54=>(lenC c50).bind fun n55=>cond (decide (i51 < (n55:Int))) ((idxA 1 (c47) i49).bind fun c56=>(deref H54 (c56)).bind fun p57=>(cC p57.1 p57.2).bind fun c58=>(idxA 1 (c50) i51).bind fun c59=>(deref H54 (c59)).bind fun p60=>(cS p60.1 p60.2).bind fun s61=>(qbc qby [.one (c58),.one (Cell.str s61)] H54).bind fun r62=>cond (qab qqn r62) ((cB (qaa r62 0) 0).bind fun b63=>cond (!b63) (qjvb k m b_l1 n (c47) (c48) i49 (c50) (IntKind.i64.wrap (i51+1)) (c52) (c53) H54) ((lenC c50).bind fun n64=>cond (i51==(n64:Int)) (some ([.one (c48)],H54)) ((idxA 1 (c50) i51).bind fun c65=>(deref H54 (c65)).bind fun p66=>(cS p66.1 p66.2).bind fun s67=>(app H54 1 16 (c48) [[Cell.str s67]]).bind fun p68=>b_l1 (c47) (p68.1) (IntKind.i64.wrap (i49 - 1)) (c52) (c53) p68.2))) none) ((lenC c50).bind fun n69=>cond (i51==(n69:Int)) (some ([.one (c48)],H54)) ((idxA 1 (c50) i51).bind fun c70=>(deref H54 (c70)).bind fun p71=>(cS p71.1 p71.2).bind fun s72=>(app H54 1 16 (c48) [[Cell.str s72]]).bind fun p73=>b_l1 (c47) (p73.1) (IntKind.i64.wrap (i49 - 1)) (c52) (c53) p73.2))
def qwf (k m:Nat):Nat→Cell→Cell→Int→Cell→Cell→List Entry→Option Res | 0,_,_,_,_,_,_=>none | n+1,c35,c36,i37,c38,c39,H40=>cond (decide (i37 > 0)) ((lenC c36).bind fun n41=>(idxA 1 (c36) (IntKind.i64.wrap ((n41:Int) - 1))).bind fun c42=>(deref H40 (c42)).bind fun p43=>(cS p43.1 p43.2).bind fun s44=>(callL qic [.agg [c38,c39],.one (Cell.str s44)] H40).bind fun r45=>cond (qab qpob r45.1) ((cC (qaa r45.1 0) 0).bind fun c46=>qjvb k m (qwf k m n) m (c35) (c36) i37 (c46) 0 (c38) (c39) r45.2) none) (some ([.one (c36)],H40))
def qyr (k m:Nat):Nat→ByteArray→Cell→Cell→Cell→List Entry→Option Res | 0,_,_,_,_,_=>none | n+1,s4,c5,c6,c7,H8=>(lenC c5).bind fun n9=>cond ((n9:Int)==1) ((lenC c5).bind fun n10=>(idxA 1 (c5) (IntKind.i64.wrap ((n10:Int) - 1))).bind fun c11=>(deref H8 (c11)).bind fun p12=>(cC p12.1 p12.2).bind fun c13=>(callL qoo [.agg [c6,c7],.one (c13)] H8).bind fun r14=>cond (qab qjac r14.1) ((cC (qaa r14.1 0) 0).bind fun c15=>restK [c15] fun d16=>(qah r14.2 1 (.lst true 1 (chunks 1 1 d16))).bind fun r17=>(app r14.2 1 24 (c5) r17).bind fun p18=>qyr k m n s4 (p18.1) (c6) (c7) p18.2) none) ((lenC c5).bind fun n19=>(idxA 1 (c5) (IntKind.i64.wrap ((n19:Int) - 1))).bind fun c20=>(deref H8 (c20)).bind fun p21=>(cC p21.1 p21.2).bind fun c22=>(qbc qby [.one (c22),.one (Cell.str s4)] H8).bind fun r23=>cond (qab qqn r23) ((cB (qaa r23 0) 0).bind fun b24=>cond (!b24) ((lenC c5).bind fun n25=>(idxA 1 (c5) (IntKind.i64.wrap ((n25:Int) - 1))).bind fun c26=>(deref H8 (c26)).bind fun p27=>(cC p27.1 p27.2).bind fun c28=>(callL qoo [.agg [c6,c7],.one (c28)] H8).bind fun r29=>cond (qab qjac r29.1) ((cC (qaa r29.1 0) 0).bind fun c30=>restK [c30] fun d31=>(qah r29.2 1 (.lst true 1 (chunks 1 1 d31))).bind fun r32=>(app r29.2 1 24 (c5) r32).bind fun p33=>qyr k m n s4 (p33.1) (c6) (c7) p33.2) none) ((lenC c5).bind fun n34=>qwf k m m (c5) (.lst true 1 [[Cell.str s4]]) (IntKind.i64.wrap ((n34:Int) - 2)) (c6) (c7) H8)) none)
def fdk (k m:Nat)(c1 c2:Cell)(s3:ByteArray):Option Res:=qyr k m m s3 (.lst true 1 [[.lst true 1 [[Cell.str s3]]]]) (c1) (c2) []
abbrev qoxc (k m:Nat):TB:=evC qri qeu (evF qri (k+1)) m (sub [1,1,0,2,3] qeu.code) none
abbrev qgic (k m:Nat):TK:=qaw 0 (seqK (evC qri qeu (evF qri (k+1)) m (sub [1,1,1] qeu.code) none) (retK qri qeu))
abbrev qbdb (k m:Nat):TB:=evC qri qeu (evF qri (k+1)) m (sub [1,1,1,1,0,1,2,3] qeu.code) none
abbrev qsf (k m:Nat):TK:=qaw 2 (seqK (evC qri qeu (evF qri (k+1)) m (sub [1,1,1,1,1] qeu.code) none) (retK qri qeu))
abbrev qmwc (k m:Nat):TB:=evC qri qeu (evF qri (k+1)) m (sub [1,1,1,1,0,1,2,3,1,0,2,1,1,0,2,3] qeu.code) none
abbrev qohc (k m:Nat)(n_l1:Nat):TK:=qaw 4 (seqK (evC qri qeu (evF qri (k+1)) m (sub [1,1,1,1,0,1,2,3,1,0,2,1,1,1] qeu.code) none) (qaw 3 (seqK (evC qri qeu (evF qri (k+1)) m (sub [1,1,1,1,0,1,2,3,1,1] qeu.code) none) (qetb (fun s=>qbj (some [2,5,6,7]) (qbdb k m) (qsf k m) n_l1 (qmf (some [2,5,6,7]) s)) (qsf k m)))))
theorem qbyc (k m:Nat)(b_l1:Cell→Cell→Int→Cell→Cell→List Entry→Option Res)(n_l1:Nat)(h_l1:∀ (c35 c36:Cell) (i37:Int) (c38 c39:Cell) (H40:List Entry),qbj (some [2,5,6,7]) (qbdb k m) (qsf k m) n_l1 ⟨fT 86 0 [(2,.loc 2 0),(5,.av (.one (c35))),(6,.av (.one (c36))),(7,.av (.one (Cell.int i37)))],fX 86 0 [(2,[c38,c39])],H40⟩=b_l1 c35 c36 i37 c38 c39 H40):∀ (n:Nat) (c47 c48:Cell) (i49:Int) (c50:Cell) (i51:Int) (c52 c53:Cell) (H54:List Entry),qbj (some [2,5,6,7,8,9]) (qmwc k m) (qohc k m n_l1) n ⟨fT 86 0 [(2,.loc 2 0),(5,.av (.one (c47))),(6,.av (.one (c48))),(7,.av (.one (Cell.int i49))),(8,.av (.one (c50))),(9,.av (.one (Cell.int i51)))],fX 86 0 [(2,[c52,c53])],H54⟩=qjvb (k+1) m b_l1 n c47 c48 i49 c50 i51 c52 c53 H54:=by
 intro n
 induction n with
 | zero=>intros;rfl
 | succ n ih=>intros;simp only[qjvb,← h_l1,← ih];kernel_rfl
theorem qytb (k m:Nat):∀ (n:Nat) (c35 c36:Cell) (i37:Int) (c38 c39:Cell) (H40:List Entry),qbj (some [2,5,6,7]) (qbdb k m) (qsf k m) n ⟨fT 86 0 [(2,.loc 2 0),(5,.av (.one (c35))),(6,.av (.one (c36))),(7,.av (.one (Cell.int i37)))],fX 86 0 [(2,[c38,c39])],H40⟩=qwf (k+1) m n c35 c36 i37 c38 c39 H40:=by
 intro n
 induction n with
 | zero=>intros;rfl
 | succ n ih=>intros;simp only[qwf,← qbyc k m _ _ (ih)];kernel_rfl
theorem qzbb (k m:Nat):∀ (n:Nat) (s4:ByteArray) (c5 c6 c7:Cell) (H8:List Entry),qbj (some [1,2,5]) (qoxc k m) (qgic k m) n ⟨fT 86 0 [(1,.av (.one (Cell.str s4))),(2,.loc 2 0),(5,.av (.one (c5)))],fX 86 0 [(2,[c6,c7])],H8⟩=qyr (k+1) m n s4 c5 c6 c7 H8:=by
 intro n
 induction n with
 | zero=>intros;rfl
 | succ n ih=>intros;simp only[qyr,← qytb k m,← ih];kernel_rfl
theorem qfwc (k m:Nat)(c1 c2:Cell)(s3:ByteArray):evC qri qeu (evF qri (k+1)) m qeu.code none (retK qri qeu) (enter qeu [.agg [c1,c2],.one (Cell.str s3)] [])=fdk (k+1) m c1 c2 s3:=by
 simp only[fdk,← qzbb k m]
 kernel_rfl
theorem qqpb {c1 c2:Cell}{s3:ByteArray}{r:Res}(k:Nat)(h:fdk (k+1) (k+1) c1 c2 s3=some r):quw [.agg [c1,c2],.one (Cell.str s3)] []=some r:=qap (k:=k+2) (Eq.trans (Eq.trans (by kernel_rfl) (qfwc k (k+1) c1 c2 s3)) h)
def qznc:List (Nat×Run):=[(qqu,qfe),(qgo,qby),(qeab,quw)]
def qvab:Ctx:=ctx qbi qbh qznc
def qyv:Run:=lim qvab qdbb
theorem ok_fdi:FnOk Tryz.prog OkT qdbb qyv:=qao (l:=qznc) qac tyTab_ok qad okT (.cons qjlc (.cons qwx (.cons ok_fdk .nil))) qdbb
def qccb (k m:Nat):Nat→Int→Cell→Cell→Option Res | 0,_,_,_=>none | n+1,i3,c4,c5=>(lenC c4).bind fun n6=>cond (decide (i3 < (n6:Int))) ((idxA 1 (c4) i3).bind fun c7=>(deref [] (c7)).bind fun p8=>(cS p8.1 p8.2).bind fun s9=>(callL qfe [.agg [c4,c5],.one (Cell.str s9)] []).bind fun r10=>cond (qab qnfb r10.1) ((cC (qaa r10.1 0) 0).bind fun c11=>qsw r10.2 ((idxA 1 (c4) i3).bind fun c12=>(deref [] (c12)).bind fun p13=>(cS p13.1 p13.2).bind fun s14=>(qbc qby [.one (c11),.one (Cell.str s14)] []).bind fun r15=>cond (qab qqn r15) ((cB (qaa r15 0) 0).bind fun b16=>cond b16 ((idxA 1 (c4) i3).bind fun c17=>(deref [] (c17)).bind fun p18=>(cS p18.1 p18.2).bind fun s19=>(callL quw [.agg [c4,c5],.one (Cell.str s19)] []).bind fun r20=>cond (qab qtac r20.1) ((cC (qaa r20.1 0) 0).bind fun c21=>some ([.one (c21)],r20.2)) none) (qccb k m n (IntKind.i64.wrap (i3+1)) (c4) (c5))) none)) none) (some ([.one (.lst true 1 [])],[]))
def fdi (k m:Nat)(c1 c2:Cell):Option Res:=qccb k m m 0 (c1) (c2)
abbrev qldc (k m:Nat):TB:=evC qvab qoy (evF qvab (k+1)) m (sub [1,0,1,2,3] qoy.code) none
abbrev qpyc (k m:Nat):TK:=qaw 0 (seqK (evC qvab qoy (evF qvab (k+1)) m (sub [1,1] qoy.code) none) (retK qvab qoy))
theorem qayc (k m:Nat):∀ (n:Nat) (i3:Int) (c4 c5:Cell),qbj (some [1,3]) (qldc k m) (qpyc k m) n ⟨fT 32 0 [(1,.loc 1 0),(3,.av (.one (Cell.int i3)))],fX 32 0 [(1,[c4,c5])],[]⟩=qccb (k+1) m n i3 c4 c5:=by
 intro n
 induction n with
 | zero=>intros;rfl
 | succ n ih=>intros;simp only[qccb,← ih];kernel_rfl
theorem qinc (k m:Nat)(c1 c2:Cell):evC qvab qoy (evF qvab (k+1)) m qoy.code none (retK qvab qoy) (enter qoy [.agg [c1,c2]] [])=fdi (k+1) m c1 c2:=by
 simp only[fdi,← qayc k m]
 kernel_rfl
theorem qqnb {c1 c2:Cell}{r:Res}(k:Nat)(h:fdi (k+1) (k+1) c1 c2=some r):qyv [.agg [c1,c2]] []=some r:=qap (k:=k+2) (Eq.trans (Eq.trans (by kernel_rfl) (qinc k (k+1) c1 c2)) h)
def qumc:List (Nat×Run):=[(qrk,qjx),(qdbb,qyv)]
def qeqd:Ctx:=ctx qbi qbh qumc
def qvw:Run:=lim qeqd qhhb
theorem ok_fcy:FnOk Tryz.prog OkT qhhb qvw:=qao (l:=qumc) qac tyTab_ok qad okT (.cons qrqc (.cons ok_fdi .nil)) qhhb
def fcy (k m:Nat)(c1:Cell):Option Res:=(callL qjx [.one (c1)] []).bind fun r2=>cond (qab qvfb r2.1) ((cC (qaa r2.1 0) 0).bind fun c3=>(cC (qaa r2.1 0) 1).bind fun c4=>(callL qyv [.agg [c3,c4]] r2.2).bind fun r5=>cond (qab qwwc r5.1) ((cC (qaa r5.1 0) 0).bind fun c6=>some ([.one (c6)],r5.2)) none) none
theorem qkrc (k m:Nat)(c1:Cell):evC qeqd qjzb (evF qeqd (k+1)) m qjzb.code none (retK qeqd qjzb) (enter qjzb [.one (c1)] [])=fcy (k+1) m c1:=by
 kernel_rfl
theorem qqlb {c1:Cell}{r:Res}(k:Nat)(h:fcy (k+1) (k+1) c1=some r):qvw [.one (c1)] []=some r:=qap (k:=k+2) (Eq.trans (Eq.trans (by kernel_rfl) (qkrc k (k+1) c1)) h)
def qyoc:List (Nat×Run):=[(qlf,qfo),(qra,qgs),(qdb,qev)]
def qend:Ctx:=ctx qbi qbh qyoc
def qqa:Run:=lim qend qcyb
theorem ok_fab:FnOk Tryz.prog OkT qcyb qqa:=qao (l:=qyoc) qac tyTab_ok qad okT (.cons qptb (.cons qgac (.cons qkzb .nil))) qcyb
def fab (k m:Nat)(c1:Cell)(s2:ByteArray):Option Res:=(qfo [.one (c1)] []).bind fun r3=>cond (qab qkjb r3.1) ((cC (qaa r3.1 0) 0).bind fun c4=>(qgs [.one (Cell.str s2),.one (.fn qdb [c4] [])] r3.2).bind fun r5=>cond (qab qcqc r5.1) ((cC (qaa r5.1 0) 0).bind fun c6=>some ([.one (c6)],r5.2)) none) none
theorem qpsc (k m:Nat)(c1:Cell)(s2:ByteArray):evC qend qkpb (evF qend (k+1)) m qkpb.code none (retK qend qkpb) (enter qkpb [.one (c1),.one (Cell.str s2)] [])=fab (k+1) m c1 s2:=by
 kernel_rfl
theorem qlsb {c1:Cell}{s2:ByteArray}{r:Res}(k:Nat)(h:fab (k+1) (k+1) c1 s2=some r):qqa [.one (c1),.one (Cell.str s2)] []=some r:=qap (k:=k+2) (Eq.trans (Eq.trans (by kernel_rfl) (qpsc k (k+1) c1 s2)) h)
def qchd:List (Nat×Run):=[(qrk,qjx),(qqu,qfe)]
def qdxd:Ctx:=ctx qbi qbh qchd
def qys:Run:=lim qdxd qcwb
theorem ok_fcr:FnOk Tryz.prog OkT qcwb qys:=qao (l:=qchd) qac tyTab_ok qad okT (.cons qrqc (.cons qjlc .nil)) qcwb
def fcr (k m:Nat)(c1:Cell)(s2:ByteArray):Option Res:=(callL qjx [.one (c1)] []).bind fun r3=>cond (qab qvfb r3.1) ((cC (qaa r3.1 0) 0).bind fun c4=>(cC (qaa r3.1 0) 1).bind fun c5=>(callL qfe [.agg [c4,c5],.one (Cell.str s2)] r3.2).bind fun r6=>cond (qab qnfb r6.1) ((cC (qaa r6.1 0) 0).bind fun c7=>some ([.one (c7)],r6.2)) none) none
theorem qprc (k m:Nat)(c1:Cell)(s2:ByteArray):evC qdxd qjib (evF qdxd (k+1)) m qjib.code none (retK qdxd qjib) (enter qjib [.one (c1),.one (Cell.str s2)] [])=fcr (k+1) m c1 s2:=by
 kernel_rfl
theorem qoub {c1:Cell}{s2:ByteArray}{r:Res}(k:Nat)(h:fcr (k+1) (k+1) c1 s2=some r):qys [.one (c1),.one (Cell.str s2)] []=some r:=qap (k:=k+2) (Eq.trans (Eq.trans (by kernel_rfl) (qprc k (k+1) c1 s2)) h)
def qxtc:List (Nat×Run):=[(qlf,qfo),(qra,qgs),(qej,qkf)]
def qepd:Ctx:=ctx qbi qbh qxtc
def qwt:Run:=lim qepd qgab
theorem ok_faa:FnOk Tryz.prog OkT qgab qwt:=qao (l:=qxtc) qac tyTab_ok qad okT (.cons qptb (.cons qgac (.cons qhic .nil))) qgab
def faa (k m:Nat)(c1:Cell)(s2:ByteArray):Option Res:=(qfo [.one (c1)] []).bind fun r3=>cond (qab qkjb r3.1) ((cC (qaa r3.1 0) 0).bind fun c4=>(qgs [.one (Cell.str s2),.one (.fn qej [c4] [])] r3.2).bind fun r5=>cond (qab qcqc r5.1) ((cC (qaa r5.1 0) 0).bind fun c6=>some ([.one (c6)],r5.2)) none) none
theorem qmtc (k m:Nat)(c1:Cell)(s2:ByteArray):evC qepd qilb (evF qepd (k+1)) m qilb.code none (retK qepd qilb) (enter qilb [.one (c1),.one (Cell.str s2)] [])=faa (k+1) m c1 s2:=by
 kernel_rfl
theorem qmrb {c1:Cell}{s2:ByteArray}{r:Res}(k:Nat)(h:faa (k+1) (k+1) c1 s2=some r):qwt [.one (c1),.one (Cell.str s2)] []=some r:=qap (k:=k+2) (Eq.trans (Eq.trans (by kernel_rfl) (qmtc k (k+1) c1 s2)) h)
end
end Go.Ev
