/- What the evaluator says of the functions, each as a Lean function over cells. Printed by a program of this claim. Conditions: none. -/
import Derived.Test.YtfaiahlpefmgmaaSh0
import Derived.KernelRfl
namespace Go.Ev
open Go Go.Proofs
noncomputable section
set_option maxRecDepth 100000
set_option linter.unusedVariables false
set_option linter.unusedSimpArgs false
def qlkb:List (Nat×Run):=[(qoj,qhz),(qda,qgu),(qca,qdj),(qgz,qbm)]
def qfl:Ctx:=ctx qdy qdq qlkb
def qfc:Run:=lim qfl qkq
theorem qhrb:FnOk Try.prog OkT qkq qfc:=qbi (l:=qlkb) qam tyTab_ok qag okT (.cons qmhb (.cons qgrb (.cons qtu (.cons qux .nil)))) qkq
def qav (k m:Nat)(b_l0:Cell→Cell→Cell→List Entry→Option Res)(b_l1:Cell→Cell→Cell→Cell→Int→Int→List Entry→Option Res):Nat→Cell→Cell→Cell→Cell→Int→Int→Cell→Int→Int→List Entry→Option Res | 0,_,_,_,_,_,_,_,_,_,_=>none | n+1,c21,c22,c23,c24,i25,i26,c27,i28,i29,H30=>cond (decide (i29 < i28)) ((idxA 1 (c27) i29).bind fun c31=>(deref H30 (c31)).bind fun p32=>(cS p32.1 p32.2).bind fun s33=>(qeh qbm [.one (c22),.one (Cell.str s33)] H30).bind fun r34=>cond (qaa qml r34) ((cB (qab r34 0) 0).bind fun b35=>cond (!b35) ((app H30 1 16 (c22) [[Cell.str s33]]).bind fun p36=>(app p36.2 1 16 (c23) [[Cell.str s33]]).bind fun p37=>qav k m b_l0 b_l1 n (c21) (p36.1) (p37.1) (c24) i25 i26 (c27) i28 (IntKind.i64.wrap (i29+1)) p37.2) (qav k m b_l0 b_l1 n (c21) (c22) (c23) (c24) i25 i26 (c27) i28 (IntKind.i64.wrap (i29+1)) H30)) none) (b_l1 (c21) (c22) (c23) (c24) i25 (IntKind.i64.wrap (i26+1)) H30)
def qaw (k m:Nat)(b_l0:Cell→Cell→Cell→List Entry→Option Res):Nat→Cell→Cell→Cell→Cell→Int→Int→List Entry→Option Res | 0,_,_,_,_,_,_,_=>none | n+1,c8,c9,c10,c11,i12,i13,H14=>cond (decide (i13 < i12)) ((idxA 1 (c11) i13).bind fun c15=>(deref H14 (c15)).bind fun p16=>(cS p16.1 p16.2).bind fun s17=>(qgu [.one (c8),.one (Cell.str s17)] H14).bind fun r18=>cond (qaa qjgb r18.1) ((cC (qab r18.1 0) 0).bind fun c19=>(lenC c19).bind fun n20=>qav k m b_l0 (qaw k m b_l0 n) m (c8) (c9) (c10) (c11) i12 i13 (c19) (n20:Int) 0 r18.2) none) (b_l0 (c8) (c9) (c10) H14)
def qao (k m:Nat):Nat→Cell→Cell→Cell→List Entry→Option Res | 0,_,_,_,_=>none | n+1,c2,c3,c4,H5=>(lenC c4).bind fun n6=>cond (decide ((n6:Int) > 0)) ((lenC c4).bind fun n7=>qaw k m (qao k m n) m (c2) (c3) (.lst true 1 []) (c4) (n7:Int) 0 H5) ((qil qhz [.one (c3)] H5).bind fun r38=>cond (qaa qcrb r38.1) ((cC (qab r38.1 0) 0).bind fun c39=>some ([.one (c39)],r38.2)) none)
def qdh (k m:Nat)(s1:ByteArray)(q2:Cell)(H:List Entry):Option Res:=qao k m m (q2) (.lst true 1 []) (.lst true 1 [[Cell.str s1]]) H
abbrev qbs (k m:Nat):TB:=evC qfl qbp (evF qfl (k+1)) m (sub [1,1,1,0,2,3] qbp.code) none
abbrev qbg (k m:Nat):TK:=qbb 0 (seqK (evC qfl qbp (evF qfl (k+1)) m (sub [1,1,1,1] qbp.code) none) (retK qfl qbp))
abbrev qco (k m:Nat):TB:=evC qfl qbp (evF qfl (k+1)) m (sub [1,1,1,0,2,3,1,2,1,0,1,2,3] qbp.code) none
abbrev qbt (k m:Nat)(n_l0:Nat):TK:=qbb 2 (seqK (evC qfl qbp (evF qfl (k+1)) m (sub [1,1,1,0,2,3,1,2,1,1] qbp.code) none) (qbb 1 (qwz (fun s=>qbz (some [1,5,6]) (qbs k m) (qbg k m) n_l0 (qkd (some [1,5,6]) s)) (qbg k m))))
abbrev qhm (k m:Nat):TB:=evC qfl qbp (evF qfl (k+1)) m (sub [1,1,1,0,2,3,1,2,1,0,1,2,3,1,1,0,2,1,1,2,3] qbp.code) none
abbrev qhn (k m:Nat)(n_l0:Nat)(n_l1:Nat):TK:=qbb 4 (qbb 3 (seqK (evC qfl qbp (evF qfl (k+1)) m (sub [1,1,1,0,2,3,1,2,1,0,1,2,3,1,1,1] qbp.code) none) (qwz (fun s=>qbz (some [1,5,7,17,18,19]) (qco k m) (qbt k m n_l0) n_l1 (qkd (some [1,5,7,17,18,19]) s)) (qbt k m n_l0))))
theorem qgl (k m:Nat)(b_l0:Cell→Cell→Cell→List Entry→Option Res)(n_l0:Nat)(h_l0:∀ (c2 c3 c4:Cell) (H5:List Entry),qbz (some [1,5,6]) (qbs k m) (qbg k m) n_l0 ⟨fT 48 0 [(1,.av (.one (.fn qda [c2] []))),(5,.av (.one (c3))),(6,.av (.one (c4)))],fX 48 0 [],H5⟩=b_l0 c2 c3 c4 H5)(b_l1:Cell→Cell→Cell→Cell→Int→Int→List Entry→Option Res)(n_l1:Nat)(h_l1:∀ (c8 c9 c10 c11:Cell) (i12 i13:Int) (H14:List Entry),qbz (some [1,5,7,17,18,19]) (qco k m) (qbt k m n_l0) n_l1 ⟨fT 48 0 [(1,.av (.one (.fn qda [c8] []))),(5,.av (.one (c9))),(7,.av (.one (c10))),(17,.av (.one (c11))),(18,.av (.one (Cell.int i12))),(19,.av (.one (Cell.int i13)))],fX 48 0 [],H14⟩=b_l1 c8 c9 c10 c11 i12 i13 H14):∀ (n:Nat) (c21 c22 c23 c24:Cell) (i25 i26:Int) (c27:Cell) (i28 i29:Int) (H30:List Entry),qbz (some [1,5,7,17,18,19,25,26,27]) (qhm k m) (qhn k m n_l0 n_l1) n ⟨fT 48 0 [(1,.av (.one (.fn qda [c21] []))),(5,.av (.one (c22))),(7,.av (.one (c23))),(17,.av (.one (c24))),(18,.av (.one (Cell.int i25))),(19,.av (.one (Cell.int i26))),(25,.av (.one (c27))),(26,.av (.one (Cell.int i28))),(27,.av (.one (Cell.int i29)))],fX 48 0 [],H30⟩=qav (k+1) m b_l0 b_l1 n c21 c22 c23 c24 i25 i26 c27 i28 i29 H30:=by
 intro n
 induction n with
 | zero=>intros;rfl
 | succ n ih=>intros;simp only[qav,← h_l1,← ih];kernel_rfl
theorem qgs (k m:Nat)(b_l0:Cell→Cell→Cell→List Entry→Option Res)(n_l0:Nat)(h_l0:∀ (c2 c3 c4:Cell) (H5:List Entry),qbz (some [1,5,6]) (qbs k m) (qbg k m) n_l0 ⟨fT 48 0 [(1,.av (.one (.fn qda [c2] []))),(5,.av (.one (c3))),(6,.av (.one (c4)))],fX 48 0 [],H5⟩=b_l0 c2 c3 c4 H5):∀ (n:Nat) (c8 c9 c10 c11:Cell) (i12 i13:Int) (H14:List Entry),qbz (some [1,5,7,17,18,19]) (qco k m) (qbt k m n_l0) n ⟨fT 48 0 [(1,.av (.one (.fn qda [c8] []))),(5,.av (.one (c9))),(7,.av (.one (c10))),(17,.av (.one (c11))),(18,.av (.one (Cell.int i12))),(19,.av (.one (Cell.int i13)))],fX 48 0 [],H14⟩=qaw (k+1) m b_l0 n c8 c9 c10 c11 i12 i13 H14:=by
 intro n
 induction n with
 | zero=>intros;rfl
 | succ n ih=>intros;simp only[qaw,← qgl k m _ _ h_l0 _ _ (ih),← h_l0];kernel_rfl
theorem qgi (k m:Nat):∀ (n:Nat) (c2 c3 c4:Cell) (H5:List Entry),qbz (some [1,5,6]) (qbs k m) (qbg k m) n ⟨fT 48 0 [(1,.av (.one (.fn qda [c2] []))),(5,.av (.one (c3))),(6,.av (.one (c4)))],fX 48 0 [],H5⟩=qao (k+1) m n c2 c3 c4 H5:=by
 intro n
 induction n with
 | zero=>intros;rfl
 | succ n ih=>intros;simp only[qao,← qgs k m _ _ (ih)];kernel_rfl
theorem qhc (k m:Nat)(s1:ByteArray)(q2:Cell)(H:List Entry):evC qfl qbp (evF qfl (k+1)) m qbp.code none (retK qfl qbp) (enter qbp [.one (Cell.str s1),.one (.fn qda [q2] [])] H)=qdh (k+1) m s1 q2 H:=by
 simp only[qdh,← qgi k m]
 kernel_rfl
theorem qfx {s1:ByteArray}{q2:Cell}{H:List Entry}{r:Res}(k:Nat)(h:qdh (k+1) (k+1) s1 q2 H=some r):qfc [.one (Cell.str s1),.one (.fn qda [q2] [])] H=some r:=qbh (k:=k+2) (Eq.trans (Eq.trans (by kernel_rfl) (qhc k (k+1) s1 q2 H)) h)
def qay (k m:Nat)(b_l0:Cell→Cell→Cell→List Entry→Option Res)(b_l1:Cell→Cell→Cell→Cell→Int→Int→List Entry→Option Res):Nat→Cell→Cell→Cell→Cell→Int→Int→Cell→Int→Int→List Entry→Option Res | 0,_,_,_,_,_,_,_,_,_,_=>none | n+1,c21,c22,c23,c24,i25,i26,c27,i28,i29,H30=>cond (decide (i29 < i28)) ((idxA 1 (c27) i29).bind fun c31=>(deref H30 (c31)).bind fun p32=>(cS p32.1 p32.2).bind fun s33=>(qeh qbm [.one (c22),.one (Cell.str s33)] H30).bind fun r34=>cond (qaa qml r34) ((cB (qab r34 0) 0).bind fun b35=>cond (!b35) ((app H30 1 16 (c22) [[Cell.str s33]]).bind fun p36=>(app p36.2 1 16 (c23) [[Cell.str s33]]).bind fun p37=>qay k m b_l0 b_l1 n (c21) (p36.1) (p37.1) (c24) i25 i26 (c27) i28 (IntKind.i64.wrap (i29+1)) p37.2) (qay k m b_l0 b_l1 n (c21) (c22) (c23) (c24) i25 i26 (c27) i28 (IntKind.i64.wrap (i29+1)) H30)) none) (b_l1 (c21) (c22) (c23) (c24) i25 (IntKind.i64.wrap (i26+1)) H30)
def qax (k m:Nat)(b_l0:Cell→Cell→Cell→List Entry→Option Res):Nat→Cell→Cell→Cell→Cell→Int→Int→List Entry→Option Res | 0,_,_,_,_,_,_,_=>none | n+1,c8,c9,c10,c11,i12,i13,H14=>cond (decide (i13 < i12)) ((idxA 1 (c11) i13).bind fun c15=>(deref H14 (c15)).bind fun p16=>(cS p16.1 p16.2).bind fun s17=>(qdj [.one (c8),.one (Cell.str s17)] H14).bind fun r18=>cond (qaa qwc r18.1) ((cC (qab r18.1 0) 0).bind fun c19=>(lenC c19).bind fun n20=>qay k m b_l0 (qax k m b_l0 n) m (c8) (c9) (c10) (c11) i12 i13 (c19) (n20:Int) 0 r18.2) none) (b_l0 (c8) (c9) (c10) H14)
def qap (k m:Nat):Nat→Cell→Cell→Cell→List Entry→Option Res | 0,_,_,_,_=>none | n+1,c2,c3,c4,H5=>(lenC c4).bind fun n6=>cond (decide ((n6:Int) > 0)) ((lenC c4).bind fun n7=>qax k m (qap k m n) m (c2) (c3) (.lst true 1 []) (c4) (n7:Int) 0 H5) ((qil qhz [.one (c3)] H5).bind fun r38=>cond (qaa qcrb r38.1) ((cC (qab r38.1 0) 0).bind fun c39=>some ([.one (c39)],r38.2)) none)
def qdk (k m:Nat)(s1:ByteArray)(q2:Cell)(H:List Entry):Option Res:=qap k m m (q2) (.lst true 1 []) (.lst true 1 [[Cell.str s1]]) H
abbrev qbr (k m:Nat):TB:=evC qfl qbp (evF qfl (k+1)) m (sub [1,1,1,0,2,3] qbp.code) none
abbrev qbf (k m:Nat):TK:=qbb 0 (seqK (evC qfl qbp (evF qfl (k+1)) m (sub [1,1,1,1] qbp.code) none) (retK qfl qbp))
abbrev qcp (k m:Nat):TB:=evC qfl qbp (evF qfl (k+1)) m (sub [1,1,1,0,2,3,1,2,1,0,1,2,3] qbp.code) none
abbrev qbu (k m:Nat)(n_l0:Nat):TK:=qbb 2 (seqK (evC qfl qbp (evF qfl (k+1)) m (sub [1,1,1,0,2,3,1,2,1,1] qbp.code) none) (qbb 1 (qwz (fun s=>qbz (some [1,5,6]) (qbr k m) (qbf k m) n_l0 (qkd (some [1,5,6]) s)) (qbf k m))))
abbrev qhj (k m:Nat):TB:=evC qfl qbp (evF qfl (k+1)) m (sub [1,1,1,0,2,3,1,2,1,0,1,2,3,1,1,0,2,1,1,2,3] qbp.code) none
abbrev qhk (k m:Nat)(n_l0:Nat)(n_l1:Nat):TK:=qbb 4 (qbb 3 (seqK (evC qfl qbp (evF qfl (k+1)) m (sub [1,1,1,0,2,3,1,2,1,0,1,2,3,1,1,1] qbp.code) none) (qwz (fun s=>qbz (some [1,5,7,17,18,19]) (qcp k m) (qbu k m n_l0) n_l1 (qkd (some [1,5,7,17,18,19]) s)) (qbu k m n_l0))))
theorem qha (k m:Nat)(b_l0:Cell→Cell→Cell→List Entry→Option Res)(n_l0:Nat)(h_l0:∀ (c2 c3 c4:Cell) (H5:List Entry),qbz (some [1,5,6]) (qbr k m) (qbf k m) n_l0 ⟨fT 48 0 [(1,.av (.one (.fn qca [c2] []))),(5,.av (.one (c3))),(6,.av (.one (c4)))],fX 48 0 [],H5⟩=b_l0 c2 c3 c4 H5)(b_l1:Cell→Cell→Cell→Cell→Int→Int→List Entry→Option Res)(n_l1:Nat)(h_l1:∀ (c8 c9 c10 c11:Cell) (i12 i13:Int) (H14:List Entry),qbz (some [1,5,7,17,18,19]) (qcp k m) (qbu k m n_l0) n_l1 ⟨fT 48 0 [(1,.av (.one (.fn qca [c8] []))),(5,.av (.one (c9))),(7,.av (.one (c10))),(17,.av (.one (c11))),(18,.av (.one (Cell.int i12))),(19,.av (.one (Cell.int i13)))],fX 48 0 [],H14⟩=b_l1 c8 c9 c10 c11 i12 i13 H14):∀ (n:Nat) (c21 c22 c23 c24:Cell) (i25 i26:Int) (c27:Cell) (i28 i29:Int) (H30:List Entry),qbz (some [1,5,7,17,18,19,25,26,27]) (qhj k m) (qhk k m n_l0 n_l1) n ⟨fT 48 0 [(1,.av (.one (.fn qca [c21] []))),(5,.av (.one (c22))),(7,.av (.one (c23))),(17,.av (.one (c24))),(18,.av (.one (Cell.int i25))),(19,.av (.one (Cell.int i26))),(25,.av (.one (c27))),(26,.av (.one (Cell.int i28))),(27,.av (.one (Cell.int i29)))],fX 48 0 [],H30⟩=qay (k+1) m b_l0 b_l1 n c21 c22 c23 c24 i25 i26 c27 i28 i29 H30:=by
 intro n
 induction n with
 | zero=>intros;rfl
 | succ n ih=>intros;simp only[qay,← h_l1,← ih];kernel_rfl
theorem qgg (k m:Nat)(b_l0:Cell→Cell→Cell→List Entry→Option Res)(n_l0:Nat)(h_l0:∀ (c2 c3 c4:Cell) (H5:List Entry),qbz (some [1,5,6]) (qbr k m) (qbf k m) n_l0 ⟨fT 48 0 [(1,.av (.one (.fn qca [c2] []))),(5,.av (.one (c3))),(6,.av (.one (c4)))],fX 48 0 [],H5⟩=b_l0 c2 c3 c4 H5):∀ (n:Nat) (c8 c9 c10 c11:Cell) (i12 i13:Int) (H14:List Entry),qbz (some [1,5,7,17,18,19]) (qcp k m) (qbu k m n_l0) n ⟨fT 48 0 [(1,.av (.one (.fn qca [c8] []))),(5,.av (.one (c9))),(7,.av (.one (c10))),(17,.av (.one (c11))),(18,.av (.one (Cell.int i12))),(19,.av (.one (Cell.int i13)))],fX 48 0 [],H14⟩=qax (k+1) m b_l0 n c8 c9 c10 c11 i12 i13 H14:=by
 intro n
 induction n with
 | zero=>intros;rfl
 | succ n ih=>intros;simp only[qax,← qha k m _ _ h_l0 _ _ (ih),← h_l0];kernel_rfl
theorem qge (k m:Nat):∀ (n:Nat) (c2 c3 c4:Cell) (H5:List Entry),qbz (some [1,5,6]) (qbr k m) (qbf k m) n ⟨fT 48 0 [(1,.av (.one (.fn qca [c2] []))),(5,.av (.one (c3))),(6,.av (.one (c4)))],fX 48 0 [],H5⟩=qap (k+1) m n c2 c3 c4 H5:=by
 intro n
 induction n with
 | zero=>intros;rfl
 | succ n ih=>intros;simp only[qap,← qgg k m _ _ (ih)];kernel_rfl
theorem qhr (k m:Nat)(s1:ByteArray)(q2:Cell)(H:List Entry):evC qfl qbp (evF qfl (k+1)) m qbp.code none (retK qfl qbp) (enter qbp [.one (Cell.str s1),.one (.fn qca [q2] [])] H)=qdk (k+1) m s1 q2 H:=by
 simp only[qdk,← qge k m]
 kernel_rfl
theorem qfu {s1:ByteArray}{q2:Cell}{H:List Entry}{r:Res}(k:Nat)(h:qdk (k+1) (k+1) s1 q2 H=some r):qfc [.one (Cell.str s1),.one (.fn qca [q2] [])] H=some r:=qbh (k:=k+2) (Eq.trans (Eq.trans (by kernel_rfl) (qhr k (k+1) s1 q2 H)) h)
def qnsb:List (Nat×Run):=[(qca,qdj),(qgz,qbm)]
def qceb:Ctx:=ctx qdy qdq qnsb
def qlb:Run:=lim qceb qsc
theorem ok_fak:FnOk Try.prog OkT qsc qlb:=qbi (l:=qnsb) qam tyTab_ok qag okT (.cons qtu (.cons qux .nil)) qsc
def qou (k m:Nat):Nat→Cell→ByteArray→Cell→Cell→Int→Int→List Entry→Option Res | 0,_,_,_,_,_,_,_=>none | n+1,c8,s9,c10,c11,i12,i13,H14=>cond (decide (i13 < i12)) ((idxA 1 (c11) i13).bind fun c15=>(deref H14 (c15)).bind fun p16=>(cS p16.1 p16.2).bind fun s17=>(qdj [.one (c8),.one (Cell.str s17)] H14).bind fun r18=>cond (qaa qwc r18.1) ((cC (qab r18.1 0) 0).bind fun c19=>(qeh qbm [.one (c19),.one (Cell.str s9)] r18.2).bind fun r20=>cond (qaa qml r20) ((cB (qab r20 0) 0).bind fun b21=>cond b21 ((app r18.2 1 16 (c10) [[Cell.str s17]]).bind fun p22=>qou k m n (c8) s9 (p22.1) (c11) i12 (IntKind.i64.wrap (i13+1)) p22.2) (qou k m n (c8) s9 (c10) (c11) i12 (IntKind.i64.wrap (i13+1)) r18.2)) none) none) (some ([.one (c10)],H14))
def fak (k m:Nat)(c1:Cell)(s2:ByteArray)(H:List Entry):Option Res:=(ptrC c1).bind fun c3=>(fldA c3 0).bind fun c4=>(deref H (c4)).bind fun p5=>(cC p5.1 p5.2).bind fun c6=>(lenC c6).bind fun n7=>qou k m m (c1) s2 (.lst true 1 []) (c6) (n7:Int) 0 H
abbrev qhtb (k m:Nat):TB:=evC qceb qjd (evF qceb (k+1)) m (sub [1,1,0,1,2,3] qjd.code) none
abbrev qjbb (k m:Nat):TK:=qbb 0 (seqK (evC qceb qjd (evF qceb (k+1)) m (sub [1,1,1] qjd.code) none) (retK qceb qjd))
theorem qaub (k m:Nat):∀ (n:Nat) (c8:Cell) (s9:ByteArray) (c10 c11:Cell) (i12 i13:Int) (H14:List Entry),qbz (some [0,1,5,11,12,13]) (qhtb k m) (qjbb k m) n ⟨fT 28 0 [(0,.av (.one (c8))),(1,.av (.one (Cell.str s9))),(5,.av (.one (c10))),(11,.av (.one (c11))),(12,.av (.one (Cell.int i12))),(13,.av (.one (Cell.int i13)))],fX 28 0 [],H14⟩=qou (k+1) m n c8 s9 c10 c11 i12 i13 H14:=by
 intro n
 induction n with
 | zero=>intros;rfl
 | succ n ih=>intros;simp only[qou,← ih];kernel_rfl
theorem qhnb (k m:Nat)(c1:Cell)(s2:ByteArray)(H:List Entry):evC qceb qjd (evF qceb (k+1)) m qjd.code none (retK qceb qjd) (enter qjd [.one (c1),.one (Cell.str s2)] H)=fak (k+1) m c1 s2 H:=by
 simp only[fak,← qaub k m]
 kernel_rfl
theorem qzi {c1:Cell}{s2:ByteArray}{H:List Entry}{r:Res}(k:Nat)(h:fak (k+1) (k+1) c1 s2 H=some r):qlb [.one (c1),.one (Cell.str s2)] H=some r:=qbh (k:=k+2) (Eq.trans (Eq.trans (by kernel_rfl) (qhnb k (k+1) c1 s2 H)) h)
def qpmb:List (Nat×Run):=[(qca,qdj),(qsc,qlb)]
def qhp:Ctx:=ctx qdy qdq qpmb
def qnu:Run:=lim qhp qry
theorem ok_fas:FnOk Try.prog OkT qry qnu:=qbi (l:=qpmb) qam tyTab_ok qag okT (.cons qtu (.cons ok_fak .nil)) qry
def qqx (k m:Nat)(b_l3:Cell→ByteArray→Cell→Cell→List Entry→Option Res):Nat→Cell→ByteArray→Cell→Cell→Cell→Int→Int→List Entry→Option Res | 0,_,_,_,_,_,_,_,_=>none | n+1,c64,s65,c66,c67,c68,i69,i70,H71=>cond (decide (i70 < i69)) ((idxA 1 (c68) i70).bind fun c72=>(deref H71 (c72)).bind fun p73=>(cS p73.1 p73.2).bind fun s74=>(qhg H71 (c66) s74).bind fun i75=>cond (decide (i75 > 0)) ((qhg H71 (c66) s74).bind fun i76=>(qhg H71 (c66) s65).bind fun i77=>cond (i76==(IntKind.i64.wrap (i77 - 1))) ((qaf (H71++[Entry.mk 1 [[Cell.str s74]] 0 false]) 1 (.vs H71.length 1 0 1 0)).bind fun r78=>(app (H71++[Entry.mk 1 [[Cell.str s74]] 0 false]) 1 16 (c67) r78).bind fun p79=>b_l3 (c64) s74 (c66) (p79.1) p79.2) (qqx k m b_l3 n (c64) s65 (c66) (c67) (c68) i69 (IntKind.i64.wrap (i70+1)) H71)) (qqx k m b_l3 n (c64) s65 (c66) (c67) (c68) i69 (IntKind.i64.wrap (i70+1)) H71)) ((qaf (H71++[Entry.mk 1 [[Cell.str s65]] 0 false]) 1 (.vs H71.length 1 0 1 0)).bind fun r80=>(app (H71++[Entry.mk 1 [[Cell.str s65]] 0 false]) 1 16 (c67) r80).bind fun p81=>b_l3 (c64) s65 (c66) (p81.1) p81.2)
def qnf (k m:Nat):Nat→Cell→ByteArray→Cell→Cell→List Entry→Option Res | 0,_,_,_,_,_=>none | n+1,c55,s56,c57,c58,H59=>(qhg H59 (c57) s56).bind fun i60=>cond (decide (i60 > 1)) ((qdj [.one (c55),.one (Cell.str s56)] H59).bind fun r61=>cond (qaa qwc r61.1) ((cC (qab r61.1 0) 0).bind fun c62=>(lenC c62).bind fun n63=>qqx k m (qnf k m n) m (c55) s56 (c57) (c58) (c62) (n63:Int) 0 r61.2) none) (some ([.one (c58)],H59))
def qot (k m:Nat)(b_l1:Cell→ByteArray→Cell→Cell→Int→List Entry→Option Res):Nat→Cell→ByteArray→Cell→Cell→Int→Cell→Int→Int→List Entry→Option Res | 0,_,_,_,_,_,_,_,_,_=>none | n+1,c35,s36,c37,c38,i39,c40,i41,i42,H43=>cond (decide (i42 < i41)) ((idxA 1 (c40) i42).bind fun c44=>(deref H43 (c44)).bind fun p45=>(cS p45.1 p45.2).bind fun s46=>(qhg H43 (c37) s46).bind fun i47=>cond (i47==0) ((idxA 1 (c38) i39).bind fun c48=>(deref H43 (c48)).bind fun p49=>(cS p49.1 p49.2).bind fun s50=>(qhg H43 (c37) s50).bind fun i51=>(qhy H43 (c37) s46 (IntKind.i64.wrap (i51+1))).bind fun h52=>(qaf (h52++[Entry.mk 1 [[Cell.str s46]] 0 false]) 1 (.vs h52.length 1 0 1 0)).bind fun r53=>(app (h52++[Entry.mk 1 [[Cell.str s46]] 0 false]) 1 16 (c38) r53).bind fun p54=>qot k m b_l1 n (c35) s36 (c37) (p54.1) i39 (c40) i41 (IntKind.i64.wrap (i42+1)) p54.2) (qot k m b_l1 n (c35) s36 (c37) (c38) i39 (c40) i41 (IntKind.i64.wrap (i42+1)) H43)) (b_l1 (c35) s36 (c37) (c38) (IntKind.i64.wrap (i39+1)) H43)
def qlp (k m:Nat):Nat→Cell→ByteArray→Cell→Cell→Int→List Entry→Option Res | 0,_,_,_,_,_,_=>none | n+1,c22,s23,c24,c25,i26,H27=>(lenC c25).bind fun n28=>cond (decide (i26 < (n28:Int))) ((idxA 1 (c25) i26).bind fun c29=>(deref H27 (c29)).bind fun p30=>(cS p30.1 p30.2).bind fun s31=>(qlb [.one (c22),.one (Cell.str s31)] H27).bind fun r32=>cond (qaa qgqb r32.1) ((cC (qab r32.1 0) 0).bind fun c33=>(lenC c33).bind fun n34=>qot k m (qlp k m n) m (c22) s23 (c24) (c25) i26 (c33) (n34:Int) 0 r32.2) none) (qnf k m m (c22) s23 (c24) ((.vs H27.length 1 0 1 0)) (H27++[Entry.mk 1 [[Cell.str s23]] 0 false]))
def qol (k m:Nat):Nat→Cell→ByteArray→Cell→Cell→Cell→Int→Int→List Entry→Option Res | 0,_,_,_,_,_,_,_,_=>none | n+1,c7,s8,c9,c10,c11,i12,i13,H14=>cond (decide (i13 < i12)) ((idxA 1 (c11) i13).bind fun c15=>(deref H14 (c15)).bind fun p16=>(cS p16.1 p16.2).bind fun s17=>(qhg H14 (c9) s17).bind fun i18=>cond (i18==0) ((qhy H14 (c9) s17 (1:Int)).bind fun h19=>(qaf (h19++[Entry.mk 1 [[Cell.str s17]] 0 false]) 1 (.vs h19.length 1 0 1 0)).bind fun r20=>(app (h19++[Entry.mk 1 [[Cell.str s17]] 0 false]) 1 16 (c10) r20).bind fun p21=>qol k m n (c7) s8 (c9) (p21.1) (c11) i12 (IntKind.i64.wrap (i13+1)) p21.2) (qol k m n (c7) s8 (c9) (c10) (c11) i12 (IntKind.i64.wrap (i13+1)) H14)) (qlp k m m (c7) s8 (c9) (c10) 0 H14)
def fas (k m:Nat)(c1:Cell)(s2 s3:ByteArray)(H:List Entry):Option Res:=(qlb [.one (c1),.one (Cell.str s3)] ((H++[Entry.mk 2 [] 0 false])++[Entry.mk 1 [] 0 false])).bind fun r4=>cond (qaa qgqb r4.1) ((cC (qab r4.1 0) 0).bind fun c5=>(lenC c5).bind fun n6=>qol k m m (c1) s2 (.mp H.length 0) ((.vs ((H++[Entry.mk 2 [] 0 false]).length) 1 0 0 0)) (c5) (n6:Int) 0 r4.2) none
abbrev qhbb (k m:Nat):TB:=evC qhp qcb (evF qhp (k+1)) m (sub [1,1,1,0,1,2,3] qcb.code) none
abbrev qkqb (k m:Nat):TK:=qbb 0 (seqK (evC qhp qcb (evF qhp (k+1)) m (sub [1,1,1,1] qcb.code) none) (retK qhp qcb))
abbrev qqc (k m:Nat):TB:=evC qhp qcb (evF qhp (k+1)) m (sub [1,1,1,1,0,1,2,3] qcb.code) none
abbrev qlr (k m:Nat):TK:=qbb 2 (seqK (evC qhp qcb (evF qhp (k+1)) m (sub [1,1,1,1,1] qcb.code) none) (retK qhp qcb))
abbrev qhhb (k m:Nat):TB:=evC qhp qcb (evF qhp (k+1)) m (sub [1,1,1,1,0,1,2,3,1,0,2,1,2,3] qcb.code) none
abbrev qjvb (k m:Nat)(n_l1:Nat):TK:=qbb 4 (qbb 3 (seqK (evC qhp qcb (evF qhp (k+1)) m (sub [1,1,1,1,0,1,2,3,1,1] qcb.code) none) (qwz (fun s=>qbz (some [0,1,7,8,11]) (qqc k m) (qlr k m) n_l1 (qkd (some [0,1,7,8,11]) s)) (qlr k m))))
abbrev qpx (k m:Nat):TB:=evC qhp qcb (evF qhp (k+1)) m (sub [1,1,1,1,1,1,0,2,3] qcb.code) none
abbrev qlq (k m:Nat):TK:=qbb 6 (seqK (evC qhp qcb (evF qhp (k+1)) m (sub [1,1,1,1,1,1,1] qcb.code) none) (retK qhp qcb))
abbrev qklb (k m:Nat):TB:=evC qhp qcb (evF qhp (k+1)) m (sub [1,1,1,1,1,1,0,2,3,1,2,0,1,2,3] qcb.code) none
abbrev qivb (k m:Nat)(n_l3:Nat):TK:=qbb 8 (seqK (evC qhp qcb (evF qhp (k+1)) m (sub [1,1,1,1,1,1,0,2,3,1,2,1] qcb.code) none) (qbb 7 (qwz (fun s=>qbz (some [0,1,7,14]) (qpx k m) (qlq k m) n_l3 (qkd (some [0,1,7,14]) s)) (qlq k m))))
theorem qcgb (k m:Nat)(b_l3:Cell→ByteArray→Cell→Cell→List Entry→Option Res)(n_l3:Nat)(h_l3:∀ (c55:Cell) (s56:ByteArray) (c57 c58:Cell) (H59:List Entry),qbz (some [0,1,7,14]) (qpx k m) (qlq k m) n_l3 ⟨fT 108 0 [(0,.av (.one (c55))),(1,.av (.one (Cell.str s56))),(7,.av (.one (c57))),(14,.av (.one (c58)))],fX 108 0 [],H59⟩=b_l3 c55 s56 c57 c58 H59):∀ (n:Nat) (c64:Cell) (s65:ByteArray) (c66 c67 c68:Cell) (i69 i70:Int) (H71:List Entry),qbz (some [0,1,7,14,81,82,83]) (qklb k m) (qivb k m n_l3) n ⟨fT 108 0 [(0,.av (.one (c64))),(1,.av (.one (Cell.str s65))),(7,.av (.one (c66))),(14,.av (.one (c67))),(81,.av (.one (c68))),(82,.av (.one (Cell.int i69))),(83,.av (.one (Cell.int i70)))],fX 108 0 [],H71⟩=qqx (k+1) m b_l3 n c64 s65 c66 c67 c68 i69 i70 H71:=by
 intro n
 induction n with
 | zero=>intros;rfl
 | succ n ih=>intros;simp only[qqx,← h_l3,← ih];kernel_rfl
theorem qcjb (k m:Nat):∀ (n:Nat) (c55:Cell) (s56:ByteArray) (c57 c58:Cell) (H59:List Entry),qbz (some [0,1,7,14]) (qpx k m) (qlq k m) n ⟨fT 108 0 [(0,.av (.one (c55))),(1,.av (.one (Cell.str s56))),(7,.av (.one (c57))),(14,.av (.one (c58)))],fX 108 0 [],H59⟩=qnf (k+1) m n c55 s56 c57 c58 H59:=by
 intro n
 induction n with
 | zero=>intros;rfl
 | succ n ih=>intros;simp only[qnf,← qcgb k m _ _ (ih)];kernel_rfl
theorem qbwb (k m:Nat)(b_l1:Cell→ByteArray→Cell→Cell→Int→List Entry→Option Res)(n_l1:Nat)(h_l1:∀ (c22:Cell) (s23:ByteArray) (c24 c25:Cell) (i26:Int) (H27:List Entry),qbz (some [0,1,7,8,11]) (qqc k m) (qlr k m) n_l1 ⟨fT 108 0 [(0,.av (.one (c22))),(1,.av (.one (Cell.str s23))),(7,.av (.one (c24))),(8,.av (.one (c25))),(11,.av (.one (Cell.int i26)))],fX 108 0 [],H27⟩=b_l1 c22 s23 c24 c25 i26 H27):∀ (n:Nat) (c35:Cell) (s36:ByteArray) (c37 c38:Cell) (i39:Int) (c40:Cell) (i41 i42:Int) (H43:List Entry),qbz (some [0,1,7,8,11,49,50,51]) (qhhb k m) (qjvb k m n_l1) n ⟨fT 108 0 [(0,.av (.one (c35))),(1,.av (.one (Cell.str s36))),(7,.av (.one (c37))),(8,.av (.one (c38))),(11,.av (.one (Cell.int i39))),(49,.av (.one (c40))),(50,.av (.one (Cell.int i41))),(51,.av (.one (Cell.int i42)))],fX 108 0 [],H43⟩=qot (k+1) m b_l1 n c35 s36 c37 c38 i39 c40 i41 i42 H43:=by
 intro n
 induction n with
 | zero=>intros;rfl
 | succ n ih=>intros;simp only[qot,← h_l1,← ih];kernel_rfl
theorem qehb (k m:Nat):∀ (n:Nat) (c22:Cell) (s23:ByteArray) (c24 c25:Cell) (i26:Int) (H27:List Entry),qbz (some [0,1,7,8,11]) (qqc k m) (qlr k m) n ⟨fT 108 0 [(0,.av (.one (c22))),(1,.av (.one (Cell.str s23))),(7,.av (.one (c24))),(8,.av (.one (c25))),(11,.av (.one (Cell.int i26)))],fX 108 0 [],H27⟩=qlp (k+1) m n c22 s23 c24 c25 i26 H27:=by
 intro n
 induction n with
 | zero=>intros;rfl
 | succ n ih=>intros;simp only[qlp,← qbwb k m _ _ (ih),← qcjb k m];kernel_rfl
theorem qdwb (k m:Nat):∀ (n:Nat) (c7:Cell) (s8:ByteArray) (c9 c10 c11:Cell) (i12 i13:Int) (H14:List Entry),qbz (some [0,1,7,8,21,22,23]) (qhbb k m) (qkqb k m) n ⟨fT 108 0 [(0,.av (.one (c7))),(1,.av (.one (Cell.str s8))),(7,.av (.one (c9))),(8,.av (.one (c10))),(21,.av (.one (c11))),(22,.av (.one (Cell.int i12))),(23,.av (.one (Cell.int i13)))],fX 108 0 [],H14⟩=qol (k+1) m n c7 s8 c9 c10 c11 i12 i13 H14:=by
 intro n
 induction n with
 | zero=>intros;rfl
 | succ n ih=>intros;simp only[qol,← qehb k m,← ih];kernel_rfl
theorem qkub (k m:Nat)(c1:Cell)(s2 s3:ByteArray)(H:List Entry):evC qhp qcb (evF qhp (k+1)) m qcb.code none (retK qhp qcb) (enter qcb [.one (c1),.one (Cell.str s2),.one (Cell.str s3)] H)=fas (k+1) m c1 s2 s3 H:=by
 simp only[fas,← qdwb k m]
 kernel_rfl
theorem qxe {c1:Cell}{s2 s3:ByteArray}{H:List Entry}{r:Res}(k:Nat)(h:fas (k+1) (k+1) c1 s2 s3 H=some r):qnu [.one (c1),.one (Cell.str s2),.one (Cell.str s3)] H=some r:=qbh (k:=k+2) (Eq.trans (Eq.trans (by kernel_rfl) (qkub k (k+1) c1 s2 s3 H)) h)
def qorb:List (Nat×Run):=[(qkq,qfc),(qca,qdj),(qgz,qbm),(qry,qnu)]
def qbqb:Ctx:=ctx qdy qdq qorb
def qpr:Run:=lim qbqb qsn
theorem ok_faq:FnOk Try.prog OkT qsn qpr:=qbi (l:=qorb) qam tyTab_ok qag okT (.cons qhrb (.cons qtu (.cons qux (.cons ok_fas .nil)))) qsn
def qqy (k m:Nat):Nat→Cell→Cell→Int→Int→List Entry→Option Res | 0,_,_,_,_,_=>none | n+1,c7,c8,i9,i10,H11=>cond (decide (i10 < i9)) ((idxA 1 (c8) i10).bind fun c12=>(deref H11 (c12)).bind fun p13=>(cS p13.1 p13.2).bind fun s14=>(qfc [.one (Cell.str s14),.one (.fn qca [c7] [])] H11).bind fun r15=>cond (qaa qbpb r15.1) ((cC (qab r15.1 0) 0).bind fun c16=>(qeh qbm [.one (c16),.one (Cell.str s14)] r15.2).bind fun r17=>cond (qaa qml r17) ((cB (qab r17 0) 0).bind fun b18=>cond b18 ((qnu [.one (c7),.one (Cell.str s14),.one (Cell.str s14)] r15.2).bind fun r19=>cond (qaa qncb r19.1) ((cC (qab r19.1 0) 0).bind fun c20=>some ([.one (c20)],r19.2)) none) (qqy k m n (c7) (c8) i9 (IntKind.i64.wrap (i10+1)) r15.2)) none) none) (some ([.one (.lst true 1 [])],H11))
def faq (k m:Nat)(c1:Cell)(H:List Entry):Option Res:=(ptrC c1).bind fun c2=>(fldA c2 0).bind fun c3=>(deref H (c3)).bind fun p4=>(cC p4.1 p4.2).bind fun c5=>(lenC c5).bind fun n6=>qqy k m m (c1) (c5) (n6:Int) 0 H
abbrev qhdb (k m:Nat):TB:=evC qbqb qjl (evF qbqb (k+1)) m (sub [1,0,1,2,3] qjl.code) none
abbrev qiab (k m:Nat):TK:=qbb 0 (seqK (evC qbqb qjl (evF qbqb (k+1)) m (sub [1,1] qjl.code) none) (retK qbqb qjl))
theorem qbtb (k m:Nat):∀ (n:Nat) (c7 c8:Cell) (i9 i10:Int) (H11:List Entry),qbz (some [0,8,9,10]) (qhdb k m) (qiab k m) n ⟨fT 25 0 [(0,.av (.one (c7))),(8,.av (.one (c8))),(9,.av (.one (Cell.int i9))),(10,.av (.one (Cell.int i10)))],fX 25 0 [],H11⟩=qqy (k+1) m n c7 c8 i9 i10 H11:=by
 intro n
 induction n with
 | zero=>intros;rfl
 | succ n ih=>intros;simp only[qqy,← ih];kernel_rfl
theorem qgkb (k m:Nat)(c1:Cell)(H:List Entry):evC qbqb qjl (evF qbqb (k+1)) m qjl.code none (retK qbqb qjl) (enter qjl [.one (c1)] H)=faq (k+1) m c1 H:=by
 simp only[faq,← qbtb k m]
 kernel_rfl
theorem qyg {c1:Cell}{H:List Entry}{r:Res}(k:Nat)(h:faq (k+1) (k+1) c1 H=some r):qpr [.one (c1)] H=some r:=qbh (k:=k+2) (Eq.trans (Eq.trans (by kernel_rfl) (qgkb k (k+1) c1 H)) h)
def qmub:List (Nat×Run):=[(qhu,qdv),(qsn,qpr)]
def qrib:Ctx:=ctx qdy qdq qmub
def qoa:Run:=lim qrib qsw
theorem ok_faf:FnOk Try.prog OkT qsw qoa:=qbi (l:=qmub) qam tyTab_ok qag okT (.cons qzg (.cons ok_faq .nil)) qsw
def faf (k m:Nat)(c1:Cell):Option Res:=(qdv [.one (c1)] []).bind fun r2=>cond (qaa qtz r2.1) ((cC (qab r2.1 0) 0).bind fun c3=>(qpr [.one (c3)] r2.2).bind fun r4=>cond (qaa qomb r4.1) ((cC (qab r4.1 0) 0).bind fun c5=>some ([.one (c5)],r4.2)) none) none
theorem qjob (k m:Nat)(c1:Cell):evC qrib quh (evF qrib (k+1)) m quh.code none (retK qrib quh) (enter quh [.one (c1)] [])=faf (k+1) m c1:=by
 kernel_rfl
theorem qye {c1:Cell}{r:Res}(k:Nat)(h:faf (k+1) (k+1) c1=some r):qoa [.one (c1)] []=some r:=qbh (k:=k+2) (Eq.trans (Eq.trans (by kernel_rfl) (qjob k (k+1) c1)) h)
def qmqb:List (Nat×Run):=[(qca,qdj),(qgz,qbm)]
def qdyb:Ctx:=ctx qdy qdq qmqb
def qpm:Run:=lim qdyb qrp
theorem ok_fam:FnOk Try.prog OkT qrp qpm:=qbi (l:=qmqb) qam tyTab_ok qag okT (.cons qtu (.cons qux .nil)) qrp
def qmp (k m:Nat):Nat→Cell→Cell→Cell→Int→Int→List Entry→Option Res | 0,_,_,_,_,_,_=>none | n+1,c7,c8,c9,i10,i11,H12=>cond (decide (i11 < i10)) ((idxA 1 (c9) i11).bind fun c13=>(deref H12 (c13)).bind fun p14=>(cS p14.1 p14.2).bind fun s15=>(ptrC c7).bind fun c16=>(fldA c16 0).bind fun c17=>(deref H12 (c17)).bind fun p18=>(cC p18.1 p18.2).bind fun c19=>(qeh qbm [.one (c19),.one (Cell.str s15)] H12).bind fun r20=>cond (qaa qml r20) ((cB (qab r20 0) 0).bind fun b21=>cond b21 ((qeh qbm [.one (c8),.one (Cell.str s15)] H12).bind fun r22=>cond (qaa qml r22) ((cB (qab r22 0) 0).bind fun b23=>cond (!b23) (some ([.one (Cell.bool false)],H12)) (qmp k m n (c7) (c8) (c9) i10 (IntKind.i64.wrap (i11+1)) H12)) none) (qmp k m n (c7) (c8) (c9) i10 (IntKind.i64.wrap (i11+1)) H12)) none) (some ([.one (Cell.bool true)],H12))
def fam (k m:Nat)(c1:Cell)(s2:ByteArray)(c3:Cell)(H:List Entry):Option Res:=(qdj [.one (c1),.one (Cell.str s2)] H).bind fun r4=>cond (qaa qwc r4.1) ((cC (qab r4.1 0) 0).bind fun c5=>(lenC c5).bind fun n6=>qmp k m m (c1) (c3) (c5) (n6:Int) 0 r4.2) none
abbrev qgcb (k m:Nat):TB:=evC qdyb qje (evF qdyb (k+1)) m (sub [1,0,1,2,3] qje.code) none
abbrev qjcb (k m:Nat):TK:=qbb 0 (seqK (evC qdyb qje (evF qdyb (k+1)) m (sub [1,1] qje.code) none) (retK qdyb qje))
theorem qdxb (k m:Nat):∀ (n:Nat) (c7 c8 c9:Cell) (i10 i11:Int) (H12:List Entry),qbz (some [0,2,11,12,13]) (qgcb k m) (qjcb k m) n ⟨fT 30 0 [(0,.av (.one (c7))),(2,.av (.one (c8))),(11,.av (.one (c9))),(12,.av (.one (Cell.int i10))),(13,.av (.one (Cell.int i11)))],fX 30 0 [],H12⟩=qmp (k+1) m n c7 c8 c9 i10 i11 H12:=by
 intro n
 induction n with
 | zero=>intros;rfl
 | succ n ih=>intros;simp only[qmp,← ih];kernel_rfl
theorem qgeb (k m:Nat)(c1:Cell)(s2:ByteArray)(c3:Cell)(H:List Entry):evC qdyb qje (evF qdyb (k+1)) m qje.code none (retK qdyb qje) (enter qje [.one (c1),.one (Cell.str s2),.one (c3)] H)=fam (k+1) m c1 s2 c3 H:=by
 simp only[fam,← qdxb k m]
 kernel_rfl
theorem qzx {c1:Cell}{s2:ByteArray}{c3:Cell}{H:List Entry}{r:Res}(k:Nat)(h:fam (k+1) (k+1) c1 s2 c3 H=some r):qpm [.one (c1),.one (Cell.str s2),.one (c3)] H=some r:=qbh (k:=k+2) (Eq.trans (Eq.trans (by kernel_rfl) (qgeb k (k+1) c1 s2 c3 H)) h)
def qpeb:List (Nat×Run):=[(qgz,qbm),(qrp,qpm)]
def qrhb:Ctx:=ctx qdy qdq qpeb
def qle:Run:=lim qrhb qgy
theorem qokb:FnOk Try.prog OkT qgy qle:=qbi (l:=qpeb) qam tyTab_ok qag okT (.cons qux (.cons ok_fam .nil)) qgy
def fap (k m:Nat)(s1:ByteArray)(c2 c3:Cell)(H:List Entry):Option Res:=(deref H (c2)).bind fun p4=>(cC p4.1 p4.2).bind fun c5=>(qeh qbm [.one (c5),.one (Cell.str s1)] H).bind fun r6=>cond (qaa qml r6) ((cB (qab r6 0) 0).bind fun b7=>cond (!b7) ((deref H (c3)).bind fun p8=>(cC p8.1 p8.2).bind fun c9=>(deref H (c2)).bind fun p10=>(cC p10.1 p10.2).bind fun c11=>(qpm [.one (c9),.one (Cell.str s1),.one (c11)] H).bind fun r12=>cond (qaa qoib r12.1) ((cB (qab r12.1 0) 0).bind fun b13=>some ([.one (Cell.bool b13)],r12.2)) none) (some ([.one (Cell.bool false)],H))) none
theorem qieb (k m:Nat)(s1:ByteArray)(c2 c3:Cell)(H:List Entry):evC qrhb qtw (evF qrhb (k+1)) m qtw.code none (retK qrhb qtw) (enter qtw [.one (Cell.str s1),.one (c2),.one (c3)] H)=fap (k+1) m s1 c2 c3 H:=by
 kernel_rfl
theorem qza {s1:ByteArray}{c2 c3:Cell}{H:List Entry}{r:Res}(k:Nat)(h:fap (k+1) (k+1) s1 c2 c3 H=some r):qle [.one (Cell.str s1),.one (c2),.one (c3)] H=some r:=qbh (k:=k+2) (Eq.trans (Eq.trans (by kernel_rfl) (qieb k (k+1) s1 c2 c3 H)) h)
def qpqb:List (Nat×Run):=[(qgy,qle)]
def qdkb:Ctx:=ctx qdy qdq qpqb
def qsk:Run:=lim qdkb qto
theorem ok_fbb:FnOk Try.prog OkT qto qsk:=qbi (l:=qpqb) qam tyTab_ok qag okT (.cons qokb .nil) qto
def qad (k m:Nat):Nat→Cell→Cell→Cell→Int→Int→List Entry→Option Res | 0,_,_,_,_,_,_=>none | n+1,c3,c4,c5,i6,i7,H8=>cond (decide (i7 < i6)) ((idxA 1 (c3) i7).bind fun c9=>(deref H8 (c9)).bind fun p10=>(cS p10.1 p10.2).bind fun s11=>(qle [.one (Cell.str s11),.one (c4),.one (c5)] H8).bind fun r12=>cond (qaa qqfb r12.1) ((cB (qab r12.1 0) 0).bind fun b13=>cond b13 (some ([.one (Cell.int i7)],r12.2)) (qad k m n (c3) (c4) (c5) i6 (IntKind.i64.wrap (i7+1)) r12.2)) none) (some ([.one (Cell.int (-1))],H8))
def qaq (k m:Nat)(c1 q2 q3:Cell)(H:List Entry):Option Res:=(lenC c1).bind fun n2=>qad k m m (c1) (q2) (q3) (n2:Int) 0 H
abbrev qcs (k m:Nat):TB:=evC qdkb qjk (evF qdkb (k+1)) m (sub [1,0,1,2,3] qjk.code) none
abbrev qcr (k m:Nat):TK:=qbb 0 (seqK (evC qdkb qjk (evF qdkb (k+1)) m (sub [1,1] qjk.code) none) (retK qdkb qjk))
theorem qci (k m:Nat):∀ (n:Nat) (c3 c4 c5:Cell) (i6 i7:Int) (H8:List Entry),qbz (some [0,1,7,8]) (qcs k m) (qcr k m) n ⟨fT 19 0 [(0,.av (.one (c3))),(1,.av (.one (.fn qgy [] [c4,c5]))),(7,.av (.one (Cell.int i6))),(8,.av (.one (Cell.int i7)))],fX 19 0 [],H8⟩=qad (k+1) m n c3 c4 c5 i6 i7 H8:=by
 intro n
 induction n with
 | zero=>intros;rfl
 | succ n ih=>intros;simp only[qad,← ih];kernel_rfl
theorem qcl (k m:Nat)(c1 q2 q3:Cell)(H:List Entry):evC qdkb qjk (evF qdkb (k+1)) m qjk.code none (retK qdkb qjk) (enter qjk [.one (c1),.one (.fn qgy [] [q2,q3])] H)=qaq (k+1) m c1 q2 q3 H:=by
 simp only[qaq,← qci k m]
 kernel_rfl
theorem qcc {c1 q2 q3:Cell}{H:List Entry}{r:Res}(k:Nat)(h:qaq (k+1) (k+1) c1 q2 q3 H=some r):qsk [.one (c1),.one (.fn qgy [] [q2,q3])] H=some r:=qbh (k:=k+2) (Eq.trans (Eq.trans (by kernel_rfl) (qcl k (k+1) c1 q2 q3 H)) h)
def qntb:List (Nat×Run):=[(qto,qsk),(qgy,qle)]
def qarb:Ctx:=ctx qdy qdq qntb
def qng:Run:=lim qarb qrj
theorem ok_fao:FnOk Try.prog OkT qrj qng:=qbi (l:=qntb) qam tyTab_ok qag okT (.cons ok_fbb (.cons qokb .nil)) qrj
def qqj (k m:Nat):Nat→Cell→Cell→List Entry→Option Res | 0,_,_,_=>none | n+1,c2,c3,H4=>(deref H4 (c3)).bind fun p5=>(cC p5.1 p5.2).bind fun c6=>(lenC c6).bind fun n7=>(deref H4 (c2)).bind fun p8=>(cC p8.1 p8.2).bind fun c9=>(ptrC c9).bind fun c10=>(fldA c10 0).bind fun c11=>(deref H4 (c11)).bind fun p12=>(cC p12.1 p12.2).bind fun c13=>(lenC c13).bind fun n14=>cond (decide ((n7:Int) < (n14:Int))) ((deref H4 (c2)).bind fun p15=>(cC p15.1 p15.2).bind fun c16=>(ptrC c16).bind fun c17=>(fldA c17 0).bind fun c18=>(deref H4 (c18)).bind fun p19=>(cC p19.1 p19.2).bind fun c20=>(qsk [.one (c20),.one (.fn qgy [] [c3,c2])] H4).bind fun r21=>cond (qaa qpdb r21.1) ((cI .i64 (qab r21.1 0) 0).bind fun i22=>cond (decide (i22 < 0)) (some ([.one (.lst true 1 []),.one (Cell.bool false)],r21.2)) ((deref r21.2 (c3)).bind fun p23=>(cC p23.1 p23.2).bind fun c24=>(deref r21.2 (c2)).bind fun p25=>(cC p25.1 p25.2).bind fun c26=>(ptrC c26).bind fun c27=>(fldA c27 0).bind fun c28=>(deref r21.2 (c28)).bind fun p29=>(cC p29.1 p29.2).bind fun c30=>(idxA 1 (c30) i22).bind fun c31=>(deref r21.2 (c31)).bind fun p32=>(cS p32.1 p32.2).bind fun s33=>(app r21.2 1 16 (c24) [[Cell.str s33]]).bind fun p34=>(qeg p34.2 (c3) [p34.1]).bind fun h35=>qqj k m n (c2) (c3) h35)) none) ((deref H4 (c3)).bind fun p36=>(cC p36.1 p36.2).bind fun c37=>some ([.one (c37),.one (Cell.bool true)],H4))
def fao (k m:Nat)(c1:Cell)(H:List Entry):Option Res:=qqj k m m (.ptr H.length 1 0 0 0) (.ptr ((H++[Entry.mk 1 [[c1]] 0 false]).length) 1 0 0 0) ((H++[Entry.mk 1 [[c1]] 0 false])++[Entry.mk 1 [[.lst true 1 []]] 0 false])
abbrev qfwb (k m:Nat):TB:=evC qarb qjr (evF qarb (k+1)) m (sub [1,1,0,2,3] qjr.code) none
abbrev qilb (k m:Nat):TK:=qbb 0 (seqK (evC qarb qjr (evF qarb (k+1)) m (sub [1,1,1] qjr.code) none) (retK qarb qjr))
theorem qdeb (k m:Nat):∀ (n:Nat) (c2 c3:Cell) (H4:List Entry),qbz (some [1,4]) (qfwb k m) (qilb k m) n ⟨fT 33 0 [(1,.av (.one (c2))),(4,.av (.one (c3)))],fX 33 0 [],H4⟩=qqj (k+1) m n c2 c3 H4:=by
 intro n
 induction n with
 | zero=>intros;rfl
 | succ n ih=>intros;simp only[qqj,← ih];kernel_rfl
theorem qiob (k m:Nat)(c1:Cell)(H:List Entry):evC qarb qjr (evF qarb (k+1)) m qjr.code none (retK qarb qjr) (enter qjr [.one (c1)] H)=fao (k+1) m c1 H:=by
 simp only[fao,← qdeb k m]
 kernel_rfl
theorem qxn {c1:Cell}{H:List Entry}{r:Res}(k:Nat)(h:fao (k+1) (k+1) c1 H=some r):qng [.one (c1)] H=some r:=qbh (k:=k+2) (Eq.trans (Eq.trans (by kernel_rfl) (qiob k (k+1) c1 H)) h)
def qqcb:List (Nat×Run):=[(qhu,qdv),(qrj,qng)]
def qqtb:Ctx:=ctx qdy qdq qqcb
def qns:Run:=lim qqtb qsj
theorem ok_fae:FnOk Try.prog OkT qsj qns:=qbi (l:=qqcb) qam tyTab_ok qag okT (.cons qzg (.cons ok_fao .nil)) qsj
def fae (k m:Nat)(c1:Cell):Option Res:=(qdv [.one (c1)] []).bind fun r2=>cond (qaa qtz r2.1) ((cC (qab r2.1 0) 0).bind fun c3=>(qng [.one (c3)] r2.2).bind fun r4=>cond (qaa qmdb r4.1) ((cC (qab r4.1 0) 0).bind fun c5=>(cB (qab r4.1 1) 0).bind fun b6=>some ([.one (c5),.one (Cell.bool b6)],r4.2)) none) none
theorem qjib (k m:Nat)(c1:Cell):evC qqtb qum (evF qqtb (k+1)) m qum.code none (retK qqtb qum) (enter qum [.one (c1)] [])=fae (k+1) m c1:=by
 kernel_rfl
theorem qzt {c1:Cell}{r:Res}(k:Nat)(h:fae (k+1) (k+1) c1=some r):qns [.one (c1)] []=some r:=qbh (k:=k+2) (Eq.trans (Eq.trans (by kernel_rfl) (qjib k (k+1) c1)) h)
def qldb:List (Nat×Run):=[]
def qcib:Ctx:=ctx qdy qdq qldb
def qek:Run:=lim qcib qsb
theorem ok_fav:FnOk Try.prog OkT qsb qek:=qbi (l:=qldb) qam tyTab_ok qag okT .nil qsb
def qql (k m:Nat):Nat→Cell→ByteArray→Int→Option Res | 0,_,_,_=>none | n+1,c3,s4,i5=>(lenC c3).bind fun n6=>cond (decide (i5 < (n6:Int))) ((idxA 1 (c3) i5).bind fun c7=>(deref [] (c7)).bind fun p8=>(cS p8.1 p8.2).bind fun s9=>cond (s9.toList==s4.toList) (some ([.one (Cell.bool true)],[])) (qql k m n (c3) s4 (IntKind.i64.wrap (i5+1)))) (some ([.one (Cell.bool false)],[]))
def fav (k m:Nat)(c1:Cell)(s2:ByteArray):Option Res:=qql k m m (c1) s2 0
abbrev qktb (k m:Nat):TB:=evC qcib qiw (evF qcib (k+1)) m (sub [1,0,1,2,3] qiw.code) none
abbrev qifb (k m:Nat):TK:=qbb 0 (seqK (evC qcib qiw (evF qcib (k+1)) m (sub [1,1] qiw.code) none) (retK qcib qiw))
theorem qcbb (k m:Nat):∀ (n:Nat) (c3:Cell) (s4:ByteArray) (i5:Int),qbz (some [0,1,5]) (qktb k m) (qifb k m) n ⟨fT 18 0 [(0,.av (.one (c3))),(1,.av (.one (Cell.str s4))),(5,.av (.one (Cell.int i5)))],fX 18 0 [],[]⟩=qql (k+1) m n c3 s4 i5:=by
 intro n
 induction n with
 | zero=>intros;rfl
 | succ n ih=>intros;simp only[qql,← ih];kernel_rfl
theorem qkjb (k m:Nat)(c1:Cell)(s2:ByteArray):evC qcib qiw (evF qcib (k+1)) m qiw.code none (retK qcib qiw) (enter qiw [.one (c1),.one (Cell.str s2)] [])=fav (k+1) m c1 s2:=by
 simp only[fav,← qcbb k m]
 kernel_rfl
theorem qxz {c1:Cell}{s2:ByteArray}{r:Res}(k:Nat)(h:fav (k+1) (k+1) c1 s2=some r):qek [.one (c1),.one (Cell.str s2)] []=some r:=qbh (k:=k+2) (Eq.trans (Eq.trans (by kernel_rfl) (qkjb k (k+1) c1 s2)) h)
def qprb:List (Nat×Run):=[(qhu,qdv),(qoj,qhz),(qda,qgu)]
def qreb:Ctx:=ctx qdy qdq qprb
def qoy:Run:=lim qreb qtl
theorem ok_fah:FnOk Try.prog OkT qtl qoy:=qbi (l:=qprb) qam tyTab_ok qag okT (.cons qzg (.cons qmhb (.cons qgrb .nil))) qtl
def fah (k m:Nat)(c1:Cell)(s2:ByteArray):Option Res:=(qdv [.one (c1)] []).bind fun r3=>cond (qaa qtz r3.1) ((cC (qab r3.1 0) 0).bind fun c4=>(qgu [.one (c4),.one (Cell.str s2)] r3.2).bind fun r5=>cond (qaa qjgb r5.1) ((cC (qab r5.1 0) 0).bind fun c6=>(qil qhz [.one (c6)] r5.2).bind fun r7=>cond (qaa qcrb r7.1) ((cC (qab r7.1 0) 0).bind fun c8=>some ([.one (c8)],r7.2)) none) none) none
theorem qgbb (k m:Nat)(c1:Cell)(s2:ByteArray):evC qreb qts (evF qreb (k+1)) m qts.code none (retK qreb qts) (enter qts [.one (c1),.one (Cell.str s2)] [])=fah (k+1) m c1 s2:=by
 kernel_rfl
theorem qwf {c1:Cell}{s2:ByteArray}{r:Res}(k:Nat)(h:fah (k+1) (k+1) c1 s2=some r):qoy [.one (c1),.one (Cell.str s2)] []=some r:=qbh (k:=k+2) (Eq.trans (Eq.trans (by kernel_rfl) (qgbb k (k+1) c1 s2)) h)
end
end Go.Ev
