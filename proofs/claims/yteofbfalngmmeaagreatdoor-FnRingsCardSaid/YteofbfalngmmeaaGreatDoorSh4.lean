/- What the evaluator says of the functions, each as a Lean function over cells. Printed by a program of this claim. Conditions: none. -/
import Derived.Test.YteofbfalngmmeaaGreatDoorSh3
import Derived.KernelRfl
namespace Go.Ev
open Go Go.Proofs
noncomputable section
set_option maxRecDepth 100000
set_option linter.unusedVariables false
set_option linter.unusedSimpArgs false
def qcxd:List (Nat×Run):=[(qdb,qev),(qej,qkf),(qxu,qll),(qju,qch)]
def qhq:Ctx:=ctx qbi qbh qcxd
def qgs:Run:=lim qhq qra
theorem qgac:FnOk Tryz.prog OkT qra qgs:=qao (l:=qcxd) qac tyTab_ok qad okT (.cons qkzb (.cons qhic (.cons qync (.cons qkkb .nil)))) qra
def qbm (k m:Nat)(b_l0:Cell→Cell→Cell→List Entry→Option Res)(b_l1:Cell→Cell→Cell→Cell→Int→Int→List Entry→Option Res):Nat→Cell→Cell→Cell→Cell→Int→Int→Cell→Int→Int→List Entry→Option Res | 0,_,_,_,_,_,_,_,_,_,_=>none | n+1,c21,c22,c23,c24,i25,i26,c27,i28,i29,H30=>cond (decide (i29 < i28)) ((idxA 1 (c27) i29).bind fun c31=>(deref H30 (c31)).bind fun p32=>(cS p32.1 p32.2).bind fun s33=>(qbc qch [.one (c22),.one (Cell.str s33)] H30).bind fun r34=>cond (qab qta r34) ((cB (qaa r34 0) 0).bind fun b35=>cond (!b35) ((app H30 1 16 (c22) [[Cell.str s33]]).bind fun p36=>(app p36.2 1 16 (c23) [[Cell.str s33]]).bind fun p37=>qbm k m b_l0 b_l1 n (c21) (p36.1) (p37.1) (c24) i25 i26 (c27) i28 (IntKind.i64.wrap (i29+1)) p37.2) (qbm k m b_l0 b_l1 n (c21) (c22) (c23) (c24) i25 i26 (c27) i28 (IntKind.i64.wrap (i29+1)) H30)) none) (b_l1 (c21) (c22) (c23) (c24) i25 (IntKind.i64.wrap (i26+1)) H30)
def qbp (k m:Nat)(b_l0:Cell→Cell→Cell→List Entry→Option Res):Nat→Cell→Cell→Cell→Cell→Int→Int→List Entry→Option Res | 0,_,_,_,_,_,_,_=>none | n+1,c8,c9,c10,c11,i12,i13,H14=>cond (decide (i13 < i12)) ((idxA 1 (c11) i13).bind fun c15=>(deref H14 (c15)).bind fun p16=>(cS p16.1 p16.2).bind fun s17=>(qev [.one (c8),.one (Cell.str s17)] H14).bind fun r18=>cond (qab qrsb r18.1) ((cC (qaa r18.1 0) 0).bind fun c19=>(lenC c19).bind fun n20=>qbm k m b_l0 (qbp k m b_l0 n) m (c8) (c9) (c10) (c11) i12 i13 (c19) (n20:Int) 0 r18.2) none) (b_l0 (c8) (c9) (c10) H14)
def qbd (k m:Nat):Nat→Cell→Cell→Cell→List Entry→Option Res | 0,_,_,_,_=>none | n+1,c2,c3,c4,H5=>(lenC c4).bind fun n6=>cond (decide ((n6:Int) > 0)) ((lenC c4).bind fun n7=>qbp k m (qbd k m n) m (c2) (c3) (.lst true 1 []) (c4) (n7:Int) 0 H5) ((qfd qll [.one (c3)] H5).bind fun r38=>cond (qab qttb r38.1) ((cC (qaa r38.1 0) 0).bind fun c39=>some ([.one (c39)],r38.2)) none)
def qey (k m:Nat)(s1:ByteArray)(q2:Cell)(H:List Entry):Option Res:=qbd k m m (q2) (.lst true 1 []) (.lst true 1 [[Cell.str s1]]) H
abbrev qcr (k m:Nat):TB:=evC qhq qcn (evF qhq (k+1)) m (sub [1,1,1,0,2,3] qcn.code) none
abbrev qcb (k m:Nat):TK:=qaw 0 (seqK (evC qhq qcn (evF qhq (k+1)) m (sub [1,1,1,1] qcn.code) none) (retK qhq qcn))
abbrev qdu (k m:Nat):TB:=evC qhq qcn (evF qhq (k+1)) m (sub [1,1,1,0,2,3,1,2,1,0,1,2,3] qcn.code) none
abbrev qcs (k m:Nat)(n_l0:Nat):TK:=qaw 2 (seqK (evC qhq qcn (evF qhq (k+1)) m (sub [1,1,1,0,2,3,1,2,1,1] qcn.code) none) (qaw 1 (qetb (fun s=>qbj (some [1,5,6]) (qcr k m) (qcb k m) n_l0 (qmf (some [1,5,6]) s)) (qcb k m))))
abbrev qku (k m:Nat):TB:=evC qhq qcn (evF qhq (k+1)) m (sub [1,1,1,0,2,3,1,2,1,0,1,2,3,1,1,0,2,1,1,2,3] qcn.code) none
abbrev qkn (k m:Nat)(n_l0:Nat)(n_l1:Nat):TK:=qaw 4 (qaw 3 (seqK (evC qhq qcn (evF qhq (k+1)) m (sub [1,1,1,0,2,3,1,2,1,0,1,2,3,1,1,1] qcn.code) none) (qetb (fun s=>qbj (some [1,5,7,17,18,19]) (qdu k m) (qcs k m n_l0) n_l1 (qmf (some [1,5,7,17,18,19]) s)) (qcs k m n_l0))))
theorem qit (k m:Nat)(b_l0:Cell→Cell→Cell→List Entry→Option Res)(n_l0:Nat)(h_l0:∀ (c2 c3 c4:Cell) (H5:List Entry),qbj (some [1,5,6]) (qcr k m) (qcb k m) n_l0 ⟨fT 48 0 [(1,.av (.one (.fn qdb [c2] []))),(5,.av (.one (c3))),(6,.av (.one (c4)))],fX 48 0 [],H5⟩=b_l0 c2 c3 c4 H5)(b_l1:Cell→Cell→Cell→Cell→Int→Int→List Entry→Option Res)(n_l1:Nat)(h_l1:∀ (c8 c9 c10 c11:Cell) (i12 i13:Int) (H14:List Entry),qbj (some [1,5,7,17,18,19]) (qdu k m) (qcs k m n_l0) n_l1 ⟨fT 48 0 [(1,.av (.one (.fn qdb [c8] []))),(5,.av (.one (c9))),(7,.av (.one (c10))),(17,.av (.one (c11))),(18,.av (.one (Cell.int i12))),(19,.av (.one (Cell.int i13)))],fX 48 0 [],H14⟩=b_l1 c8 c9 c10 c11 i12 i13 H14):∀ (n:Nat) (c21 c22 c23 c24:Cell) (i25 i26:Int) (c27:Cell) (i28 i29:Int) (H30:List Entry),qbj (some [1,5,7,17,18,19,25,26,27]) (qku k m) (qkn k m n_l0 n_l1) n ⟨fT 48 0 [(1,.av (.one (.fn qdb [c21] []))),(5,.av (.one (c22))),(7,.av (.one (c23))),(17,.av (.one (c24))),(18,.av (.one (Cell.int i25))),(19,.av (.one (Cell.int i26))),(25,.av (.one (c27))),(26,.av (.one (Cell.int i28))),(27,.av (.one (Cell.int i29)))],fX 48 0 [],H30⟩=qbm (k+1) m b_l0 b_l1 n c21 c22 c23 c24 i25 i26 c27 i28 i29 H30:=by
 intro n
 induction n with
 | zero=>intros;rfl
 | succ n ih=>intros;simp only[qbm,← h_l1,← ih];kernel_rfl
theorem qjv (k m:Nat)(b_l0:Cell→Cell→Cell→List Entry→Option Res)(n_l0:Nat)(h_l0:∀ (c2 c3 c4:Cell) (H5:List Entry),qbj (some [1,5,6]) (qcr k m) (qcb k m) n_l0 ⟨fT 48 0 [(1,.av (.one (.fn qdb [c2] []))),(5,.av (.one (c3))),(6,.av (.one (c4)))],fX 48 0 [],H5⟩=b_l0 c2 c3 c4 H5):∀ (n:Nat) (c8 c9 c10 c11:Cell) (i12 i13:Int) (H14:List Entry),qbj (some [1,5,7,17,18,19]) (qdu k m) (qcs k m n_l0) n ⟨fT 48 0 [(1,.av (.one (.fn qdb [c8] []))),(5,.av (.one (c9))),(7,.av (.one (c10))),(17,.av (.one (c11))),(18,.av (.one (Cell.int i12))),(19,.av (.one (Cell.int i13)))],fX 48 0 [],H14⟩=qbp (k+1) m b_l0 n c8 c9 c10 c11 i12 i13 H14:=by
 intro n
 induction n with
 | zero=>intros;rfl
 | succ n ih=>intros;simp only[qbp,← qit k m _ _ h_l0 _ _ (ih),← h_l0];kernel_rfl
theorem qjw (k m:Nat):∀ (n:Nat) (c2 c3 c4:Cell) (H5:List Entry),qbj (some [1,5,6]) (qcr k m) (qcb k m) n ⟨fT 48 0 [(1,.av (.one (.fn qdb [c2] []))),(5,.av (.one (c3))),(6,.av (.one (c4)))],fX 48 0 [],H5⟩=qbd (k+1) m n c2 c3 c4 H5:=by
 intro n
 induction n with
 | zero=>intros;rfl
 | succ n ih=>intros;simp only[qbd,← qjv k m _ _ (ih)];kernel_rfl
theorem qki (k m:Nat)(s1:ByteArray)(q2:Cell)(H:List Entry):evC qhq qcn (evF qhq (k+1)) m qcn.code none (retK qhq qcn) (enter qcn [.one (Cell.str s1),.one (.fn qdb [q2] [])] H)=qey (k+1) m s1 q2 H:=by
 simp only[qey,← qjw k m]
 kernel_rfl
theorem qip {s1:ByteArray}{q2:Cell}{H:List Entry}{r:Res}(k:Nat)(h:qey (k+1) (k+1) s1 q2 H=some r):qgs [.one (Cell.str s1),.one (.fn qdb [q2] [])] H=some r:=qap (k:=k+2) (Eq.trans (Eq.trans (by kernel_rfl) (qki k (k+1) s1 q2 H)) h)
def qbn (k m:Nat)(b_l0:Cell→Cell→Cell→List Entry→Option Res)(b_l1:Cell→Cell→Cell→Cell→Int→Int→List Entry→Option Res):Nat→Cell→Cell→Cell→Cell→Int→Int→Cell→Int→Int→List Entry→Option Res | 0,_,_,_,_,_,_,_,_,_,_=>none | n+1,c21,c22,c23,c24,i25,i26,c27,i28,i29,H30=>cond (decide (i29 < i28)) ((idxA 1 (c27) i29).bind fun c31=>(deref H30 (c31)).bind fun p32=>(cS p32.1 p32.2).bind fun s33=>(qbc qch [.one (c22),.one (Cell.str s33)] H30).bind fun r34=>cond (qab qta r34) ((cB (qaa r34 0) 0).bind fun b35=>cond (!b35) ((app H30 1 16 (c22) [[Cell.str s33]]).bind fun p36=>(app p36.2 1 16 (c23) [[Cell.str s33]]).bind fun p37=>qbn k m b_l0 b_l1 n (c21) (p36.1) (p37.1) (c24) i25 i26 (c27) i28 (IntKind.i64.wrap (i29+1)) p37.2) (qbn k m b_l0 b_l1 n (c21) (c22) (c23) (c24) i25 i26 (c27) i28 (IntKind.i64.wrap (i29+1)) H30)) none) (b_l1 (c21) (c22) (c23) (c24) i25 (IntKind.i64.wrap (i26+1)) H30)
def qbo (k m:Nat)(b_l0:Cell→Cell→Cell→List Entry→Option Res):Nat→Cell→Cell→Cell→Cell→Int→Int→List Entry→Option Res | 0,_,_,_,_,_,_,_=>none | n+1,c8,c9,c10,c11,i12,i13,H14=>cond (decide (i13 < i12)) ((idxA 1 (c11) i13).bind fun c15=>(deref H14 (c15)).bind fun p16=>(cS p16.1 p16.2).bind fun s17=>(qkf [.one (c8),.one (Cell.str s17)] H14).bind fun r18=>cond (qab qjzc r18.1) ((cC (qaa r18.1 0) 0).bind fun c19=>(lenC c19).bind fun n20=>qbn k m b_l0 (qbo k m b_l0 n) m (c8) (c9) (c10) (c11) i12 i13 (c19) (n20:Int) 0 r18.2) none) (b_l0 (c8) (c9) (c10) H14)
def qbe (k m:Nat):Nat→Cell→Cell→Cell→List Entry→Option Res | 0,_,_,_,_=>none | n+1,c2,c3,c4,H5=>(lenC c4).bind fun n6=>cond (decide ((n6:Int) > 0)) ((lenC c4).bind fun n7=>qbo k m (qbe k m n) m (c2) (c3) (.lst true 1 []) (c4) (n7:Int) 0 H5) ((qfd qll [.one (c3)] H5).bind fun r38=>cond (qab qttb r38.1) ((cC (qaa r38.1 0) 0).bind fun c39=>some ([.one (c39)],r38.2)) none)
def qew (k m:Nat)(s1:ByteArray)(q2:Cell)(H:List Entry):Option Res:=qbe k m m (q2) (.lst true 1 []) (.lst true 1 [[Cell.str s1]]) H
abbrev qcq (k m:Nat):TB:=evC qhq qcn (evF qhq (k+1)) m (sub [1,1,1,0,2,3] qcn.code) none
abbrev qcc (k m:Nat):TK:=qaw 0 (seqK (evC qhq qcn (evF qhq (k+1)) m (sub [1,1,1,1] qcn.code) none) (retK qhq qcn))
abbrev qdr (k m:Nat):TB:=evC qhq qcn (evF qhq (k+1)) m (sub [1,1,1,0,2,3,1,2,1,0,1,2,3] qcn.code) none
abbrev qct (k m:Nat)(n_l0:Nat):TK:=qaw 2 (seqK (evC qhq qcn (evF qhq (k+1)) m (sub [1,1,1,0,2,3,1,2,1,1] qcn.code) none) (qaw 1 (qetb (fun s=>qbj (some [1,5,6]) (qcq k m) (qcc k m) n_l0 (qmf (some [1,5,6]) s)) (qcc k m))))
abbrev qkp (k m:Nat):TB:=evC qhq qcn (evF qhq (k+1)) m (sub [1,1,1,0,2,3,1,2,1,0,1,2,3,1,1,0,2,1,1,2,3] qcn.code) none
abbrev qkj (k m:Nat)(n_l0:Nat)(n_l1:Nat):TK:=qaw 4 (qaw 3 (seqK (evC qhq qcn (evF qhq (k+1)) m (sub [1,1,1,0,2,3,1,2,1,0,1,2,3,1,1,1] qcn.code) none) (qetb (fun s=>qbj (some [1,5,7,17,18,19]) (qdr k m) (qct k m n_l0) n_l1 (qmf (some [1,5,7,17,18,19]) s)) (qct k m n_l0))))
theorem qka (k m:Nat)(b_l0:Cell→Cell→Cell→List Entry→Option Res)(n_l0:Nat)(h_l0:∀ (c2 c3 c4:Cell) (H5:List Entry),qbj (some [1,5,6]) (qcq k m) (qcc k m) n_l0 ⟨fT 48 0 [(1,.av (.one (.fn qej [c2] []))),(5,.av (.one (c3))),(6,.av (.one (c4)))],fX 48 0 [],H5⟩=b_l0 c2 c3 c4 H5)(b_l1:Cell→Cell→Cell→Cell→Int→Int→List Entry→Option Res)(n_l1:Nat)(h_l1:∀ (c8 c9 c10 c11:Cell) (i12 i13:Int) (H14:List Entry),qbj (some [1,5,7,17,18,19]) (qdr k m) (qct k m n_l0) n_l1 ⟨fT 48 0 [(1,.av (.one (.fn qej [c8] []))),(5,.av (.one (c9))),(7,.av (.one (c10))),(17,.av (.one (c11))),(18,.av (.one (Cell.int i12))),(19,.av (.one (Cell.int i13)))],fX 48 0 [],H14⟩=b_l1 c8 c9 c10 c11 i12 i13 H14):∀ (n:Nat) (c21 c22 c23 c24:Cell) (i25 i26:Int) (c27:Cell) (i28 i29:Int) (H30:List Entry),qbj (some [1,5,7,17,18,19,25,26,27]) (qkp k m) (qkj k m n_l0 n_l1) n ⟨fT 48 0 [(1,.av (.one (.fn qej [c21] []))),(5,.av (.one (c22))),(7,.av (.one (c23))),(17,.av (.one (c24))),(18,.av (.one (Cell.int i25))),(19,.av (.one (Cell.int i26))),(25,.av (.one (c27))),(26,.av (.one (Cell.int i28))),(27,.av (.one (Cell.int i29)))],fX 48 0 [],H30⟩=qbn (k+1) m b_l0 b_l1 n c21 c22 c23 c24 i25 i26 c27 i28 i29 H30:=by
 intro n
 induction n with
 | zero=>intros;rfl
 | succ n ih=>intros;simp only[qbn,← h_l1,← ih];kernel_rfl
theorem qjr (k m:Nat)(b_l0:Cell→Cell→Cell→List Entry→Option Res)(n_l0:Nat)(h_l0:∀ (c2 c3 c4:Cell) (H5:List Entry),qbj (some [1,5,6]) (qcq k m) (qcc k m) n_l0 ⟨fT 48 0 [(1,.av (.one (.fn qej [c2] []))),(5,.av (.one (c3))),(6,.av (.one (c4)))],fX 48 0 [],H5⟩=b_l0 c2 c3 c4 H5):∀ (n:Nat) (c8 c9 c10 c11:Cell) (i12 i13:Int) (H14:List Entry),qbj (some [1,5,7,17,18,19]) (qdr k m) (qct k m n_l0) n ⟨fT 48 0 [(1,.av (.one (.fn qej [c8] []))),(5,.av (.one (c9))),(7,.av (.one (c10))),(17,.av (.one (c11))),(18,.av (.one (Cell.int i12))),(19,.av (.one (Cell.int i13)))],fX 48 0 [],H14⟩=qbo (k+1) m b_l0 n c8 c9 c10 c11 i12 i13 H14:=by
 intro n
 induction n with
 | zero=>intros;rfl
 | succ n ih=>intros;simp only[qbo,← qka k m _ _ h_l0 _ _ (ih),← h_l0];kernel_rfl
theorem qjq (k m:Nat):∀ (n:Nat) (c2 c3 c4:Cell) (H5:List Entry),qbj (some [1,5,6]) (qcq k m) (qcc k m) n ⟨fT 48 0 [(1,.av (.one (.fn qej [c2] []))),(5,.av (.one (c3))),(6,.av (.one (c4)))],fX 48 0 [],H5⟩=qbe (k+1) m n c2 c3 c4 H5:=by
 intro n
 induction n with
 | zero=>intros;rfl
 | succ n ih=>intros;simp only[qbe,← qjr k m _ _ (ih)];kernel_rfl
theorem qkl (k m:Nat)(s1:ByteArray)(q2:Cell)(H:List Entry):evC qhq qcn (evF qhq (k+1)) m qcn.code none (retK qhq qcn) (enter qcn [.one (Cell.str s1),.one (.fn qej [q2] [])] H)=qew (k+1) m s1 q2 H:=by
 simp only[qew,← qjq k m]
 kernel_rfl
theorem qik {s1:ByteArray}{q2:Cell}{H:List Entry}{r:Res}(k:Nat)(h:qew (k+1) (k+1) s1 q2 H=some r):qgs [.one (Cell.str s1),.one (.fn qej [q2] [])] H=some r:=qap (k:=k+2) (Eq.trans (Eq.trans (by kernel_rfl) (qkl k (k+1) s1 q2 H)) h)
def qxqc:List (Nat×Run):=[(qdb,qev),(qju,qch)]
def qvbb:Ctx:=ctx qbi qbh qxqc
def qrs:Run:=lim qvbb qdtb
theorem ok_faz:FnOk Tryz.prog OkT qdtb qrs:=qao (l:=qxqc) qac tyTab_ok qad okT (.cons qkzb (.cons qkkb .nil)) qdtb
def qwe (k m:Nat):Nat→Cell→ByteArray→Cell→Cell→Int→Int→List Entry→Option Res | 0,_,_,_,_,_,_,_=>none | n+1,c8,s9,c10,c11,i12,i13,H14=>cond (decide (i13 < i12)) ((idxA 1 (c11) i13).bind fun c15=>(deref H14 (c15)).bind fun p16=>(cS p16.1 p16.2).bind fun s17=>(qev [.one (c8),.one (Cell.str s17)] H14).bind fun r18=>cond (qab qrsb r18.1) ((cC (qaa r18.1 0) 0).bind fun c19=>(qbc qch [.one (c19),.one (Cell.str s9)] r18.2).bind fun r20=>cond (qab qta r20) ((cB (qaa r20 0) 0).bind fun b21=>cond b21 ((app r18.2 1 16 (c10) [[Cell.str s17]]).bind fun p22=>qwe k m n (c8) s9 (p22.1) (c11) i12 (IntKind.i64.wrap (i13+1)) p22.2) (qwe k m n (c8) s9 (c10) (c11) i12 (IntKind.i64.wrap (i13+1)) r18.2)) none) none) (some ([.one (c10)],H14))
def faz (k m:Nat)(c1:Cell)(s2:ByteArray)(H:List Entry):Option Res:=(ptrC c1).bind fun c3=>(fldA c3 0).bind fun c4=>(deref H (c4)).bind fun p5=>(cC p5.1 p5.2).bind fun c6=>(lenC c6).bind fun n7=>qwe k m m (c1) s2 (.lst true 1 []) (c6) (n7:Int) 0 H
abbrev qqdc (k m:Nat):TB:=evC qvbb qpa (evF qvbb (k+1)) m (sub [1,1,0,1,2,3] qpa.code) none
abbrev qhoc (k m:Nat):TK:=qaw 0 (seqK (evC qvbb qpa (evF qvbb (k+1)) m (sub [1,1,1] qpa.code) none) (retK qvbb qpa))
theorem qxlb (k m:Nat):∀ (n:Nat) (c8:Cell) (s9:ByteArray) (c10 c11:Cell) (i12 i13:Int) (H14:List Entry),qbj (some [0,1,5,11,12,13]) (qqdc k m) (qhoc k m) n ⟨fT 28 0 [(0,.av (.one (c8))),(1,.av (.one (Cell.str s9))),(5,.av (.one (c10))),(11,.av (.one (c11))),(12,.av (.one (Cell.int i12))),(13,.av (.one (Cell.int i13)))],fX 28 0 [],H14⟩=qwe (k+1) m n c8 s9 c10 c11 i12 i13 H14:=by
 intro n
 induction n with
 | zero=>intros;rfl
 | succ n ih=>intros;simp only[qwe,← ih];kernel_rfl
theorem qlxc (k m:Nat)(c1:Cell)(s2:ByteArray)(H:List Entry):evC qvbb qpa (evF qvbb (k+1)) m qpa.code none (retK qvbb qpa) (enter qpa [.one (c1),.one (Cell.str s2)] H)=faz (k+1) m c1 s2 H:=by
 simp only[faz,← qxlb k m]
 kernel_rfl
theorem qmbb {c1:Cell}{s2:ByteArray}{H:List Entry}{r:Res}(k:Nat)(h:faz (k+1) (k+1) c1 s2 H=some r):qrs [.one (c1),.one (Cell.str s2)] H=some r:=qap (k:=k+2) (Eq.trans (Eq.trans (by kernel_rfl) (qlxc k (k+1) c1 s2 H)) h)
def qvfc:List (Nat×Run):=[(qdb,qev),(qdtb,qrs)]
def qkt:Ctx:=ctx qbi qbh qvfc
def qxs:Run:=lim qkt qevb
theorem ok_fbg:FnOk Tryz.prog OkT qevb qxs:=qao (l:=qvfc) qac tyTab_ok qad okT (.cons qkzb (.cons ok_faz .nil)) qevb
def qbqb (k m:Nat)(b_l3:Cell→ByteArray→Cell→Cell→List Entry→Option Res):Nat→Cell→ByteArray→Cell→Cell→Cell→Int→Int→List Entry→Option Res | 0,_,_,_,_,_,_,_,_=>none | n+1,c64,s65,c66,c67,c68,i69,i70,H71=>cond (decide (i70 < i69)) ((idxA 1 (c68) i70).bind fun c72=>(deref H71 (c72)).bind fun p73=>(cS p73.1 p73.2).bind fun s74=>(qlb H71 (c66) s74).bind fun i75=>cond (decide (i75 > 0)) ((qlb H71 (c66) s74).bind fun i76=>(qlb H71 (c66) s65).bind fun i77=>cond (i76==(IntKind.i64.wrap (i77 - 1))) ((qah (H71++[Entry.mk 1 [[Cell.str s74]] 0 false]) 1 (.vs H71.length 1 0 1 0)).bind fun r78=>(app (H71++[Entry.mk 1 [[Cell.str s74]] 0 false]) 1 16 (c67) r78).bind fun p79=>b_l3 (c64) s74 (c66) (p79.1) p79.2) (qbqb k m b_l3 n (c64) s65 (c66) (c67) (c68) i69 (IntKind.i64.wrap (i70+1)) H71)) (qbqb k m b_l3 n (c64) s65 (c66) (c67) (c68) i69 (IntKind.i64.wrap (i70+1)) H71)) ((qah (H71++[Entry.mk 1 [[Cell.str s65]] 0 false]) 1 (.vs H71.length 1 0 1 0)).bind fun r80=>(app (H71++[Entry.mk 1 [[Cell.str s65]] 0 false]) 1 16 (c67) r80).bind fun p81=>b_l3 (c64) s65 (c66) (p81.1) p81.2)
def qwu (k m:Nat):Nat→Cell→ByteArray→Cell→Cell→List Entry→Option Res | 0,_,_,_,_,_=>none | n+1,c55,s56,c57,c58,H59=>(qlb H59 (c57) s56).bind fun i60=>cond (decide (i60 > 1)) ((qev [.one (c55),.one (Cell.str s56)] H59).bind fun r61=>cond (qab qrsb r61.1) ((cC (qaa r61.1 0) 0).bind fun c62=>(lenC c62).bind fun n63=>qbqb k m (qwu k m n) m (c55) s56 (c57) (c58) (c62) (n63:Int) 0 r61.2) none) (some ([.one (c58)],H59))
def qzp (k m:Nat)(b_l1:Cell→ByteArray→Cell→Cell→Int→List Entry→Option Res):Nat→Cell→ByteArray→Cell→Cell→Int→Cell→Int→Int→List Entry→Option Res | 0,_,_,_,_,_,_,_,_,_=>none | n+1,c35,s36,c37,c38,i39,c40,i41,i42,H43=>cond (decide (i42 < i41)) ((idxA 1 (c40) i42).bind fun c44=>(deref H43 (c44)).bind fun p45=>(cS p45.1 p45.2).bind fun s46=>(qlb H43 (c37) s46).bind fun i47=>cond (i47==0) ((idxA 1 (c38) i39).bind fun c48=>(deref H43 (c48)).bind fun p49=>(cS p49.1 p49.2).bind fun s50=>(qlb H43 (c37) s50).bind fun i51=>(qls H43 (c37) s46 (IntKind.i64.wrap (i51+1))).bind fun h52=>(qah (h52++[Entry.mk 1 [[Cell.str s46]] 0 false]) 1 (.vs h52.length 1 0 1 0)).bind fun r53=>(app (h52++[Entry.mk 1 [[Cell.str s46]] 0 false]) 1 16 (c38) r53).bind fun p54=>qzp k m b_l1 n (c35) s36 (c37) (p54.1) i39 (c40) i41 (IntKind.i64.wrap (i42+1)) p54.2) (qzp k m b_l1 n (c35) s36 (c37) (c38) i39 (c40) i41 (IntKind.i64.wrap (i42+1)) H43)) (b_l1 (c35) s36 (c37) (c38) (IntKind.i64.wrap (i39+1)) H43)
def qtq (k m:Nat):Nat→Cell→ByteArray→Cell→Cell→Int→List Entry→Option Res | 0,_,_,_,_,_,_=>none | n+1,c22,s23,c24,c25,i26,H27=>(lenC c25).bind fun n28=>cond (decide (i26 < (n28:Int))) ((idxA 1 (c25) i26).bind fun c29=>(deref H27 (c29)).bind fun p30=>(cS p30.1 p30.2).bind fun s31=>(qrs [.one (c22),.one (Cell.str s31)] H27).bind fun r32=>cond (qab qgvc r32.1) ((cC (qaa r32.1 0) 0).bind fun c33=>(lenC c33).bind fun n34=>qzp k m (qtq k m n) m (c22) s23 (c24) (c25) i26 (c33) (n34:Int) 0 r32.2) none) (qwu k m m (c22) s23 (c24) ((.vs H27.length 1 0 1 0)) (H27++[Entry.mk 1 [[Cell.str s23]] 0 false]))
def qze (k m:Nat):Nat→Cell→ByteArray→Cell→Cell→Cell→Int→Int→List Entry→Option Res | 0,_,_,_,_,_,_,_,_=>none | n+1,c7,s8,c9,c10,c11,i12,i13,H14=>cond (decide (i13 < i12)) ((idxA 1 (c11) i13).bind fun c15=>(deref H14 (c15)).bind fun p16=>(cS p16.1 p16.2).bind fun s17=>(qlb H14 (c9) s17).bind fun i18=>cond (i18==0) ((qls H14 (c9) s17 (1:Int)).bind fun h19=>(qah (h19++[Entry.mk 1 [[Cell.str s17]] 0 false]) 1 (.vs h19.length 1 0 1 0)).bind fun r20=>(app (h19++[Entry.mk 1 [[Cell.str s17]] 0 false]) 1 16 (c10) r20).bind fun p21=>qze k m n (c7) s8 (c9) (p21.1) (c11) i12 (IntKind.i64.wrap (i13+1)) p21.2) (qze k m n (c7) s8 (c9) (c10) (c11) i12 (IntKind.i64.wrap (i13+1)) H14)) (qtq k m m (c7) s8 (c9) (c10) 0 H14)
def fbg (k m:Nat)(c1:Cell)(s2 s3:ByteArray)(H:List Entry):Option Res:=(qrs [.one (c1),.one (Cell.str s3)] ((H++[Entry.mk 2 [] 0 false])++[Entry.mk 1 [] 0 false])).bind fun r4=>cond (qab qgvc r4.1) ((cC (qaa r4.1 0) 0).bind fun c5=>(lenC c5).bind fun n6=>qze k m m (c1) s2 (.mp H.length 0) ((.vs ((H++[Entry.mk 2 [] 0 false]).length) 1 0 0 0)) (c5) (n6:Int) 0 r4.2) none
abbrev qroc (k m:Nat):TB:=evC qkt qdi (evF qkt (k+1)) m (sub [1,1,1,0,1,2,3] qdi.code) none
abbrev qqrc (k m:Nat):TK:=qaw 0 (seqK (evC qkt qdi (evF qkt (k+1)) m (sub [1,1,1,1] qdi.code) none) (retK qkt qdi))
abbrev qblb (k m:Nat):TB:=evC qkt qdi (evF qkt (k+1)) m (sub [1,1,1,1,0,1,2,3] qdi.code) none
abbrev qto (k m:Nat):TK:=qaw 2 (seqK (evC qkt qdi (evF qkt (k+1)) m (sub [1,1,1,1,1] qdi.code) none) (retK qkt qdi))
abbrev qrwc (k m:Nat):TB:=evC qkt qdi (evF qkt (k+1)) m (sub [1,1,1,1,0,1,2,3,1,0,2,1,2,3] qdi.code) none
abbrev qnkc (k m:Nat)(n_l1:Nat):TK:=qaw 4 (qaw 3 (seqK (evC qkt qdi (evF qkt (k+1)) m (sub [1,1,1,1,0,1,2,3,1,1] qdi.code) none) (qetb (fun s=>qbj (some [0,1,7,8,11]) (qblb k m) (qto k m) n_l1 (qmf (some [0,1,7,8,11]) s)) (qto k m))))
abbrev qatb (k m:Nat):TB:=evC qkt qdi (evF qkt (k+1)) m (sub [1,1,1,1,1,1,0,2,3] qdi.code) none
abbrev qsr (k m:Nat):TK:=qaw 6 (seqK (evC qkt qdi (evF qkt (k+1)) m (sub [1,1,1,1,1,1,1] qdi.code) none) (retK qkt qdi))
abbrev qpdc (k m:Nat):TB:=evC qkt qdi (evF qkt (k+1)) m (sub [1,1,1,1,1,1,0,2,3,1,2,0,1,2,3] qdi.code) none
abbrev qkxc (k m:Nat)(n_l3:Nat):TK:=qaw 8 (seqK (evC qkt qdi (evF qkt (k+1)) m (sub [1,1,1,1,1,1,0,2,3,1,2,1] qdi.code) none) (qaw 7 (qetb (fun s=>qbj (some [0,1,7,14]) (qatb k m) (qsr k m) n_l3 (qmf (some [0,1,7,14]) s)) (qsr k m))))
theorem qwub (k m:Nat)(b_l3:Cell→ByteArray→Cell→Cell→List Entry→Option Res)(n_l3:Nat)(h_l3:∀ (c55:Cell) (s56:ByteArray) (c57 c58:Cell) (H59:List Entry),qbj (some [0,1,7,14]) (qatb k m) (qsr k m) n_l3 ⟨fT 108 0 [(0,.av (.one (c55))),(1,.av (.one (Cell.str s56))),(7,.av (.one (c57))),(14,.av (.one (c58)))],fX 108 0 [],H59⟩=b_l3 c55 s56 c57 c58 H59):∀ (n:Nat) (c64:Cell) (s65:ByteArray) (c66 c67 c68:Cell) (i69 i70:Int) (H71:List Entry),qbj (some [0,1,7,14,81,82,83]) (qpdc k m) (qkxc k m n_l3) n ⟨fT 108 0 [(0,.av (.one (c64))),(1,.av (.one (Cell.str s65))),(7,.av (.one (c66))),(14,.av (.one (c67))),(81,.av (.one (c68))),(82,.av (.one (Cell.int i69))),(83,.av (.one (Cell.int i70)))],fX 108 0 [],H71⟩=qbqb (k+1) m b_l3 n c64 s65 c66 c67 c68 i69 i70 H71:=by
 intro n
 induction n with
 | zero=>intros;rfl
 | succ n ih=>intros;simp only[qbqb,← h_l3,← ih];kernel_rfl
theorem qahc (k m:Nat):∀ (n:Nat) (c55:Cell) (s56:ByteArray) (c57 c58:Cell) (H59:List Entry),qbj (some [0,1,7,14]) (qatb k m) (qsr k m) n ⟨fT 108 0 [(0,.av (.one (c55))),(1,.av (.one (Cell.str s56))),(7,.av (.one (c57))),(14,.av (.one (c58)))],fX 108 0 [],H59⟩=qwu (k+1) m n c55 s56 c57 c58 H59:=by
 intro n
 induction n with
 | zero=>intros;rfl
 | succ n ih=>intros;simp only[qwu,← qwub k m _ _ (ih)];kernel_rfl
theorem qzzb (k m:Nat)(b_l1:Cell→ByteArray→Cell→Cell→Int→List Entry→Option Res)(n_l1:Nat)(h_l1:∀ (c22:Cell) (s23:ByteArray) (c24 c25:Cell) (i26:Int) (H27:List Entry),qbj (some [0,1,7,8,11]) (qblb k m) (qto k m) n_l1 ⟨fT 108 0 [(0,.av (.one (c22))),(1,.av (.one (Cell.str s23))),(7,.av (.one (c24))),(8,.av (.one (c25))),(11,.av (.one (Cell.int i26)))],fX 108 0 [],H27⟩=b_l1 c22 s23 c24 c25 i26 H27):∀ (n:Nat) (c35:Cell) (s36:ByteArray) (c37 c38:Cell) (i39:Int) (c40:Cell) (i41 i42:Int) (H43:List Entry),qbj (some [0,1,7,8,11,49,50,51]) (qrwc k m) (qnkc k m n_l1) n ⟨fT 108 0 [(0,.av (.one (c35))),(1,.av (.one (Cell.str s36))),(7,.av (.one (c37))),(8,.av (.one (c38))),(11,.av (.one (Cell.int i39))),(49,.av (.one (c40))),(50,.av (.one (Cell.int i41))),(51,.av (.one (Cell.int i42)))],fX 108 0 [],H43⟩=qzp (k+1) m b_l1 n c35 s36 c37 c38 i39 c40 i41 i42 H43:=by
 intro n
 induction n with
 | zero=>intros;rfl
 | succ n ih=>intros;simp only[qzp,← h_l1,← ih];kernel_rfl
theorem qtbb (k m:Nat):∀ (n:Nat) (c22:Cell) (s23:ByteArray) (c24 c25:Cell) (i26:Int) (H27:List Entry),qbj (some [0,1,7,8,11]) (qblb k m) (qto k m) n ⟨fT 108 0 [(0,.av (.one (c22))),(1,.av (.one (Cell.str s23))),(7,.av (.one (c24))),(8,.av (.one (c25))),(11,.av (.one (Cell.int i26)))],fX 108 0 [],H27⟩=qtq (k+1) m n c22 s23 c24 c25 i26 H27:=by
 intro n
 induction n with
 | zero=>intros;rfl
 | succ n ih=>intros;simp only[qtq,← qzzb k m _ _ (ih),← qahc k m];kernel_rfl
theorem qunb (k m:Nat):∀ (n:Nat) (c7:Cell) (s8:ByteArray) (c9 c10 c11:Cell) (i12 i13:Int) (H14:List Entry),qbj (some [0,1,7,8,21,22,23]) (qroc k m) (qqrc k m) n ⟨fT 108 0 [(0,.av (.one (c7))),(1,.av (.one (Cell.str s8))),(7,.av (.one (c9))),(8,.av (.one (c10))),(21,.av (.one (c11))),(22,.av (.one (Cell.int i12))),(23,.av (.one (Cell.int i13)))],fX 108 0 [],H14⟩=qze (k+1) m n c7 s8 c9 c10 c11 i12 i13 H14:=by
 intro n
 induction n with
 | zero=>intros;rfl
 | succ n ih=>intros;simp only[qze,← qtbb k m,← ih];kernel_rfl
theorem qmic (k m:Nat)(c1:Cell)(s2 s3:ByteArray)(H:List Entry):evC qkt qdi (evF qkt (k+1)) m qdi.code none (retK qkt qdi) (enter qdi [.one (c1),.one (Cell.str s2),.one (Cell.str s3)] H)=fbg (k+1) m c1 s2 s3 H:=by
 simp only[fbg,← qunb k m]
 kernel_rfl
theorem qmkb {c1:Cell}{s2 s3:ByteArray}{H:List Entry}{r:Res}(k:Nat)(h:fbg (k+1) (k+1) c1 s2 s3 H=some r):qxs [.one (c1),.one (Cell.str s2),.one (Cell.str s3)] H=some r:=qap (k:=k+2) (Eq.trans (Eq.trans (by kernel_rfl) (qmic k (k+1) c1 s2 s3 H)) h)
def qxnc:List (Nat×Run):=[(qra,qgs),(qdb,qev),(qju,qch),(qevb,qxs)]
def qdac:Ctx:=ctx qbi qbh qxnc
def quz:Run:=lim qdac qenb
theorem ok_fbf:FnOk Tryz.prog OkT qenb quz:=qao (l:=qxnc) qac tyTab_ok qad okT (.cons qgac (.cons qkzb (.cons qkkb (.cons ok_fbg .nil)))) qenb
def qasb (k m:Nat):Nat→Cell→Cell→Int→Int→List Entry→Option Res | 0,_,_,_,_,_=>none | n+1,c7,c8,i9,i10,H11=>cond (decide (i10 < i9)) ((idxA 1 (c8) i10).bind fun c12=>(deref H11 (c12)).bind fun p13=>(cS p13.1 p13.2).bind fun s14=>(qgs [.one (Cell.str s14),.one (.fn qdb [c7] [])] H11).bind fun r15=>cond (qab qcqc r15.1) ((cC (qaa r15.1 0) 0).bind fun c16=>(qbc qch [.one (c16),.one (Cell.str s14)] r15.2).bind fun r17=>cond (qab qta r17) ((cB (qaa r17 0) 0).bind fun b18=>cond b18 ((qxs [.one (c7),.one (Cell.str s14),.one (Cell.str s14)] r15.2).bind fun r19=>cond (qab qabd r19.1) ((cC (qaa r19.1 0) 0).bind fun c20=>some ([.one (c20)],r19.2)) none) (qasb k m n (c7) (c8) i9 (IntKind.i64.wrap (i10+1)) r15.2)) none) none) (some ([.one (.lst true 1 [])],H11))
def fbf (k m:Nat)(c1:Cell)(H:List Entry):Option Res:=(ptrC c1).bind fun c2=>(fldA c2 0).bind fun c3=>(deref H (c3)).bind fun p4=>(cC p4.1 p4.2).bind fun c5=>(lenC c5).bind fun n6=>qasb k m m (c1) (c5) (n6:Int) 0 H
abbrev qlyc (k m:Nat):TB:=evC qdac qmt (evF qdac (k+1)) m (sub [1,0,1,2,3] qmt.code) none
abbrev qmqc (k m:Nat):TK:=qaw 0 (seqK (evC qdac qmt (evF qdac (k+1)) m (sub [1,1] qmt.code) none) (retK qdac qmt))
theorem quqb (k m:Nat):∀ (n:Nat) (c7 c8:Cell) (i9 i10:Int) (H11:List Entry),qbj (some [0,8,9,10]) (qlyc k m) (qmqc k m) n ⟨fT 25 0 [(0,.av (.one (c7))),(8,.av (.one (c8))),(9,.av (.one (Cell.int i9))),(10,.av (.one (Cell.int i10)))],fX 25 0 [],H11⟩=qasb (k+1) m n c7 c8 i9 i10 H11:=by
 intro n
 induction n with
 | zero=>intros;rfl
 | succ n ih=>intros;simp only[qasb,← ih];kernel_rfl
theorem qgdc (k m:Nat)(c1:Cell)(H:List Entry):evC qdac qmt (evF qdac (k+1)) m qmt.code none (retK qdac qmt) (enter qmt [.one (c1)] H)=fbf (k+1) m c1 H:=by
 simp only[fbf,← quqb k m]
 kernel_rfl
theorem qmnb {c1:Cell}{H:List Entry}{r:Res}(k:Nat)(h:fbf (k+1) (k+1) c1 H=some r):quz [.one (c1)] H=some r:=qap (k:=k+2) (Eq.trans (Eq.trans (by kernel_rfl) (qgdc k (k+1) c1 H)) h)
def qyec:List (Nat×Run):=[(qlf,qfo),(qenb,quz)]
def qfpd:Ctx:=ctx qbi qbh qyec
def qyl:Run:=lim qfpd qfub
theorem ok_fan:FnOk Tryz.prog OkT qfub qyl:=qao (l:=qyec) qac tyTab_ok qad okT (.cons qptb (.cons ok_fbf .nil)) qfub
def fan (k m:Nat)(c1:Cell):Option Res:=(qfo [.one (c1)] []).bind fun r2=>cond (qab qkjb r2.1) ((cC (qaa r2.1 0) 0).bind fun c3=>(quz [.one (c3)] r2.2).bind fun r4=>cond (qab qzrc r4.1) ((cC (qaa r4.1 0) 0).bind fun c5=>some ([.one (c5)],r4.2)) none) none
theorem qocc (k m:Nat)(c1:Cell):evC qfpd qikb (evF qfpd (k+1)) m qikb.code none (retK qfpd qikb) (enter qikb [.one (c1)] [])=fan (k+1) m c1:=by
 kernel_rfl
theorem qmjb {c1:Cell}{r:Res}(k:Nat)(h:fan (k+1) (k+1) c1=some r):qyl [.one (c1)] []=some r:=qap (k:=k+2) (Eq.trans (Eq.trans (by kernel_rfl) (qocc k (k+1) c1)) h)
def qubc:List (Nat×Run):=[(qzj,qmw)]
def qdnd:Ctx:=ctx qbi qbh qubc
def qwj:Run:=lim qdnd qfnb
theorem ok_fcu:FnOk Tryz.prog OkT qfnb qwj:=qao (l:=qubc) qac tyTab_ok qad okT (.cons qadd .nil) qfnb
def fcu (k m:Nat)(c1:Cell):Option Res:=(callL qmw [.one (c1)] []).bind fun r2=>cond (qab qnhc r2.1) ((cC (qaa r2.1 0) 0).bind fun c3=>some ([.one (c3)],r2.2)) none
theorem qipc (k m:Nat)(c1:Cell):evC qdnd qlmb (evF qdnd (k+1)) m qlmb.code none (retK qdnd qlmb) (enter qlmb [.one (c1)] [])=fcu (k+1) m c1:=by
 kernel_rfl
theorem qsmb {c1:Cell}{r:Res}(k:Nat)(h:fcu (k+1) (k+1) c1=some r):qwj [.one (c1)] []=some r:=qap (k:=k+2) (Eq.trans (Eq.trans (by kernel_rfl) (qipc k (k+1) c1)) h)
def qcfd:List (Nat×Run):=[(qdb,qev),(qju,qch)]
def qbac:Ctx:=ctx qbi qbh qcfd
def qzv:Run:=lim qbac qdkb
theorem ok_fbb:FnOk Tryz.prog OkT qdkb qzv:=qao (l:=qcfd) qac tyTab_ok qad okT (.cons qkzb (.cons qkkb .nil)) qdkb
def qwr (k m:Nat):Nat→Cell→Cell→Cell→Int→Int→List Entry→Option Res | 0,_,_,_,_,_,_=>none | n+1,c7,c8,c9,i10,i11,H12=>cond (decide (i11 < i10)) ((idxA 1 (c9) i11).bind fun c13=>(deref H12 (c13)).bind fun p14=>(cS p14.1 p14.2).bind fun s15=>(ptrC c7).bind fun c16=>(fldA c16 0).bind fun c17=>(deref H12 (c17)).bind fun p18=>(cC p18.1 p18.2).bind fun c19=>(qbc qch [.one (c19),.one (Cell.str s15)] H12).bind fun r20=>cond (qab qta r20) ((cB (qaa r20 0) 0).bind fun b21=>cond b21 ((qbc qch [.one (c8),.one (Cell.str s15)] H12).bind fun r22=>cond (qab qta r22) ((cB (qaa r22 0) 0).bind fun b23=>cond (!b23) (some ([.one (Cell.bool false)],H12)) (qwr k m n (c7) (c8) (c9) i10 (IntKind.i64.wrap (i11+1)) H12)) none) (qwr k m n (c7) (c8) (c9) i10 (IntKind.i64.wrap (i11+1)) H12)) none) (some ([.one (Cell.bool true)],H12))
def fbb (k m:Nat)(c1:Cell)(s2:ByteArray)(c3:Cell)(H:List Entry):Option Res:=(qev [.one (c1),.one (Cell.str s2)] H).bind fun r4=>cond (qab qrsb r4.1) ((cC (qaa r4.1 0) 0).bind fun c5=>(lenC c5).bind fun n6=>qwr k m m (c1) (c3) (c5) (n6:Int) 0 r4.2) none
abbrev qgzc (k m:Nat):TB:=evC qbac qps (evF qbac (k+1)) m (sub [1,0,1,2,3] qps.code) none
abbrev qhwc (k m:Nat):TK:=qaw 0 (seqK (evC qbac qps (evF qbac (k+1)) m (sub [1,1] qps.code) none) (retK qbac qps))
theorem qztb (k m:Nat):∀ (n:Nat) (c7 c8 c9:Cell) (i10 i11:Int) (H12:List Entry),qbj (some [0,2,11,12,13]) (qgzc k m) (qhwc k m) n ⟨fT 30 0 [(0,.av (.one (c7))),(2,.av (.one (c8))),(11,.av (.one (c9))),(12,.av (.one (Cell.int i10))),(13,.av (.one (Cell.int i11)))],fX 30 0 [],H12⟩=qwr (k+1) m n c7 c8 c9 i10 i11 H12:=by
 intro n
 induction n with
 | zero=>intros;rfl
 | succ n ih=>intros;simp only[qwr,← ih];kernel_rfl
theorem qpzc (k m:Nat)(c1:Cell)(s2:ByteArray)(c3:Cell)(H:List Entry):evC qbac qps (evF qbac (k+1)) m qps.code none (retK qbac qps) (enter qps [.one (c1),.one (Cell.str s2),.one (c3)] H)=fbb (k+1) m c1 s2 c3 H:=by
 simp only[fbb,← qztb k m]
 kernel_rfl
theorem qozb {c1:Cell}{s2:ByteArray}{c3:Cell}{H:List Entry}{r:Res}(k:Nat)(h:fbb (k+1) (k+1) c1 s2 c3 H=some r):qzv [.one (c1),.one (Cell.str s2),.one (c3)] H=some r:=qap (k:=k+2) (Eq.trans (Eq.trans (by kernel_rfl) (qpzc k (k+1) c1 s2 c3 H)) h)
def quoc:List (Nat×Run):=[(qju,qch),(qdkb,qzv)]
def qfhd:Ctx:=ctx qbi qbh quoc
def qsd:Run:=lim qfhd qji
theorem qupc:FnOk Tryz.prog OkT qji qsd:=qao (l:=quoc) qac tyTab_ok qad okT (.cons qkkb (.cons ok_fbb .nil)) qji
def fbe (k m:Nat)(s1:ByteArray)(c2 c3:Cell)(H:List Entry):Option Res:=(deref H (c2)).bind fun p4=>(cC p4.1 p4.2).bind fun c5=>(qbc qch [.one (c5),.one (Cell.str s1)] H).bind fun r6=>cond (qab qta r6) ((cB (qaa r6 0) 0).bind fun b7=>cond (!b7) ((deref H (c3)).bind fun p8=>(cC p8.1 p8.2).bind fun c9=>(deref H (c2)).bind fun p10=>(cC p10.1 p10.2).bind fun c11=>(qzv [.one (c9),.one (Cell.str s1),.one (c11)] H).bind fun r12=>cond (qab qtcc r12.1) ((cB (qaa r12.1 0) 0).bind fun b13=>some ([.one (Cell.bool b13)],r12.2)) none) (some ([.one (Cell.bool false)],H))) none
theorem qmac (k m:Nat)(s1:ByteArray)(c2 c3:Cell)(H:List Entry):evC qfhd qlbb (evF qfhd (k+1)) m qlbb.code none (retK qfhd qlbb) (enter qlbb [.one (Cell.str s1),.one (c2),.one (c3)] H)=fbe (k+1) m s1 c2 c3 H:=by
 kernel_rfl
theorem qoeb {s1:ByteArray}{c2 c3:Cell}{H:List Entry}{r:Res}(k:Nat)(h:fbe (k+1) (k+1) s1 c2 c3 H=some r):qsd [.one (Cell.str s1),.one (c2),.one (c3)] H=some r:=qap (k:=k+2) (Eq.trans (Eq.trans (by kernel_rfl) (qmac k (k+1) s1 c2 c3 H)) h)
def qxzc:List (Nat×Run):=[(qji,qsd)]
def qvub:Ctx:=ctx qbi qbh qxzc
def qgmb:Run:=lim qvub qfxb
theorem ok_fcn:FnOk Tryz.prog OkT qfxb qgmb:=qao (l:=qxzc) qac tyTab_ok qad okT (.cons qupc .nil) qfxb
def qar (k m:Nat):Nat→Cell→Cell→Cell→Int→Int→List Entry→Option Res | 0,_,_,_,_,_,_=>none | n+1,c3,c4,c5,i6,i7,H8=>cond (decide (i7 < i6)) ((idxA 1 (c3) i7).bind fun c9=>(deref H8 (c9)).bind fun p10=>(cS p10.1 p10.2).bind fun s11=>(qsd [.one (Cell.str s11),.one (c4),.one (c5)] H8).bind fun r12=>cond (qab qbed r12.1) ((cB (qaa r12.1 0) 0).bind fun b13=>cond b13 (some ([.one (Cell.int i7)],r12.2)) (qar k m n (c3) (c4) (c5) i6 (IntKind.i64.wrap (i7+1)) r12.2)) none) (some ([.one (Cell.int (-1))],H8))
def qbg (k m:Nat)(c1 q2 q3:Cell)(H:List Entry):Option Res:=(lenC c1).bind fun n2=>qar k m m (c1) (q2) (q3) (n2:Int) 0 H
abbrev qdw (k m:Nat):TB:=evC qvub qnb (evF qvub (k+1)) m (sub [1,0,1,2,3] qnb.code) none
abbrev qdq (k m:Nat):TK:=qaw 0 (seqK (evC qvub qnb (evF qvub (k+1)) m (sub [1,1] qnb.code) none) (retK qvub qnb))
theorem qdl (k m:Nat):∀ (n:Nat) (c3 c4 c5:Cell) (i6 i7:Int) (H8:List Entry),qbj (some [0,1,7,8]) (qdw k m) (qdq k m) n ⟨fT 19 0 [(0,.av (.one (c3))),(1,.av (.one (.fn qji [] [c4,c5]))),(7,.av (.one (Cell.int i6))),(8,.av (.one (Cell.int i7)))],fX 19 0 [],H8⟩=qar (k+1) m n c3 c4 c5 i6 i7 H8:=by
 intro n
 induction n with
 | zero=>intros;rfl
 | succ n ih=>intros;simp only[qar,← ih];kernel_rfl
theorem qdt (k m:Nat)(c1 q2 q3:Cell)(H:List Entry):evC qvub qnb (evF qvub (k+1)) m qnb.code none (retK qvub qnb) (enter qnb [.one (c1),.one (.fn qji [] [q2,q3])] H)=qbg (k+1) m c1 q2 q3 H:=by
 simp only[qbg,← qdl k m]
 kernel_rfl
theorem qde {c1 q2 q3:Cell}{H:List Entry}{r:Res}(k:Nat)(h:qbg (k+1) (k+1) c1 q2 q3 H=some r):qgmb [.one (c1),.one (.fn qji [] [q2,q3])] H=some r:=qap (k:=k+2) (Eq.trans (Eq.trans (by kernel_rfl) (qdt k (k+1) c1 q2 q3 H)) h)
def qysc:List (Nat×Run):=[(qfxb,qgmb),(qji,qsd)]
def qwcb:Ctx:=ctx qbi qbh qysc
def qvq:Run:=lim qwcb qfjb
theorem ok_fbd:FnOk Tryz.prog OkT qfjb qvq:=qao (l:=qysc) qac tyTab_ok qad okT (.cons ok_fcn (.cons qupc .nil)) qfjb
def qanb (k m:Nat):Nat→Cell→Cell→List Entry→Option Res | 0,_,_,_=>none | n+1,c2,c3,H4=>(deref H4 (c3)).bind fun p5=>(cC p5.1 p5.2).bind fun c6=>(lenC c6).bind fun n7=>(deref H4 (c2)).bind fun p8=>(cC p8.1 p8.2).bind fun c9=>(ptrC c9).bind fun c10=>(fldA c10 0).bind fun c11=>(deref H4 (c11)).bind fun p12=>(cC p12.1 p12.2).bind fun c13=>(lenC c13).bind fun n14=>cond (decide ((n7:Int) < (n14:Int))) ((deref H4 (c2)).bind fun p15=>(cC p15.1 p15.2).bind fun c16=>(ptrC c16).bind fun c17=>(fldA c17 0).bind fun c18=>(deref H4 (c18)).bind fun p19=>(cC p19.1 p19.2).bind fun c20=>(qgmb [.one (c20),.one (.fn qji [] [c3,c2])] H4).bind fun r21=>cond (qab quzc r21.1) ((cI .i64 (qaa r21.1 0) 0).bind fun i22=>cond (decide (i22 < 0)) (some ([.one (.lst true 1 []),.one (Cell.bool false)],r21.2)) ((deref r21.2 (c3)).bind fun p23=>(cC p23.1 p23.2).bind fun c24=>(deref r21.2 (c2)).bind fun p25=>(cC p25.1 p25.2).bind fun c26=>(ptrC c26).bind fun c27=>(fldA c27 0).bind fun c28=>(deref r21.2 (c28)).bind fun p29=>(cC p29.1 p29.2).bind fun c30=>(idxA 1 (c30) i22).bind fun c31=>(deref r21.2 (c31)).bind fun p32=>(cS p32.1 p32.2).bind fun s33=>(app r21.2 1 16 (c24) [[Cell.str s33]]).bind fun p34=>(qbu p34.2 (c3) [p34.1]).bind fun h35=>qanb k m n (c2) (c3) h35)) none) ((deref H4 (c3)).bind fun p36=>(cC p36.1 p36.2).bind fun c37=>some ([.one (c37),.one (Cell.bool true)],H4))
def fbd (k m:Nat)(c1:Cell)(H:List Entry):Option Res:=qanb k m m (.ptr H.length 1 0 0 0) (.ptr ((H++[Entry.mk 1 [[c1]] 0 false]).length) 1 0 0 0) ((H++[Entry.mk 1 [[c1]] 0 false])++[Entry.mk 1 [[.lst true 1 []]] 0 false])
abbrev qruc (k m:Nat):TB:=evC qwcb qog (evF qwcb (k+1)) m (sub [1,1,0,2,3] qog.code) none
abbrev qnbc (k m:Nat):TK:=qaw 0 (seqK (evC qwcb qog (evF qwcb (k+1)) m (sub [1,1,1] qog.code) none) (retK qwcb qog))
theorem qukb (k m:Nat):∀ (n:Nat) (c2 c3:Cell) (H4:List Entry),qbj (some [1,4]) (qruc k m) (qnbc k m) n ⟨fT 33 0 [(1,.av (.one (c2))),(4,.av (.one (c3)))],fX 33 0 [],H4⟩=qanb (k+1) m n c2 c3 H4:=by
 intro n
 induction n with
 | zero=>intros;rfl
 | succ n ih=>intros;simp only[qanb,← ih];kernel_rfl
theorem qmbc (k m:Nat)(c1:Cell)(H:List Entry):evC qwcb qog (evF qwcb (k+1)) m qog.code none (retK qwcb qog) (enter qog [.one (c1)] H)=fbd (k+1) m c1 H:=by
 simp only[fbd,← qukb k m]
 kernel_rfl
theorem qreb {c1:Cell}{H:List Entry}{r:Res}(k:Nat)(h:fbd (k+1) (k+1) c1 H=some r):qvq [.one (c1)] H=some r:=qap (k:=k+2) (Eq.trans (Eq.trans (by kernel_rfl) (qmbc k (k+1) c1 H)) h)
def qxcc:List (Nat×Run):=[(qlf,qfo),(qfjb,qvq)]
def qfld:Ctx:=ctx qbi qbh qxcc
def qwv:Run:=lim qfld qfib
theorem ok_fag:FnOk Tryz.prog OkT qfib qwv:=qao (l:=qxcc) qac tyTab_ok qad okT (.cons qptb (.cons ok_fbd .nil)) qfib
def fag (k m:Nat)(c1:Cell):Option Res:=(qfo [.one (c1)] []).bind fun r2=>cond (qab qkjb r2.1) ((cC (qaa r2.1 0) 0).bind fun c3=>(qvq [.one (c3)] r2.2).bind fun r4=>cond (qab qvpc r4.1) ((cC (qaa r4.1 0) 0).bind fun c5=>(cB (qaa r4.1 1) 0).bind fun b6=>some ([.one (c5),.one (Cell.bool b6)],r4.2)) none) none
theorem qkcc (k m:Nat)(c1:Cell):evC qfld qkeb (evF qfld (k+1)) m qkeb.code none (retK qfld qkeb) (enter qkeb [.one (c1)] [])=fag (k+1) m c1:=by
 kernel_rfl
theorem qqzb {c1:Cell}{r:Res}(k:Nat)(h:fag (k+1) (k+1) c1=some r):qwv [.one (c1)] []=some r:=qap (k:=k+2) (Eq.trans (Eq.trans (by kernel_rfl) (qkcc k (k+1) c1)) h)
def qxgc:List (Nat×Run):=[]
def qtsb:Ctx:=ctx qbi qbh qxgc
def qby:Run:=lim qtsb qgo
theorem qwx:FnOk Tryz.prog OkT qgo qby:=qao (l:=qxgc) qac tyTab_ok qad okT .nil qgo
def qcob (k m:Nat):Nat→Cell→ByteArray→Int→Option Res | 0,_,_,_=>none | n+1,c3,s4,i5=>(lenC c3).bind fun n6=>cond (decide (i5 < (n6:Int))) ((idxA 1 (c3) i5).bind fun c7=>(deref [] (c7)).bind fun p8=>(cS p8.1 p8.2).bind fun s9=>cond (s9.toList==s4.toList) (some ([.one (Cell.bool true)],[])) (qcob k m n (c3) s4 (IntKind.i64.wrap (i5+1)))) (some ([.one (Cell.bool false)],[]))
def fdn (k m:Nat)(c1:Cell)(s2:ByteArray):Option Res:=qcob k m m (c1) s2 0
abbrev qghc (k m:Nat):TB:=evC qtsb qpt (evF qtsb (k+1)) m (sub [1,0,1,2,3] qpt.code) none
abbrev qijc (k m:Nat):TK:=qaw 0 (seqK (evC qtsb qpt (evF qtsb (k+1)) m (sub [1,1] qpt.code) none) (retK qtsb qpt))
theorem qtxb (k m:Nat):∀ (n:Nat) (c3:Cell) (s4:ByteArray) (i5:Int),qbj (some [0,1,5]) (qghc k m) (qijc k m) n ⟨fT 18 0 [(0,.av (.one (c3))),(1,.av (.one (Cell.str s4))),(5,.av (.one (Cell.int i5)))],fX 18 0 [],[]⟩=qcob (k+1) m n c3 s4 i5:=by
 intro n
 induction n with
 | zero=>intros;rfl
 | succ n ih=>intros;simp only[qcob,← ih];kernel_rfl
theorem qjic (k m:Nat)(c1:Cell)(s2:ByteArray):evC qtsb qpt (evF qtsb (k+1)) m qpt.code none (retK qtsb qpt) (enter qpt [.one (c1),.one (Cell.str s2)] [])=fdn (k+1) m c1 s2:=by
 simp only[fdn,← qtxb k m]
 kernel_rfl
theorem qpwb {c1:Cell}{s2:ByteArray}{r:Res}(k:Nat)(h:fdn (k+1) (k+1) c1 s2=some r):qby [.one (c1),.one (Cell.str s2)] []=some r:=qap (k:=k+2) (Eq.trans (Eq.trans (by kernel_rfl) (qjic k (k+1) c1 s2)) h)
end
end Go.Ev
