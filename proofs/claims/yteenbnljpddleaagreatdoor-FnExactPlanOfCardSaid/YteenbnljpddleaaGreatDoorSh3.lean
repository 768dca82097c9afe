/- What the evaluator says of the functions, each as a Lean function over cells. Printed by a program of this claim. Conditions: none. -/
import Derived.Test.YteenbnljpddleaaGreatDoorSh2
import Derived.KernelRfl
namespace Go.Ev
open Go Go.Proofs
noncomputable section
set_option maxRecDepth 100000
set_option linter.unusedVariables false
set_option linter.unusedSimpArgs false
def qnpd:List (Nat×Run):=[(qmob,qyz)]
def qbhe:Ctx:=ctx qbd qbe qnpd
def qev:Run:=lim qbhe qcbb
theorem qmhd:FnOk Tryz.prog OkT qcbb qev:=qan (l:=qnpd) qac tyTab_ok qad okT (.cons ok_fex .nil) qcbb
def fez (k m:Nat)(c1:Cell)(s2 s3:ByteArray):Option Res:=(callL qyz [.one (c1),.one (Cell.str s2),.one (Cell.str s3)] []).bind fun r4=>cond (qab qpgd r4.1) ((cS (qaa r4.1 0) 0).bind fun s5=>(cC (qaa r4.1 0) 1).bind fun c6=>(cB (qaa r4.1 1) 0).bind fun b7=>some ([.one (Cell.bool b7)],r4.2)) none
theorem qbpd (k m:Nat)(c1:Cell)(s2 s3:ByteArray):evC qbhe qrsb (evF qbhe (k+1)) m qrsb.code none (retK qbhe qrsb) (enter qrsb [.one (c1),.one (Cell.str s2),.one (Cell.str s3)] [])=fez (k+1) m c1 s2 s3:=by
 kernel_rfl
theorem qudb {c1:Cell}{s2 s3:ByteArray}{r:Res}(k:Nat)(h:fez (k+1) (k+1) c1 s2 s3=some r):qev [.one (c1),.one (Cell.str s2),.one (Cell.str s3)] []=some r:=qap (k:=k+2) (Eq.trans (Eq.trans (by kernel_rfl) (qbpd k (k+1) c1 s2 s3)) h)
def quwd:List (Nat×Run):=[]
def qoic:Ctx:=ctx qbd qbe quwd
def qko:Run:=lim qoic qyn
theorem qmld:FnOk Tryz.prog OkT qyn qko:=qan (l:=quwd) qac tyTab_ok qad okT .nil qyn
def qeub (k m:Nat):Nat→Cell→ByteArray→Int→Option Res | 0,_,_,_=>none | n+1,c3,s4,i5=>(lenC c3).bind fun n6=>cond (decide (i5 < (n6:Int))) ((idxA 1 (c3) i5).bind fun c7=>(deref [] (c7)).bind fun p8=>(cS p8.1 p8.2).bind fun s9=>cond (s9.toList==s4.toList) (some ([.one (Cell.bool true)],[])) (qeub k m n (c3) s4 (IntKind.i64.wrap (i5+1)))) (some ([.one (Cell.bool false)],[]))
def ffc (k m:Nat)(c1:Cell)(s2:ByteArray):Option Res:=qeub k m m (c1) s2 0
abbrev qgad (k m:Nat):TB:=evC qoic qov (evF qoic (k+1)) m (sub [1,0,1,2,3] qov.code) none
abbrev qgpd (k m:Nat):TK:=qav 0 (seqK (evC qoic qov (evF qoic (k+1)) m (sub [1,1] qov.code) none) (retK qoic qov))
theorem qkpc (k m:Nat):∀ (n:Nat) (c3:Cell) (s4:ByteArray) (i5:Int),qbo (some [0,1,5]) (qgad k m) (qgpd k m) n ⟨fT 18 0 [(0,.av (.one (c3))),(1,.av (.one (Cell.str s4))),(5,.av (.one (Cell.int i5)))],fX 18 0 [],[]⟩=qeub (k+1) m n c3 s4 i5:=by
 intro n
 induction n with
 | zero=>intros;rfl
 | succ n ih=>intros;simp only[qeub,← ih];kernel_rfl
theorem qkzd (k m:Nat)(c1:Cell)(s2:ByteArray):evC qoic qov (evF qoic (k+1)) m qov.code none (retK qoic qov) (enter qov [.one (c1),.one (Cell.str s2)] [])=ffc (k+1) m c1 s2:=by
 simp only[ffc,← qkpc k m]
 kernel_rfl
theorem qxmb {c1:Cell}{s2:ByteArray}{r:Res}(k:Nat)(h:ffc (k+1) (k+1) c1 s2=some r):qko [.one (c1),.one (Cell.str s2)] []=some r:=qap (k:=k+2) (Eq.trans (Eq.trans (by kernel_rfl) (qkzd k (k+1) c1 s2)) h)
def qozd:List (Nat×Run):=[(qyn,qko)]
def qegb:Ctx:=ctx qbd qbe qozd
def qfw:Run:=lim qegb qdcb
theorem qujd:FnOk Tryz.prog OkT qdcb qfw:=qan (l:=qozd) qac tyTab_ok qad okT (.cons qmld .nil) qdcb
def qghb (k m:Nat)(b_l0:Cell→Cell→Int→List Entry→Option Res):Nat→Cell→Cell→Int→Int→List Entry→Option Res | 0,_,_,_,_,_=>none | n+1,c17,c18,i19,i20,H21=>cond (decide (i20 > 0)) ((idxA 1 (c18) (IntKind.i64.wrap (i20 - 1))).bind fun c22=>(deref H21 (c22)).bind fun p23=>(cS p23.1 p23.2).bind fun s24=>(idxA 1 (c17) i19).bind fun c25=>(deref H21 (c25)).bind fun p26=>(cS p26.1 p26.2).bind fun s27=>cond (!(Op.bytesLess s24.toList s27.toList||s24.toList==s27.toList)) ((idxA 1 (c18) (IntKind.i64.wrap (i20 - 1))).bind fun c28=>(deref H21 (c28)).bind fun p29=>(cS p29.1 p29.2).bind fun s30=>(idxA 1 (c18) i20).bind fun c31=>(qca H21 (c31) [Cell.str s30]).bind fun h32=>qghb k m b_l0 n (c17) (c18) i19 (IntKind.i64.wrap (i20 - 1)) h32) ((idxA 1 (c17) i19).bind fun c33=>(deref H21 (c33)).bind fun p34=>(cS p34.1 p34.2).bind fun s35=>(idxA 1 (c18) i20).bind fun c36=>(qca H21 (c36) [Cell.str s35]).bind fun h37=>b_l0 (c17) (c18) (IntKind.i64.wrap (i19+1)) h37)) ((idxA 1 (c17) i19).bind fun c38=>(deref H21 (c38)).bind fun p39=>(cS p39.1 p39.2).bind fun s40=>(idxA 1 (c18) i20).bind fun c41=>(qca H21 (c41) [Cell.str s40]).bind fun h42=>b_l0 (c17) (c18) (IntKind.i64.wrap (i19+1)) h42)
def qvk (k m:Nat):Nat→Cell→Cell→Int→List Entry→Option Res | 0,_,_,_,_=>none | n+1,c2,c3,i4,H5=>(lenC c2).bind fun n6=>cond (decide (i4 < (n6:Int))) ((idxA 1 (c2) i4).bind fun c7=>(deref H5 (c7)).bind fun p8=>(cS p8.1 p8.2).bind fun s9=>(qar qko [.one (c3),.one (Cell.str s9)] H5).bind fun r10=>cond (qab qfqd r10) ((cB (qaa r10 0) 0).bind fun b11=>cond b11 (qvk k m n (c2) (c3) (IntKind.i64.wrap (i4+1)) H5) ((idxA 1 (c2) i4).bind fun c12=>(deref H5 (c12)).bind fun p13=>(cS p13.1 p13.2).bind fun s14=>(app H5 1 16 (c3) [[Cell.str s14]]).bind fun p15=>(lenC p15.1).bind fun n16=>qghb k m (qvk k m n) m (c2) (p15.1) i4 (IntKind.i64.wrap ((n16:Int) - 1)) p15.2)) none) (some ([.one (c3)],H5))
def feq (k m:Nat)(c1:Cell):Option Res:=qvk k m m (c1) (.lst true 1 []) 0 []
abbrev qhkb (k m:Nat):TB:=evC qegb qgz (evF qegb (k+1)) m (sub [1,1,0,1,2,3] qgz.code) none
abbrev qvb (k m:Nat):TK:=qav 0 (seqK (evC qegb qgz (evF qegb (k+1)) m (sub [1,1,1] qgz.code) none) (retK qegb qgz))
abbrev qzgc (k m:Nat):TB:=evC qegb qgz (evF qegb (k+1)) m (sub [1,1,0,1,2,3,1,0,2,1,1,1,0,2,3] qgz.code) none
abbrev qfjd (k m:Nat)(n_l0:Nat):TK:=qav 2 (seqK (evC qegb qgz (evF qegb (k+1)) m (sub [1,1,0,1,2,3,1,0,2,1,1,1,1] qgz.code) none) (qav 1 (seqK (evC qegb qgz (evF qegb (k+1)) m (sub [1,1,0,1,2,3,1,1] qgz.code) none) (qjsd (fun s=>qbo (some [0,3,4]) (qhkb k m) (qvb k m) n_l0 (qebb (some [0,3,4]) s)) (qvb k m)))))
theorem qhmc (k m:Nat)(b_l0:Cell→Cell→Int→List Entry→Option Res)(n_l0:Nat)(h_l0:∀ (c2 c3:Cell) (i4:Int) (H5:List Entry),qbo (some [0,3,4]) (qhkb k m) (qvb k m) n_l0 ⟨fT 61 0 [(0,.av (.one (c2))),(3,.av (.one (c3))),(4,.av (.one (Cell.int i4)))],fX 61 0 [],H5⟩=b_l0 c2 c3 i4 H5):∀ (n:Nat) (c17 c18:Cell) (i19 i20:Int) (H21:List Entry),qbo (some [0,3,4,5]) (qzgc k m) (qfjd k m n_l0) n ⟨fT 61 0 [(0,.av (.one (c17))),(3,.av (.one (c18))),(4,.av (.one (Cell.int i19))),(5,.av (.one (Cell.int i20)))],fX 61 0 [],H21⟩=qghb (k+1) m b_l0 n c17 c18 i19 i20 H21:=by
 intro n
 induction n with
 | zero=>intros;rfl
 | succ n ih=>intros;simp only[qghb,← h_l0,← ih];kernel_rfl
theorem qqfc (k m:Nat):∀ (n:Nat) (c2 c3:Cell) (i4:Int) (H5:List Entry),qbo (some [0,3,4]) (qhkb k m) (qvb k m) n ⟨fT 61 0 [(0,.av (.one (c2))),(3,.av (.one (c3))),(4,.av (.one (Cell.int i4)))],fX 61 0 [],H5⟩=qvk (k+1) m n c2 c3 i4 H5:=by
 intro n
 induction n with
 | zero=>intros;rfl
 | succ n ih=>intros;simp only[qvk,← qhmc k m _ _ (ih),← ih];kernel_rfl
theorem qehd (k m:Nat)(c1:Cell):evC qegb qgz (evF qegb (k+1)) m qgz.code none (retK qegb qgz) (enter qgz [.one (c1)] [])=feq (k+1) m c1:=by
 simp only[feq,← qqfc k m]
 kernel_rfl
theorem qxob {c1:Cell}{r:Res}(k:Nat)(h:feq (k+1) (k+1) c1=some r):qfw [.one (c1)] []=some r:=qap (k:=k+2) (Eq.trans (Eq.trans (by kernel_rfl) (qehd k (k+1) c1)) h)
def qaoe:List (Nat×Run):=[]
def qbne:Ctx:=ctx qbd qbe qaoe
def qbob:Run:=lim qbne qivb
theorem ok_fev:FnOk Tryz.prog OkT qivb qbob:=qan (l:=qaoe) qac tyTab_ok qad okT .nil qivb
def fev (k m:Nat)(s1:ByteArray)(c2 c3 c4:Cell)(b5:Bool):Option Res:=(qbp [] 1 c2).bind fun r6=>(app [] 1 16 (.lst true 1 []) r6).bind fun p7=>(qbp p7.2 1 c3).bind fun r8=>(app p7.2 1 16 (.lst true 1 []) r8).bind fun p9=>(qbp p9.2 1 c4).bind fun r10=>(app p9.2 1 16 (.lst true 1 []) r10).bind fun p11=>some ([.agg [Cell.str s1,p7.1,p9.1,p11.1,Cell.bool b5]],p11.2)
theorem qckd (k m:Nat)(s1:ByteArray)(c2 c3 c4:Cell)(b5:Bool):evC qbne qswb (evF qbne (k+1)) m qswb.code none (retK qbne qswb) (enter qswb [.agg [Cell.str s1,c2,c3,c4,Cell.bool b5]] [])=fev (k+1) m s1 c2 c3 c4 b5:=by
 kernel_rfl
theorem qalc {s1:ByteArray}{c2 c3 c4:Cell}{b5:Bool}{r:Res}(k:Nat)(h:fev (k+1) (k+1) s1 c2 c3 c4 b5=some r):qbob [.agg [Cell.str s1,c2,c3,c4,Cell.bool b5]] []=some r:=qap (k:=k+2) (Eq.trans (Eq.trans (by kernel_rfl) (qckd k (k+1) s1 c2 c3 c4 b5)) h)
def qoid:List (Nat×Run):=[(qivb,qbob)]
def qfkc:Ctx:=ctx qbd qbe qoid
def qaib:Run:=lim qfkc qilb
theorem ok_feo:FnOk Tryz.prog OkT qilb qaib:=qan (l:=qoid) qac tyTab_ok qad okT (.cons ok_fev .nil) qilb
def qyy (k m:Nat):Nat→Cell→ByteArray→Int→Option Res | 0,_,_,_=>none | n+1,c3,s4,i5=>(lenC c3).bind fun n6=>cond (decide (i5 < (n6:Int))) ((idxA 5 (c3) i5).bind fun c7=>(fldA c7 0).bind fun c8=>(deref [] (c8)).bind fun p9=>(cS p9.1 p9.2).bind fun s10=>cond (s10.toList==s4.toList) ((idxA 5 (c3) i5).bind fun c11=>(deref [] (c11)).bind fun p12=>(cS p12.1 p12.2).bind fun s13=>(cC p12.1 (p12.2+1)).bind fun c14=>(cC p12.1 ((p12.2+1)+1)).bind fun c15=>(cC p12.1 (((p12.2+1)+1)+1)).bind fun c16=>(cB p12.1 ((((p12.2+1)+1)+1)+1)).bind fun b17=>(callL qbob [.agg [Cell.str s13,c14,c15,c16,Cell.bool b17]] []).bind fun r18=>cond (qab qypd r18.1) ((cS (qaa r18.1 0) 0).bind fun s19=>(cC (qaa r18.1 0) 1).bind fun c20=>(cC (qaa r18.1 0) 2).bind fun c21=>(cC (qaa r18.1 0) 3).bind fun c22=>(cB (qaa r18.1 0) 4).bind fun b23=>some ([.agg [Cell.str s19,c20,c21,c22,Cell.bool b23],.one (Cell.bool true)],r18.2)) none) (qyy k m n (c3) s4 (IntKind.i64.wrap (i5+1)))) (some ([.agg [Cell.str s4,.lst true 1 [],.lst true 1 [],.lst true 1 [],Cell.bool false],.one (Cell.bool false)],[]))
def feo (k m:Nat)(c1:Cell)(s2:ByteArray):Option Res:=qyy k m m (c1) s2 0
abbrev qdmd (k m:Nat):TB:=evC qfkc qoo (evF qfkc (k+1)) m (sub [1,0,1,2,3] qoo.code) none
abbrev qywc (k m:Nat):TK:=qav 0 (seqK (evC qfkc qoo (evF qfkc (k+1)) m (sub [1,1] qoo.code) none) (retK qfkc qoo))
theorem qmdc (k m:Nat):∀ (n:Nat) (c3:Cell) (s4:ByteArray) (i5:Int),qbo (some [0,1,4,6]) (qdmd k m) (qywc k m) n ⟨fT 27 0 [(0,.av (.one (c3))),(1,.av (.one (Cell.str s4))),(4,.loc 4 0),(6,.av (.one (Cell.int i5)))],fX 27 0 [(4,[Cell.str (bs []),.lst true 1 [],.lst true 1 [],.lst true 1 [],Cell.bool false])],[]⟩=qyy (k+1) m n c3 s4 i5:=by
 intro n
 induction n with
 | zero=>intros;rfl
 | succ n ih=>intros;simp only[qyy,← ih];kernel_rfl
theorem qyhc (k m:Nat)(c1:Cell)(s2:ByteArray):evC qfkc qoo (evF qfkc (k+1)) m qoo.code none (retK qfkc qoo) (enter qoo [.one (c1),.one (Cell.str s2)] [])=feo (k+1) m c1 s2:=by
 simp only[feo,← qmdc k m]
 kernel_rfl
theorem qtvb {c1:Cell}{s2:ByteArray}{r:Res}(k:Nat)(h:feo (k+1) (k+1) c1 s2=some r):qaib [.one (c1),.one (Cell.str s2)] []=some r:=qap (k:=k+2) (Eq.trans (Eq.trans (by kernel_rfl) (qyhc k (k+1) c1 s2)) h)
def qvud:List (Nat×Run):=[]
def qcoe:Ctx:=ctx qbd qbe qvud
def qho:Run:=lim qcoe qzk
theorem qwdd:FnOk Tryz.prog OkT qzk qho:=qan (l:=qvud) qac tyTab_ok qad okT .nil qzk
def fes (k m:Nat)(s1 s2:ByteArray):Option Res:=(catS s1 (bs [35])).bind fun s3=>(catS s3 s2).bind fun s4=>some ([.one (Cell.str s4)],[])
theorem qajd (k m:Nat)(s1 s2:ByteArray):evC qcoe qpib (evF qcoe (k+1)) m qpib.code none (retK qcoe qpib) (enter qpib [.one (Cell.str s1),.one (Cell.str s2)] [])=fes (k+1) m s1 s2:=by
 kernel_rfl
theorem qzpb {s1 s2:ByteArray}{r:Res}(k:Nat)(h:fes (k+1) (k+1) s1 s2=some r):qho [.one (Cell.str s1),.one (Cell.str s2)] []=some r:=qap (k:=k+2) (Eq.trans (Eq.trans (by kernel_rfl) (qajd k (k+1) s1 s2)) h)
def qstd:List (Nat×Run):=[(que,qiq),(qcbb,qev),(qtl,qku),(qzk,qho)]
def qxxb:Ctx:=ctx qbd qbe qstd
def qafb:Run:=lim qxxb qjhb
theorem ok_fey:FnOk Tryz.prog OkT qjhb qafb:=qan (l:=qstd) qac tyTab_ok qad okT (.cons qlwd (.cons qmhd (.cons qaed (.cons qwdd .nil)))) qjhb
def qxy (k m:Nat):Nat→Cell→ByteArray→Cell→Int→Int→List Entry→Option Res | 0,_,_,_,_,_,_=>none | n+1,c7,s8,c9,i10,i11,H12=>cond (decide (i10≥0)) ((idxA 4 (c7) i10).bind fun c13=>(fldA c13 1).bind fun c14=>(deref H12 (c14)).bind fun p15=>(cC p15.1 p15.2).bind fun c16=>(lenC c16).bind fun n17=>cond (decide (i11 < (n17:Int))) ((idxA 4 (c7) i10).bind fun c18=>(fldA c18 1).bind fun c19=>(deref H12 (c19)).bind fun p20=>(cC p20.1 p20.2).bind fun c21=>(idxA 1 (c21) i11).bind fun c22=>(deref H12 (c22)).bind fun p23=>(cS p23.1 p23.2).bind fun s24=>(subS s8 1 (s8.size:Int)).bind fun s25=>(qar qev [.one (c7),.one (Cell.str s24),.one (Cell.str s25)] H12).bind fun r26=>cond (qab qhab r26) ((cB (qaa r26 0) 0).bind fun b27=>cond b27 ((idxA 4 (c7) i10).bind fun c28=>(fldA c28 1).bind fun c29=>(deref H12 (c29)).bind fun p30=>(cC p30.1 p30.2).bind fun c31=>(idxA 1 (c31) i11).bind fun c32=>(deref H12 (c32)).bind fun p33=>(cS p33.1 p33.2).bind fun s34=>(subS s8 1 (s8.size:Int)).bind fun s35=>(qar qho [.one (Cell.str s34),.one (Cell.str s35)] H12).bind fun r36=>cond (qab qhdb r36) ((cS (qaa r36 0) 0).bind fun s37=>(app H12 1 16 (c9) [[Cell.str s37]]).bind fun p38=>qxy k m n (c7) s8 (p38.1) i10 (IntKind.i64.wrap (i11+1)) p38.2) none) (qxy k m n (c7) s8 (c9) i10 (IntKind.i64.wrap (i11+1)) H12)) none) (some ([.one (c9)],H12))) (some ([.one (c9)],H12))
def fey (k m:Nat)(c1:Cell)(s2 s3:ByteArray):Option Res:=cond (decide ((s3.size:Int) > 0)) ((bytS s3 0).bind fun i4=>cond (i4==94) ((qar qku [.one (c1),.one (Cell.str s2)] []).bind fun r5=>cond (qab qcyc r5) ((cI .i64 (qaa r5 0) 0).bind fun i6=>qxy k m m (c1) s3 (.lst true 1 []) i6 0 []) none) ((qar qiq [.one (Cell.str s3)] []).bind fun r39=>cond (qab qykb r39) ((cS (qaa r39 0) 0).bind fun s40=>(cS (qaa r39 1) 0).bind fun s41=>(cB (qaa r39 2) 0).bind fun b42=>cond (!b42) ((qar qev [.one (c1),.one (Cell.str s2),.one (Cell.str s3)] []).bind fun r43=>cond (qab qhab r43) ((cB (qaa r43 0) 0).bind fun b44=>cond b44 ((qar qho [.one (Cell.str s2),.one (Cell.str s3)] []).bind fun r45=>cond (qab qhdb r45) ((cS (qaa r45 0) 0).bind fun s46=>(app [] 1 16 (.lst true 1 []) [[Cell.str s46]]).bind fun p47=>some ([.one (p47.1)],p47.2)) none) (some ([.one (.lst true 1 [])],[]))) none) ((qar qev [.one (c1),.one (Cell.str s40),.one (Cell.str s41)] []).bind fun r48=>cond (qab qhab r48) ((cB (qaa r48 0) 0).bind fun b49=>cond b49 ((qar qho [.one (Cell.str s40),.one (Cell.str s41)] []).bind fun r50=>cond (qab qhdb r50) ((cS (qaa r50 0) 0).bind fun s51=>(app [] 1 16 (.lst true 1 []) [[Cell.str s51]]).bind fun p52=>some ([.one (p52.1)],p52.2)) none) (some ([.one (.lst true 1 [])],[]))) none)) none)) ((qar qiq [.one (Cell.str s3)] []).bind fun r53=>cond (qab qykb r53) ((cS (qaa r53 0) 0).bind fun s54=>(cS (qaa r53 1) 0).bind fun s55=>(cB (qaa r53 2) 0).bind fun b56=>cond (!b56) ((qar qev [.one (c1),.one (Cell.str s2),.one (Cell.str s3)] []).bind fun r57=>cond (qab qhab r57) ((cB (qaa r57 0) 0).bind fun b58=>cond b58 ((qar qho [.one (Cell.str s2),.one (Cell.str s3)] []).bind fun r59=>cond (qab qhdb r59) ((cS (qaa r59 0) 0).bind fun s60=>(app [] 1 16 (.lst true 1 []) [[Cell.str s60]]).bind fun p61=>some ([.one (p61.1)],p61.2)) none) (some ([.one (.lst true 1 [])],[]))) none) ((qar qev [.one (c1),.one (Cell.str s54),.one (Cell.str s55)] []).bind fun r62=>cond (qab qhab r62) ((cB (qaa r62 0) 0).bind fun b63=>cond b63 ((qar qho [.one (Cell.str s54),.one (Cell.str s55)] []).bind fun r64=>cond (qab qhdb r64) ((cS (qaa r64 0) 0).bind fun s65=>(app [] 1 16 (.lst true 1 []) [[Cell.str s65]]).bind fun p66=>some ([.one (p66.1)],p66.2)) none) (some ([.one (.lst true 1 [])],[]))) none)) none)
abbrev qged (k m:Nat):TB:=evC qxxb qli (evF qxxb (k+1)) m (sub [1,1,0,1,4,1,0,1,2,3] qli.code) none
abbrev qjtd (k m:Nat):TK:=qav 0 (seqK (evC qxxb qli (evF qxxb (k+1)) m (sub [1,1,0,1,4,1,1] qli.code) none) (seqK (evC qxxb qli (evF qxxb (k+1)) m (sub [1,1,1] qli.code) none) (retK qxxb qli)))
theorem qskc (k m:Nat):∀ (n:Nat) (c7:Cell) (s8:ByteArray) (c9:Cell) (i10 i11:Int) (H12:List Entry),qbo (some [0,2,7,8,9]) (qged k m) (qjtd k m) n ⟨fT 87 0 [(0,.av (.one (c7))),(2,.av (.one (Cell.str s8))),(7,.av (.one (c9))),(8,.av (.one (Cell.int i10))),(9,.av (.one (Cell.int i11)))],fX 87 0 [],H12⟩=qxy (k+1) m n c7 s8 c9 i10 i11 H12:=by
 intro n
 induction n with
 | zero=>intros;rfl
 | succ n ih=>intros;simp only[qxy,← ih];kernel_rfl
theorem qbyd (k m:Nat)(c1:Cell)(s2 s3:ByteArray):evC qxxb qli (evF qxxb (k+1)) m qli.code none (retK qxxb qli) (enter qli [.one (c1),.one (Cell.str s2),.one (Cell.str s3)] [])=fey (k+1) m c1 s2 s3:=by
 simp only[fey,← qskc k m]
 kernel_rfl
theorem qfx {c1:Cell}{s2 s3:ByteArray}{r:Res}(k:Nat)(h:fey (k+1) (k+1) c1 s2 s3=some r):qafb [.one (c1),.one (Cell.str s2),.one (Cell.str s3)] []=some r:=qap (k:=k+2) (Eq.trans (Eq.trans (by kernel_rfl) (qbyd k (k+1) c1 s2 s3)) h)
def qnhd:List (Nat×Run):=[(qdcb,qfw),(qilb,qaib),(qjhb,qafb),(qzk,qho)]
def qigb:Ctx:=ctx qbd qbe qnhd
def qasb:Run:=lim qigb qkcb
theorem ok_feu:FnOk Tryz.prog OkT qkcb qasb:=qan (l:=qnhd) qac tyTab_ok qad okT (.cons qujd (.cons ok_feo (.cons ok_fey (.cons qwdd .nil)))) qkcb
def qwk (k m:Nat):Nat→ByteArray→ByteArray→Cell→Cell→Int→List Entry→Option Res | 0,_,_,_,_,_,_=>none | n+1,s31,s32,c33,c34,i35,H36=>(lenC c33).bind fun n37=>cond (decide (i35 < (n37:Int))) ((idxA 1 (c33) i35).bind fun c38=>(deref H36 (c38)).bind fun p39=>(cS p39.1 p39.2).bind fun s40=>(qar qho [.one (Cell.str s31),.one (Cell.str s32)] []).bind fun r41=>cond (qab qhdb r41) ((cS (qaa r41 0) 0).bind fun s42=>cond (!(s40.toList==s42.toList)) ((idxA 1 (c33) i35).bind fun c43=>(deref H36 (c43)).bind fun p44=>(cS p44.1 p44.2).bind fun s45=>(app H36 1 16 (c34) [[Cell.str s45]]).bind fun p46=>qwk k m n s31 s32 (c33) (p46.1) (IntKind.i64.wrap (i35+1)) p46.2) (qwk k m n s31 s32 (c33) (c34) (IntKind.i64.wrap (i35+1)) H36)) none) ((callL qfw [.one (c34)] H36).bind fun r47=>cond (qab qzkb r47.1) ((cC (qaa r47.1 0) 0).bind fun c48=>some ([.one (c48)],r47.2)) none)
def qemb (k m:Nat):Nat→Cell→ByteArray→ByteArray→Cell→Int→ByteArray→Cell→Cell→Cell→Bool→List Entry→Option Res | 0,_,_,_,_,_,_,_,_,_,_,_=>none | n+1,c12,s13,s14,c15,i16,s17,c18,c19,c20,b21,H22=>(lenC c18).bind fun n23=>cond (decide (i16 < (n23:Int))) ((idxA 1 (c18) i16).bind fun c24=>(deref H22 (c24)).bind fun p25=>(cS p25.1 p25.2).bind fun s26=>(callL qafb [.one (c12),.one (Cell.str s13),.one (Cell.str s26)] H22).bind fun r27=>cond (qab qvjd r27.1) ((cC (qaa r27.1 0) 0).bind fun c28=>(qbp r27.2 1 c28).bind fun r29=>(app r27.2 1 16 (c15) r29).bind fun p30=>qemb k m n (c12) s13 s14 (p30.1) (IntKind.i64.wrap (i16+1)) s17 (c18) (c19) (c20) b21 p30.2) none) (qwk k m m s13 s14 (c15) (.lst true 1 []) 0 H22)
def feu (k m:Nat)(c1 c2:Cell)(s3 s4:ByteArray):Option Res:=(callL qaib [.one (c2),.one (Cell.str s4)] []).bind fun r5=>cond (qab qqhd r5.1) ((cS (qaa r5.1 0) 0).bind fun s6=>(cC (qaa r5.1 0) 1).bind fun c7=>(cC (qaa r5.1 0) 2).bind fun c8=>(cC (qaa r5.1 0) 3).bind fun c9=>(cB (qaa r5.1 0) 4).bind fun b10=>(cB (qaa r5.1 1) 0).bind fun b11=>qemb k m m (c1) s3 s4 (.lst true 1 []) 0 s6 (c7) (c8) (c9) b10 r5.2) none
abbrev qvcc (k m:Nat):TB:=evC qigb qig (evF qigb (k+1)) m (sub [1,1,1,0,1,2,3] qig.code) none
abbrev qfid (k m:Nat):TK:=qav 0 (seqK (evC qigb qig (evF qigb (k+1)) m (sub [1,1,1,1] qig.code) none) (retK qigb qig))
abbrev qzmc (k m:Nat):TB:=evC qigb qig (evF qigb (k+1)) m (sub [1,1,1,1,1,0,1,2,3] qig.code) none
abbrev qhud (k m:Nat):TK:=qav 2 (seqK (evC qigb qig (evF qigb (k+1)) m (sub [1,1,1,1,1,1] qig.code) none) (retK qigb qig))
theorem qkcc (k m:Nat):∀ (n:Nat) (s31 s32:ByteArray) (c33 c34:Cell) (i35:Int) (H36:List Entry),qbo (some [2,3,11,13,14]) (qzmc k m) (qhud k m) n ⟨fT 63 0 [(2,.av (.one (Cell.str s31))),(3,.av (.one (Cell.str s32))),(11,.av (.one (c33))),(13,.av (.one (c34))),(14,.av (.one (Cell.int i35)))],fX 63 0 [],H36⟩=qwk (k+1) m n s31 s32 c33 c34 i35 H36:=by
 intro n
 induction n with
 | zero=>intros;rfl
 | succ n ih=>intros;simp only[qwk,← ih];kernel_rfl
theorem qjic (k m:Nat):∀ (n:Nat) (c12:Cell) (s13 s14:ByteArray) (c15:Cell) (i16:Int) (s17:ByteArray) (c18 c19 c20:Cell) (b21:Bool) (H22:List Entry),qbo (some [0,2,3,9,11,12]) (qvcc k m) (qfid k m) n ⟨fT 63 0 [(0,.av (.one (c12))),(2,.av (.one (Cell.str s13))),(3,.av (.one (Cell.str s14))),(9,.loc 9 0),(11,.av (.one (c15))),(12,.av (.one (Cell.int i16)))],fX 63 0 [(9,[Cell.str s17,c18,c19,c20,Cell.bool b21])],H22⟩=qemb (k+1) m n c12 s13 s14 c15 i16 s17 c18 c19 c20 b21 H22:=by
 intro n
 induction n with
 | zero=>intros;rfl
 | succ n ih=>intros;simp only[qemb,← qkcc k m,← ih];kernel_rfl
theorem qbgd (k m:Nat)(c1 c2:Cell)(s3 s4:ByteArray):evC qigb qig (evF qigb (k+1)) m qig.code none (retK qigb qig) (enter qig [.one (c1),.one (c2),.one (Cell.str s3),.one (Cell.str s4)] [])=feu (k+1) m c1 c2 s3 s4:=by
 simp only[feu,← qjic k m]
 kernel_rfl
theorem qabc {c1 c2:Cell}{s3 s4:ByteArray}{r:Res}(k:Nat)(h:feu (k+1) (k+1) c1 c2 s3 s4=some r):qasb [.one (c1),.one (c2),.one (Cell.str s3),.one (Cell.str s4)] []=some r:=qap (k:=k+2) (Eq.trans (Eq.trans (by kernel_rfl) (qbgd k (k+1) c1 c2 s3 s4)) h)
def qqrd:List (Nat×Run):=[(que,qiq),(qkcb,qasb)]
def qdte:Ctx:=ctx qbd qbe qqrd
def qui:Run:=lim qdte qnjb
theorem ok_ffa:FnOk Tryz.prog OkT qnjb qui:=qan (l:=qqrd) qac tyTab_ok qad okT (.cons qlwd (.cons ok_feu .nil)) qnjb
def ffa (k m:Nat)(c1 c2:Cell)(s3:ByteArray):Option Res:=(qar qiq [.one (Cell.str s3)] []).bind fun r4=>cond (qab qykb r4) ((cS (qaa r4 0) 0).bind fun s5=>(cS (qaa r4 1) 0).bind fun s6=>(cB (qaa r4 2) 0).bind fun b7=>cond (!b7) (some ([.one (.lst true 1 [])],[])) ((callL qasb [.one (c1),.one (c2),.one (Cell.str s5),.one (Cell.str s6)] []).bind fun r8=>cond (qab qycd r8.1) ((cC (qaa r8.1 0) 0).bind fun c9=>some ([.one (c9)],r8.2)) none)) none
theorem qcfd (k m:Nat)(c1 c2:Cell)(s3:ByteArray):evC qdte qqlb (evF qdte (k+1)) m qqlb.code none (retK qdte qqlb) (enter qqlb [.one (c1),.one (c2),.one (Cell.str s3)] [])=ffa (k+1) m c1 c2 s3:=by
 kernel_rfl
theorem qccc {c1 c2:Cell}{s3:ByteArray}{r:Res}(k:Nat)(h:ffa (k+1) (k+1) c1 c2 s3=some r):qui [.one (c1),.one (c2),.one (Cell.str s3)] []=some r:=qap (k:=k+2) (Eq.trans (Eq.trans (by kernel_rfl) (qcfd k (k+1) c1 c2 s3)) h)
def qyhd:List (Nat×Run):=[(qkvb,qmj),(qnrb,qmd),(que,qiq),(qcbb,qev),(qyn,qko),(qnjb,qui),(qdcb,qfw)]
def qmnb:Ctx:=ctx qbd qbe qyhd
def qrh:Run:=lim qmnb qieb
theorem ok_fen:FnOk Tryz.prog OkT qieb qrh:=qan (l:=qyhd) qac tyTab_ok qad okT (.cons ok_feh (.cons ok_fep (.cons qlwd (.cons qmhd (.cons qmld (.cons ok_ffa (.cons qujd .nil))))))) qieb
def qwh (k m:Nat):Nat→Cell→Cell→Int→Cell→Cell→List Entry→Option Res | 0,_,_,_,_,_,_=>none | n+1,c42,c43,i44,c45,c46,H47=>(lenC c45).bind fun n48=>cond (decide (i44 < (n48:Int))) ((idxA 1 (c45) i44).bind fun c49=>(deref H47 (c49)).bind fun p50=>(cS p50.1 p50.2).bind fun s51=>(callL qui [.one (c42),.one (c43),.one (Cell.str s51)] []).bind fun r52=>cond (qab qjed r52.1) ((cC (qaa r52.1 0) 0).bind fun c53=>qlq r52.2 (restK [c53] fun d54=>(qbp H47 1 (.lst true 1 (chunks 1 1 d54))).bind fun r55=>(app H47 1 24 (c46) r55).bind fun p56=>qwh k m n (c42) (c43) (IntKind.i64.wrap (i44+1)) (c45) (p56.1) p56.2)) none) (some ([.agg [c45,c46],.one (Cell.bool true)],H47))
def qjv (k m:Nat):Nat→Cell→Cell→Cell→Cell→List Entry→Option Res | 0,_,_,_,_,_=>none | n+1,c6,c7,c8,c9,H10=>(lenC c9).bind fun n11=>cond (decide ((n11:Int) > 0)) ((qar qmj [.one (c6)] H10).bind fun r12=>cond (qab qwsb r12) ((cB (qaa r12 0) 0).bind fun b13=>cond b13 ((qar qmd [.one (c7)] H10).bind fun r14=>cond (qab qwjb r14) ((cB (qaa r14 0) 0).bind fun b15=>cond b15 ((idxA 1 (c9) 0).bind fun c16=>(deref H10 (c16)).bind fun p17=>(cS p17.1 p17.2).bind fun s18=>(slcC 1 (c9) 1 none none).bind fun c19=>(qbp H10 1 c19).bind fun r20=>(app H10 1 16 (.lst true 1 []) r20).bind fun p21=>(qar qiq [.one (Cell.str s18)] p21.2).bind fun r22=>cond (qab qykb r22) ((cS (qaa r22 0) 0).bind fun s23=>(cS (qaa r22 1) 0).bind fun s24=>(cB (qaa r22 2) 0).bind fun b25=>cond b25 ((qar qev [.one (c6),.one (Cell.str s23),.one (Cell.str s24)] p21.2).bind fun r26=>cond (qab qhab r26) ((cB (qaa r26 0) 0).bind fun b27=>cond b27 ((qar qko [.one (c8),.one (Cell.str s18)] p21.2).bind fun r28=>cond (qab qfqd r28) ((cB (qaa r28 0) 0).bind fun b29=>cond (!b29) ((app p21.2 1 16 (c8) [[Cell.str s18]]).bind fun p30=>(callL qui [.one (c6),.one (c7),.one (Cell.str s18)] p30.2).bind fun r31=>cond (qab qjed r31.1) ((cC (qaa r31.1 0) 0).bind fun c32=>(qbp r31.2 1 c32).bind fun r33=>(app r31.2 1 16 (p21.1) r33).bind fun p34=>qjv k m n (c6) (c7) (p30.1) (p34.1) p34.2) none) (qjv k m n (c6) (c7) (c8) (p21.1) p21.2)) none) (qjv k m n (c6) (c7) (c8) (p21.1) p21.2)) none) (qjv k m n (c6) (c7) (c8) (p21.1) p21.2)) none) ((qar qmj [.one (c6)] H10).bind fun r35=>cond (qab qwsb r35) ((cB (qaa r35 0) 0).bind fun b36=>cond (!b36) (some ([.agg [.lst true 1 [],.lst true 1 []],.one (Cell.bool false)],H10)) ((qar qmd [.one (c7)] H10).bind fun r37=>cond (qab qwjb r37) ((cB (qaa r37 0) 0).bind fun b38=>cond (!b38) (some ([.agg [.lst true 1 [],.lst true 1 []],.one (Cell.bool false)],H10)) ((lenC c8).bind fun n39=>cond (decide ((n39:Int) > 16)) (some ([.agg [.lst true 1 [],.lst true 1 []],.one (Cell.bool false)],H10)) ((callL qfw [.one (c8)] H10).bind fun r40=>cond (qab qzkb r40.1) ((cC (qaa r40.1 0) 0).bind fun c41=>qwh k m m (c6) (c7) 0 (c41) (.lst true 1 []) r40.2) none))) none)) none)) none) ((qar qmj [.one (c6)] H10).bind fun r57=>cond (qab qwsb r57) ((cB (qaa r57 0) 0).bind fun b58=>cond (!b58) (some ([.agg [.lst true 1 [],.lst true 1 []],.one (Cell.bool false)],H10)) ((qar qmd [.one (c7)] H10).bind fun r59=>cond (qab qwjb r59) ((cB (qaa r59 0) 0).bind fun b60=>cond (!b60) (some ([.agg [.lst true 1 [],.lst true 1 []],.one (Cell.bool false)],H10)) ((lenC c8).bind fun n61=>cond (decide ((n61:Int) > 16)) (some ([.agg [.lst true 1 [],.lst true 1 []],.one (Cell.bool false)],H10)) ((callL qfw [.one (c8)] H10).bind fun r62=>cond (qab qzkb r62.1) ((cC (qaa r62.1 0) 0).bind fun c63=>qwh k m m (c6) (c7) 0 (c63) (.lst true 1 []) r62.2) none))) none)) none)) none) ((qar qmj [.one (c6)] H10).bind fun r64=>cond (qab qwsb r64) ((cB (qaa r64 0) 0).bind fun b65=>cond (!b65) (some ([.agg [.lst true 1 [],.lst true 1 []],.one (Cell.bool false)],H10)) ((qar qmd [.one (c7)] H10).bind fun r66=>cond (qab qwjb r66) ((cB (qaa r66 0) 0).bind fun b67=>cond (!b67) (some ([.agg [.lst true 1 [],.lst true 1 []],.one (Cell.bool false)],H10)) ((lenC c8).bind fun n68=>cond (decide ((n68:Int) > 16)) (some ([.agg [.lst true 1 [],.lst true 1 []],.one (Cell.bool false)],H10)) ((callL qfw [.one (c8)] H10).bind fun r69=>cond (qab qzkb r69.1) ((cC (qaa r69.1 0) 0).bind fun c70=>qwh k m m (c6) (c7) 0 (c70) (.lst true 1 []) r69.2) none))) none)) none)
def fen (k m:Nat)(c1 c2 c3:Cell):Option Res:=(qbp [] 1 c3).bind fun r4=>(app [] 1 16 (.lst true 1 []) r4).bind fun p5=>qjv k m m (c1) (c2) (.lst true 1 []) (p5.1) p5.2
abbrev qfod (k m:Nat):TB:=evC qmnb qie (evF qmnb (k+1)) m (sub [1,1,1,0,2,3] qie.code) none
abbrev qecd (k m:Nat):TK:=qav 0 (seqK (evC qmnb qie (evF qmnb (k+1)) m (sub [1,1,1,1] qie.code) none) (retK qmnb qie))
abbrev qwuc (k m:Nat):TB:=evC qmnb qie (evF qmnb (k+1)) m (sub [1,1,1,1,1,1,0,1,2,3] qie.code) none
abbrev qxyc (k m:Nat):TK:=qav 2 (seqK (evC qmnb qie (evF qmnb (k+1)) m (sub [1,1,1,1,1,1,1] qie.code) none) (retK qmnb qie))
theorem qmic (k m:Nat):∀ (n:Nat) (c42 c43:Cell) (i44:Int) (c45 c46:Cell) (H47:List Entry),qbo (some [0,1,6,14,15]) (qwuc k m) (qxyc k m) n ⟨fT 105 0 [(0,.av (.one (c42))),(1,.av (.one (c43))),(6,.loc 6 0),(14,.loc 14 0),(15,.av (.one (Cell.int i44)))],fX 105 0 [(6,[.lst true 1 [],.lst true 1 []]),(14,[c45,c46])],H47⟩=qwh (k+1) m n c42 c43 i44 c45 c46 H47:=by
 intro n
 induction n with
 | zero=>intros;rfl
 | succ n ih=>intros;simp only[qwh,← ih];kernel_rfl
theorem qqjc (k m:Nat):∀ (n:Nat) (c6 c7 c8 c9:Cell) (H10:List Entry),qbo (some [0,1,6,8,9]) (qfod k m) (qecd k m) n ⟨fT 105 0 [(0,.av (.one (c6))),(1,.av (.one (c7))),(6,.loc 6 0),(8,.av (.one (c8))),(9,.av (.one (c9)))],fX 105 0 [(6,[.lst true 1 [],.lst true 1 []])],H10⟩=qjv (k+1) m n c6 c7 c8 c9 H10:=by
 intro n
 induction n with
 | zero=>intros;rfl
 | succ n ih=>intros;simp only[qjv,← qmic k m,← ih];kernel_rfl
theorem qitd (k m:Nat)(c1 c2 c3:Cell):evC qmnb qie (evF qmnb (k+1)) m qie.code none (retK qmnb qie) (enter qie [.one (c1),.one (c2),.one (c3)] [])=fen (k+1) m c1 c2 c3:=by
 simp only[fen,← qqjc k m]
 kernel_rfl
theorem qqt {c1 c2 c3:Cell}{r:Res}(k:Nat)(h:fen (k+1) (k+1) c1 c2 c3=some r):qrh [.one (c1),.one (c2),.one (c3)] []=some r:=qap (k:=k+2) (Eq.trans (Eq.trans (by kernel_rfl) (qitd k (k+1) c1 c2 c3)) h)
def qwmd:List (Nat×Run):=[]
def qeac:Ctx:=ctx qbd qbe qwmd
def qem:Run:=lim qeac qqb
theorem qlsc:FnOk Tryz.prog OkT qqb qem:=qan (l:=qwmd) qac tyTab_ok qad okT .nil qqb
def qfhb (k m:Nat):Nat→Cell→Cell→Int→List Entry→Option Res | 0,_,_,_,_=>none | n+1,c3,c4,i5,H6=>(lenC c3).bind fun n7=>cond (decide (i5 < (n7:Int))) ((idxA 1 (c3) i5).bind fun c8=>(deref H6 (c8)).bind fun p9=>(cS p9.1 p9.2).bind fun s10=>(idxA 1 (c4) i5).bind fun c11=>(qca H6 (c11) [Cell.str s10]).bind fun h12=>qfhb k m n (c3) (c4) (IntKind.i64.wrap (i5+1)) h12) (some ([.one (c4)],H6))
def fdu (k m:Nat)(c1:Cell):Option Res:=(lenC c1).bind fun n2=>if 0≤(n2:Int)∧(n2:Int)≤(n2:Int)∧(n2:Int)*16≤bound∧(n2:Int)≤bound then (qfhb k m m (c1) ((.vs 0 1 0 (n2:Int).toNat 0)) 0 [Entry.mk 1 (qcr (n2:Int).toNat [Cell.str (bs [])]) 0 false]) else none
abbrev qjld (k m:Nat):TB:=evC qeac qra (evF qeac (k+1)) m (sub [1,1,0,1,2,3] qra.code) none
abbrev qlld (k m:Nat):TK:=qav 0 (seqK (evC qeac qra (evF qeac (k+1)) m (sub [1,1,1] qra.code) none) (retK qeac qra))
theorem qqvc (k m:Nat):∀ (n:Nat) (c3 c4:Cell) (i5:Int) (H6:List Entry),qbo (some [0,3,4]) (qjld k m) (qlld k m) n ⟨fT 22 0 [(0,.av (.one (c3))),(3,.av (.one (c4))),(4,.av (.one (Cell.int i5)))],fX 22 0 [],H6⟩=qfhb (k+1) m n c3 c4 i5 H6:=by
 intro n
 induction n with
 | zero=>intros;rfl
 | succ n ih=>intros;simp only[qfhb,← ih];kernel_rfl
theorem qdxd (k m:Nat)(c1:Cell):evC qeac qra (evF qeac (k+1)) m qra.code none (retK qeac qra) (enter qra [.one (c1)] [])=fdu (k+1) m c1:=by
 simp only[fdu,← qqvc k m]
 kernel_rfl
theorem qweb {c1:Cell}{r:Res}(k:Nat)(h:fdu (k+1) (k+1) c1=some r):qem [.one (c1)] []=some r:=qap (k:=k+2) (Eq.trans (Eq.trans (by kernel_rfl) (qdxd k (k+1) c1)) h)
def qzkd:List (Nat×Run):=[]
def qcje:Ctx:=ctx qbd qbe qzkd
def qbxb:Run:=lim qcje qmtb
theorem ok_fdo:FnOk Tryz.prog OkT qmtb qbxb:=qan (l:=qzkd) qac tyTab_ok qad okT .nil qmtb
def fdo (k m:Nat)(s1 s2:ByteArray):Option Res:=some ([.agg [Cell.str s1,Cell.str s2]],[])
theorem qbjd (k m:Nat)(s1 s2:ByteArray):evC qcje qtab (evF qcje (k+1)) m qtab.code none (retK qcje qtab) (enter qtab [.agg [Cell.str s1,Cell.str s2]] [])=fdo (k+1) m s1 s2:=by
 kernel_rfl
theorem qvdb {s1 s2:ByteArray}{r:Res}(k:Nat)(h:fdo (k+1) (k+1) s1 s2=some r):qbxb [.agg [Cell.str s1,Cell.str s2]] []=some r:=qap (k:=k+2) (Eq.trans (Eq.trans (by kernel_rfl) (qbjd k (k+1) s1 s2)) h)
def qznd:List (Nat×Run):=[(qmtb,qbxb)]
def qekc:Ctx:=ctx qbd qbe qznd
def qagb:Run:=lim qekc qmcb
theorem ok_fdp:FnOk Tryz.prog OkT qmcb qagb:=qan (l:=qznd) qac tyTab_ok qad okT (.cons ok_fdo .nil) qmcb
def qgmb (k m:Nat):Nat→Cell→Cell→Int→List Entry→Option Res | 0,_,_,_,_=>none | n+1,c3,c4,i5,H6=>(lenC c3).bind fun n7=>cond (decide (i5 < (n7:Int))) ((idxA 2 (c3) i5).bind fun c8=>(deref H6 (c8)).bind fun p9=>(cS p9.1 p9.2).bind fun s10=>(cS p9.1 (p9.2+1)).bind fun s11=>(qdk qbxb [.agg [Cell.str s10,Cell.str s11]] H6).bind fun r12=>cond (qab qpod r12.1) ((cS (qaa r12.1 0) 0).bind fun s13=>(cS (qaa r12.1 0) 1).bind fun s14=>(idxA 2 (c4) i5).bind fun c15=>(qca r12.2 (c15) [Cell.str s13,Cell.str s14]).bind fun h16=>qgmb k m n (c3) (c4) (IntKind.i64.wrap (i5+1)) h16) none) (some ([.one (c4)],H6))
def fdp (k m:Nat)(c1:Cell):Option Res:=(lenC c1).bind fun n2=>if 0≤(n2:Int)∧(n2:Int)≤(n2:Int)∧(n2:Int)*32≤bound∧(n2:Int)≤bound then (qgmb k m m (c1) ((.vs 0 2 0 (n2:Int).toNat 0)) 0 [Entry.mk 2 (qcr (n2:Int).toNat [Cell.str (bs []),Cell.str (bs [])]) 0 false]) else none
abbrev qbsd (k m:Nat):TB:=evC qekc qog (evF qekc (k+1)) m (sub [1,1,0,1,2,3] qog.code) none
abbrev qisd (k m:Nat):TK:=qav 0 (seqK (evC qekc qog (evF qekc (k+1)) m (sub [1,1,1] qog.code) none) (retK qekc qog))
theorem qhyc (k m:Nat):∀ (n:Nat) (c3 c4:Cell) (i5:Int) (H6:List Entry),qbo (some [0,3,4]) (qbsd k m) (qisd k m) n ⟨fT 23 0 [(0,.av (.one (c3))),(3,.av (.one (c4))),(4,.av (.one (Cell.int i5)))],fX 23 0 [],H6⟩=qgmb (k+1) m n c3 c4 i5 H6:=by
 intro n
 induction n with
 | zero=>intros;rfl
 | succ n ih=>intros;simp only[qgmb,← ih];kernel_rfl
theorem qhed (k m:Nat)(c1:Cell):evC qekc qog (evF qekc (k+1)) m qog.code none (retK qekc qog) (enter qog [.one (c1)] [])=fdp (k+1) m c1:=by
 simp only[fdp,← qhyc k m]
 kernel_rfl
theorem qtub {c1:Cell}{r:Res}(k:Nat)(h:fdp (k+1) (k+1) c1=some r):qagb [.one (c1)] []=some r:=qap (k:=k+2) (Eq.trans (Eq.trans (by kernel_rfl) (qhed k (k+1) c1)) h)
def qaje:List (Nat×Run):=[(qqb,qem)]
def qdhe:Ctx:=ctx qbd qbe qaje
def qdxb:Run:=lim qdhe qnhb
theorem ok_fdm:FnOk Tryz.prog OkT qnhb qdxb:=qan (l:=qaje) qac tyTab_ok qad okT (.cons qlsc .nil) qnhb
def fdm (k m:Nat)(s1:ByteArray)(c2:Cell):Option Res:=(qdk qem [.one (c2)] []).bind fun r3=>cond (qab qst r3.1) ((cC (qaa r3.1 0) 0).bind fun c4=>some ([.agg [Cell.str s1,c4]],r3.2)) none
theorem qbid (k m:Nat)(s1:ByteArray)(c2:Cell):evC qdhe qqrb (evF qdhe (k+1)) m qqrb.code none (retK qdhe qqrb) (enter qqrb [.agg [Cell.str s1,c2]] [])=fdm (k+1) m s1 c2:=by
 kernel_rfl
theorem qylb {s1:ByteArray}{c2:Cell}{r:Res}(k:Nat)(h:fdm (k+1) (k+1) s1 c2=some r):qdxb [.agg [Cell.str s1,c2]] []=some r:=qap (k:=k+2) (Eq.trans (Eq.trans (by kernel_rfl) (qbid k (k+1) s1 c2)) h)
def qmxd:List (Nat×Run):=[(qnhb,qdxb)]
def qhfc:Ctx:=ctx qbd qbe qmxd
def qckb:Run:=lim qhfc qjpb
theorem ok_fdn:FnOk Tryz.prog OkT qjpb qckb:=qan (l:=qmxd) qac tyTab_ok qad okT (.cons ok_fdm .nil) qjpb
def qfdb (k m:Nat):Nat→Cell→Cell→Int→List Entry→Option Res | 0,_,_,_,_=>none | n+1,c3,c4,i5,H6=>(lenC c3).bind fun n7=>cond (decide (i5 < (n7:Int))) ((idxA 2 (c3) i5).bind fun c8=>(deref H6 (c8)).bind fun p9=>(cS p9.1 p9.2).bind fun s10=>(cC p9.1 (p9.2+1)).bind fun c11=>(qdk qdxb [.agg [Cell.str s10,c11]] H6).bind fun r12=>cond (qab quhd r12.1) ((cS (qaa r12.1 0) 0).bind fun s13=>(cC (qaa r12.1 0) 1).bind fun c14=>(idxA 2 (c4) i5).bind fun c15=>(qca r12.2 (c15) [Cell.str s13,c14]).bind fun h16=>qfdb k m n (c3) (c4) (IntKind.i64.wrap (i5+1)) h16) none) (some ([.one (c4)],H6))
def fdn (k m:Nat)(c1:Cell):Option Res:=(lenC c1).bind fun n2=>if 0≤(n2:Int)∧(n2:Int)≤(n2:Int)∧(n2:Int)*40≤bound∧(n2:Int)≤bound then (qfdb k m m (c1) ((.vs 0 2 0 (n2:Int).toNat 0)) 0 [Entry.mk 2 (qcr (n2:Int).toNat [Cell.str (bs []),.lst true 1 []]) 0 false]) else none
abbrev qdjd (k m:Nat):TB:=evC qhfc qod (evF qhfc (k+1)) m (sub [1,1,0,1,2,3] qod.code) none
abbrev qcad (k m:Nat):TK:=qav 0 (seqK (evC qhfc qod (evF qhfc (k+1)) m (sub [1,1,1] qod.code) none) (retK qhfc qod))
theorem qdxc (k m:Nat):∀ (n:Nat) (c3 c4:Cell) (i5:Int) (H6:List Entry),qbo (some [0,3,4]) (qdjd k m) (qcad k m) n ⟨fT 23 0 [(0,.av (.one (c3))),(3,.av (.one (c4))),(4,.av (.one (Cell.int i5)))],fX 23 0 [],H6⟩=qfdb (k+1) m n c3 c4 i5 H6:=by
 intro n
 induction n with
 | zero=>intros;rfl
 | succ n ih=>intros;simp only[qfdb,← ih];kernel_rfl
theorem qusc (k m:Nat)(c1:Cell):evC qhfc qod (evF qhfc (k+1)) m qod.code none (retK qhfc qod) (enter qod [.one (c1)] [])=fdn (k+1) m c1:=by
 simp only[fdn,← qdxc k m]
 kernel_rfl
theorem qwrb {c1:Cell}{r:Res}(k:Nat)(h:fdn (k+1) (k+1) c1=some r):qckb [.one (c1)] []=some r:=qap (k:=k+2) (Eq.trans (Eq.trans (by kernel_rfl) (qusc k (k+1) c1)) h)
def qqbd:List (Nat×Run):=[(qqb,qem),(qmcb,qagb),(qjpb,qckb)]
def qcbe:Ctx:=ctx qbd qbe qqbd
def qaeb:Run:=lim qcbe qncb
theorem ok_fdq:FnOk Tryz.prog OkT qncb qaeb:=qan (l:=qqbd) qac tyTab_ok qad okT (.cons qlsc (.cons ok_fdp (.cons ok_fdn .nil))) qncb
def fdq (k m:Nat)(s1:ByteArray)(c2 c3 c4:Cell):Option Res:=(qdk qem [.one (c2)] []).bind fun r5=>cond (qab qst r5.1) ((cC (qaa r5.1 0) 0).bind fun c6=>(qdk qagb [.one (c3)] r5.2).bind fun r7=>cond (qab qnxd r7.1) ((cC (qaa r7.1 0) 0).bind fun c8=>(qdk qckb [.one (c4)] r7.2).bind fun r9=>cond (qab qord r9.1) ((cC (qaa r9.1 0) 0).bind fun c10=>some ([.agg [Cell.str s1,c6,c8,c10]],r9.2)) none) none) none
theorem qyuc (k m:Nat)(s1:ByteArray)(c2 c3 c4:Cell):evC qcbe qrnb (evF qcbe (k+1)) m qrnb.code none (retK qcbe qrnb) (enter qrnb [.agg [Cell.str s1,c2,c3,c4]] [])=fdq (k+1) m s1 c2 c3 c4:=by
 kernel_rfl
theorem qajc {s1:ByteArray}{c2 c3 c4:Cell}{r:Res}(k:Nat)(h:fdq (k+1) (k+1) s1 c2 c3 c4=some r):qaeb [.agg [Cell.str s1,c2,c3,c4]] []=some r:=qap (k:=k+2) (Eq.trans (Eq.trans (by kernel_rfl) (qyuc k (k+1) s1 c2 c3 c4)) h)
def qrgd:List (Nat×Run):=[(qncb,qaeb)]
def qmvc:Ctx:=ctx qbd qbe qrgd
def qma:Run:=lim qmvc qmzb
theorem ok_fdr:FnOk Tryz.prog OkT qmzb qma:=qan (l:=qrgd) qac tyTab_ok qad okT (.cons ok_fdq .nil) qmzb
def qewb (k m:Nat):Nat→Cell→Cell→Int→List Entry→Option Res | 0,_,_,_,_=>none | n+1,c3,c4,i5,H6=>(lenC c3).bind fun n7=>cond (decide (i5 < (n7:Int))) ((idxA 4 (c3) i5).bind fun c8=>(deref H6 (c8)).bind fun p9=>(cS p9.1 p9.2).bind fun s10=>(cC p9.1 (p9.2+1)).bind fun c11=>(cC p9.1 ((p9.2+1)+1)).bind fun c12=>(cC p9.1 (((p9.2+1)+1)+1)).bind fun c13=>(qdk qaeb [.agg [Cell.str s10,c11,c12,c13]] H6).bind fun r14=>cond (qab qzwd r14.1) ((cS (qaa r14.1 0) 0).bind fun s15=>(cC (qaa r14.1 0) 1).bind fun c16=>(cC (qaa r14.1 0) 2).bind fun c17=>(cC (qaa r14.1 0) 3).bind fun c18=>(idxA 4 (c4) i5).bind fun c19=>(qca r14.2 (c19) [Cell.str s15,c16,c17,c18]).bind fun h20=>qewb k m n (c3) (c4) (IntKind.i64.wrap (i5+1)) h20) none) (some ([.one (c4)],H6))
def fdr (k m:Nat)(c1:Cell):Option Res:=(lenC c1).bind fun n2=>if 0≤(n2:Int)∧(n2:Int)≤(n2:Int)∧(n2:Int)*88≤bound∧(n2:Int)≤bound then (qewb k m m (c1) ((.vs 0 4 0 (n2:Int).toNat 0)) 0 [Entry.mk 4 (qcr (n2:Int).toNat [Cell.str (bs []),.lst true 1 [],.lst true 2 [],.lst true 2 []]) 0 false]) else none
abbrev qcpd (k m:Nat):TB:=evC qmvc qnq (evF qmvc (k+1)) m (sub [1,1,0,1,2,3] qnq.code) none
abbrev qzuc (k m:Nat):TK:=qav 0 (seqK (evC qmvc qnq (evF qmvc (k+1)) m (sub [1,1,1] qnq.code) none) (retK qmvc qnq))
theorem qdrc (k m:Nat):∀ (n:Nat) (c3 c4:Cell) (i5:Int) (H6:List Entry),qbo (some [0,3,4]) (qcpd k m) (qzuc k m) n ⟨fT 23 0 [(0,.av (.one (c3))),(3,.av (.one (c4))),(4,.av (.one (Cell.int i5)))],fX 23 0 [],H6⟩=qewb (k+1) m n c3 c4 i5 H6:=by
 intro n
 induction n with
 | zero=>intros;rfl
 | succ n ih=>intros;simp only[qewb,← ih];kernel_rfl
theorem qycc (k m:Nat)(c1:Cell):evC qmvc qnq (evF qmvc (k+1)) m qnq.code none (retK qmvc qnq) (enter qnq [.one (c1)] [])=fdr (k+1) m c1:=by
 simp only[fdr,← qdrc k m]
 kernel_rfl
theorem qupb {c1:Cell}{r:Res}(k:Nat)(h:fdr (k+1) (k+1) c1=some r):qma [.one (c1)] []=some r:=qap (k:=k+2) (Eq.trans (Eq.trans (by kernel_rfl) (qycc k (k+1) c1)) h)
def qogd:List (Nat×Run):=[(qqb,qem)]
def qbje:Ctx:=ctx qbd qbe qogd
def qyo:Run:=lim qbje qkub
theorem ok_fds:FnOk Tryz.prog OkT qkub qyo:=qan (l:=qogd) qac tyTab_ok qad okT (.cons qlsc .nil) qkub
def fds (k m:Nat)(s1:ByteArray)(c2 c3 c4:Cell)(b5:Bool):Option Res:=(qdk qem [.one (c2)] []).bind fun r6=>cond (qab qst r6.1) ((cC (qaa r6.1 0) 0).bind fun c7=>(qdk qem [.one (c3)] r6.2).bind fun r8=>cond (qab qst r8.1) ((cC (qaa r8.1 0) 0).bind fun c9=>(qdk qem [.one (c4)] r8.2).bind fun r10=>cond (qab qst r10.1) ((cC (qaa r10.1 0) 0).bind fun c11=>some ([.agg [Cell.str s1,c7,c9,c11,Cell.bool b5]],r10.2)) none) none) none
theorem qdqd (k m:Nat)(s1:ByteArray)(c2 c3 c4:Cell)(b5:Bool):evC qbje qoxb (evF qbje (k+1)) m qoxb.code none (retK qbje qoxb) (enter qoxb [.agg [Cell.str s1,c2,c3,c4,Cell.bool b5]] [])=fds (k+1) m s1 c2 c3 c4 b5:=by
 kernel_rfl
theorem qcjc {s1:ByteArray}{c2 c3 c4:Cell}{b5:Bool}{r:Res}(k:Nat)(h:fds (k+1) (k+1) s1 c2 c3 c4 b5=some r):qyo [.agg [Cell.str s1,c2,c3,c4,Cell.bool b5]] []=some r:=qap (k:=k+2) (Eq.trans (Eq.trans (by kernel_rfl) (qdqd k (k+1) s1 c2 c3 c4 b5)) h)
end
end Go.Ev
