/- What the evaluator says of the functions, each as a Lean function over cells. Printed by a program of this claim. Conditions: none. -/
import Derived.Test.YteofbfalngmmeaaGreatDoorSh1
import Derived.KernelRfl
namespace Go.Ev
open Go Go.Proofs
noncomputable section
set_option maxRecDepth 100000
set_option linter.unusedVariables false
set_option linter.unusedSimpArgs false
def quic:List (Nat×Run):=[(qqd,qfu),(qfcc,qeeb),(qxm,qia),(qdxb,qxv),(quq,qqc)]
def qemb:Ctx:=ctx qbi qbh quic
def qum:Run:=lim qemb qcxb
theorem ok_fbn:FnOk Tryz.prog OkT qcxb qum:=qao (l:=quic) qac tyTab_ok qad okT (.cons qvtb (.cons ok_fej (.cons qavd (.cons ok_faw (.cons qtkc .nil))))) qcxb
def qbrb (k m:Nat):Nat→Cell→Cell→Int→Int→List Entry→Option Res | 0,_,_,_,_,_=>none | n+1,c43,c44,i45,i46,H47=>cond (decide (i46 < i45)) ((idxA 5 (c44) i46).bind fun c48=>(deref H47 (c48)).bind fun p49=>(cI .i64 p49.1 p49.2).bind fun i50=>(cI .i64 p49.1 (p49.2+1)).bind fun i51=>(cI .i64 p49.1 ((p49.2+1)+1)).bind fun i52=>(cI .i64 p49.1 (((p49.2+1)+1)+1)).bind fun i53=>(cC p49.1 ((((p49.2+1)+1)+1)+1)).bind fun c54=>(qbc qqc [.agg [Cell.int i51,Cell.int i52,Cell.int i53,c54]] H47).bind fun r55=>cond (qab qisc r55) ((cB (qaa r55 0) 0).bind fun b56=>cond (!b56) (some ([.one (.lst true 5 []),.one (Cell.bool false)],H47)) (qbrb k m n (c43) (c44) i45 (IntKind.i64.wrap (i46+1)) H47)) none) ((lenC c43).bind fun n57=>some ([.one (c43),.one (Cell.bool (decide ((n57:Int)≤4)))],H47))
def qsl (k m:Nat):Nat→Cell→Cell→Int→Int→List Entry→Option Res | 0,_,_,_,_,_=>none | n+1,c29,c30,i31,i32,H33=>cond (decide (i32 < i31)) ((idxA 1 (c30) i32).bind fun c34=>(deref H33 (c34)).bind fun p35=>(cS p35.1 p35.2).bind fun s36=>(callL qxv [.one (Cell.str s36)] H33).bind fun r37=>cond (qab qapd r37.1) ((cC (qaa r37.1 0) 0).bind fun c38=>(cB (qaa r37.1 1) 0).bind fun b39=>cond (!b39) (some ([.one (.lst true 5 []),.one (Cell.bool false)],r37.2)) ((qah r37.2 5 c38).bind fun r40=>(app r37.2 5 56 (c29) r40).bind fun p41=>qsl k m n (p41.1) (c30) i31 (IntKind.i64.wrap (i32+1)) p41.2)) none) ((lenC c29).bind fun n42=>qbrb k m m (c29) (c29) (n42:Int) 0 H33)
def fbn (k m:Nat)(s1:ByteArray):Option Res:=(qbc qeeb [.one (Cell.str s1),.one (Cell.str (bs [32]))] []).bind fun r2=>cond (qab qslc r2) ((cS (qaa r2 0) 0).bind fun s3=>(qfd qfu [.one (Cell.str s3),.one (Cell.str (bs [32]))] []).bind fun r4=>cond (qab qirb r4.1) ((cC (qaa r4.1 0) 0).bind fun c5=>(lenC c5).bind fun n6=>cond ((n6:Int)==3) ((idxA 1 (c5) 1).bind fun c7=>(deref r4.2 (c7)).bind fun p8=>(cS p8.1 p8.2).bind fun s9=>cond (s9.toList==(bs [45]).toList) ((idxA 1 (c5) 0).bind fun c10=>(deref r4.2 (c10)).bind fun p11=>(cS p11.1 p11.2).bind fun s12=>(qfd qia [.one (Cell.str s12)] r4.2).bind fun r13=>cond (qab qsxb r13.1) ((cI .i64 (qaa r13.1 0) 0).bind fun i14=>(cI .i64 (qaa r13.1 0) 1).bind fun i15=>(cI .i64 (qaa r13.1 0) 2).bind fun i16=>(cC (qaa r13.1 0) 3).bind fun c17=>(cB (qaa r13.1 1) 0).bind fun b18=>(idxA 1 (c5) 2).bind fun c19=>(deref r13.2 (c19)).bind fun p20=>(cS p20.1 p20.2).bind fun s21=>(qfd qia [.one (Cell.str s21)] r13.2).bind fun r22=>cond (qab qsxb r22.1) ((cI .i64 (qaa r22.1 0) 0).bind fun i23=>(cI .i64 (qaa r22.1 0) 1).bind fun i24=>(cI .i64 (qaa r22.1 0) 2).bind fun i25=>(cC (qaa r22.1 0) 3).bind fun c26=>(cB (qaa r22.1 1) 0).bind fun b27=>cond b18 (some ([.one ((.vs r22.2.length 5 0 2 0)),.one (Cell.bool b27)],(r22.2++[Entry.mk 5 [[Cell.int 4,Cell.int i14,Cell.int i15,Cell.int i16,c17],[Cell.int 2,Cell.int i23,Cell.int i24,Cell.int i25,c26]] 0 false]))) (some ([.one ((.vs r22.2.length 5 0 2 0)),.one (Cell.bool false)],(r22.2++[Entry.mk 5 [[Cell.int 4,Cell.int i14,Cell.int i15,Cell.int i16,c17],[Cell.int 2,Cell.int i23,Cell.int i24,Cell.int i25,c26]] 0 false])))) none) none) ((lenC c5).bind fun n28=>qsl k m m (.lst true 5 []) (c5) (n28:Int) 0 r4.2)) ((lenC c5).bind fun n58=>qsl k m m (.lst true 5 []) (c5) (n58:Int) 0 r4.2)) none) none
abbrev qjkc (k m:Nat):TB:=evC qemb qhu (evF qemb (k+1)) m (sub [1,1,1,1,0,1,2,3] qhu.code) none
abbrev qjmc (k m:Nat):TK:=qaw 0 (seqK (evC qemb qhu (evF qemb (k+1)) m (sub [1,1,1,1,1] qhu.code) none) (retK qemb qhu))
abbrev qmmc (k m:Nat):TB:=evC qemb qhu (evF qemb (k+1)) m (sub [1,1,1,1,1,0,1,2,3] qhu.code) none
abbrev qjhc (k m:Nat):TK:=qaw 2 (seqK (evC qemb qhu (evF qemb (k+1)) m (sub [1,1,1,1,1,1] qhu.code) none) (retK qemb qhu))
theorem qzlb (k m:Nat):∀ (n:Nat) (c43 c44:Cell) (i45 i46:Int) (H47:List Entry),qbj (some [9,68,69,70]) (qmmc k m) (qjhc k m) n ⟨fT 83 0 [(9,.av (.one (c43))),(68,.av (.one (c44))),(69,.av (.one (Cell.int i45))),(70,.av (.one (Cell.int i46)))],fX 83 0 [],H47⟩=qbrb (k+1) m n c43 c44 i45 i46 H47:=by
 intro n
 induction n with
 | zero=>intros;rfl
 | succ n ih=>intros;simp only[qbrb,← ih];kernel_rfl
theorem qbhc (k m:Nat):∀ (n:Nat) (c29 c30:Cell) (i31 i32:Int) (H33:List Entry),qbj (some [9,51,52,53]) (qjkc k m) (qjmc k m) n ⟨fT 83 0 [(9,.av (.one (c29))),(51,.av (.one (c30))),(52,.av (.one (Cell.int i31))),(53,.av (.one (Cell.int i32)))],fX 83 0 [],H33⟩=qsl (k+1) m n c29 c30 i31 i32 H33:=by
 intro n
 induction n with
 | zero=>intros;rfl
 | succ n ih=>intros;simp only[qsl,← qzlb k m,← ih];kernel_rfl
theorem qokc (k m:Nat)(s1:ByteArray):evC qemb qhu (evF qemb (k+1)) m qhu.code none (retK qemb qhu) (enter qhu [.one (Cell.str s1)] [])=fbn (k+1) m s1:=by
 simp only[fbn,← qbhc k m]
 kernel_rfl
theorem qyp {s1:ByteArray}{r:Res}(k:Nat)(h:fbn (k+1) (k+1) s1=some r):qum [.one (Cell.str s1)] []=some r:=qap (k:=k+2) (Eq.trans (Eq.trans (by kernel_rfl) (qokc k (k+1) s1)) h)
def qtuc:List (Nat×Run):=[(qqd,qfu),(qcxb,qum)]
def qzjb:Ctx:=ctx qbi qbh qtuc
def qwn:Run:=lim qzjb qfbb
theorem ok_fak:FnOk Tryz.prog OkT qfbb qwn:=qao (l:=qtuc) qac tyTab_ok qad okT (.cons qvtb (.cons ok_fbn .nil)) qfbb
def qaqb (k m:Nat):Nat→Cell→Cell→Int→Int→List Entry→Option Res | 0,_,_,_,_,_=>none | n+1,c6,c7,i8,i9,H10=>cond (decide (i9 < i8)) ((idxA 1 (c7) i9).bind fun c11=>(deref H10 (c11)).bind fun p12=>(cS p12.1 p12.2).bind fun s13=>(callL qum [.one (Cell.str s13)] H10).bind fun r14=>cond (qab qvvc r14.1) ((cC (qaa r14.1 0) 0).bind fun c15=>(cB (qaa r14.1 1) 0).bind fun b16=>cond (!b16) (some ([.one (.lst true 1 []),.one (Cell.bool false)],r14.2)) (restK [c15] fun d17=>(qah r14.2 1 (.lst true 1 (chunks 1 1 d17))).bind fun r18=>(app r14.2 1 24 (c6) r18).bind fun p19=>qaqb k m n (p19.1) (c7) i8 (IntKind.i64.wrap (i9+1)) p19.2)) none) (some ([.one (c6),.one (Cell.bool true)],H10))
def fak (k m:Nat)(s1:ByteArray):Option Res:=(qfd qfu [.one (Cell.str s1),.one (Cell.str (bs [124,124]))] []).bind fun r2=>cond (qab qirb r2.1) ((cC (qaa r2.1 0) 0).bind fun c3=>(lenC c3).bind fun n4=>cond (decide ((n4:Int) > 4)) (some ([.one (.lst true 1 []),.one (Cell.bool false)],r2.2)) ((lenC c3).bind fun n5=>qaqb k m m (.lst true 1 []) (c3) (n5:Int) 0 r2.2)) none
abbrev qqvc (k m:Nat):TB:=evC qzjb qmv (evF qzjb (k+1)) m (sub [1,1,1,1,0,1,2,3] qmv.code) none
abbrev qric (k m:Nat):TK:=qaw 0 (seqK (evC qzjb qmv (evF qzjb (k+1)) m (sub [1,1,1,1,1] qmv.code) none) (retK qzjb qmv))
theorem quzb (k m:Nat):∀ (n:Nat) (c6 c7:Cell) (i8 i9:Int) (H10:List Entry),qbj (some [5,15,16,17]) (qqvc k m) (qric k m) n ⟨fT 34 0 [(5,.av (.one (c6))),(15,.av (.one (c7))),(16,.av (.one (Cell.int i8))),(17,.av (.one (Cell.int i9)))],fX 34 0 [],H10⟩=qaqb (k+1) m n c6 c7 i8 i9 H10:=by
 intro n
 induction n with
 | zero=>intros;rfl
 | succ n ih=>intros;simp only[qaqb,← ih];kernel_rfl
theorem qqmc (k m:Nat)(s1:ByteArray):evC qzjb qmv (evF qzjb (k+1)) m qmv.code none (retK qzjb qmv) (enter qmv [.one (Cell.str s1)] [])=fak (k+1) m s1:=by
 simp only[fak,← quzb k m]
 kernel_rfl
theorem qvb {s1:ByteArray}{r:Res}(k:Nat)(h:fak (k+1) (k+1) s1=some r):qwn [.one (Cell.str s1)] []=some r:=qap (k:=k+2) (Eq.trans (Eq.trans (by kernel_rfl) (qqmc k (k+1) s1)) h)
def qwcc:List (Nat×Run):=[(qon,qgk),(qfbb,qwn)]
def qfnd:Ctx:=ctx qbi qbh qwcc
def qyi:Run:=lim qfnd qdjb
theorem ok_fbp:FnOk Tryz.prog OkT qdjb qyi:=qao (l:=qwcc) qac tyTab_ok qad okT (.cons qzpb (.cons ok_fak .nil)) qdjb
def fbp (k m:Nat)(s1 s2:ByteArray):Option Res:=(callL qwn [.one (Cell.str s2)] []).bind fun r3=>cond (qab qbgd r3.1) ((cC (qaa r3.1 0) 0).bind fun c4=>(cB (qaa r3.1 1) 0).bind fun b5=>cond b5 ((qbc qgk [.one (Cell.str s1)] r3.2).bind fun r6=>cond (qab qqgb r6) ((cB (qaa r6 0) 0).bind fun b7=>cond b7 (some ([.one (Cell.bool (decide ((s2.size:Int)≤20)))],r3.2)) (some ([.one (Cell.bool false)],r3.2))) none) (some ([.one (Cell.bool false)],r3.2))) none
theorem qhgc (k m:Nat)(s1 s2:ByteArray):evC qfnd qicb (evF qfnd (k+1)) m qicb.code none (retK qfnd qicb) (enter qicb [.agg [Cell.str s1,Cell.str s2]] [])=fbp (k+1) m s1 s2:=by
 kernel_rfl
theorem qmfb {s1 s2:ByteArray}{r:Res}(k:Nat)(h:fbp (k+1) (k+1) s1 s2=some r):qyi [.agg [Cell.str s1,Cell.str s2]] []=some r:=qap (k:=k+2) (Eq.trans (Eq.trans (by kernel_rfl) (qhgc k (k+1) s1 s2)) h)
def qard:List (Nat×Run):=[(qdjb,qyi)]
def quwb:Ctx:=ctx qbi qbh qard
def qzi:Run:=lim quwb qgcb
theorem ok_fbq:FnOk Tryz.prog OkT qgcb qzi:=qao (l:=qard) qac tyTab_ok qad okT (.cons ok_fbp .nil) qgcb
def qwy (k m:Nat):Nat→Cell→Cell→Int→Int→Option Res | 0,_,_,_,_=>none | n+1,c3,c4,i5,i6=>cond (decide (i6 < i5)) ((idxA 2 (c4) i6).bind fun c7=>(deref [] (c7)).bind fun p8=>(cS p8.1 p8.2).bind fun s9=>(cS p8.1 (p8.2+1)).bind fun s10=>(qbc qyi [.agg [Cell.str s9,Cell.str s10]] []).bind fun r11=>cond (qab qvec r11) ((cB (qaa r11 0) 0).bind fun b12=>cond (!b12) (some ([.one (Cell.bool false)],[])) (cond (decide (i6 > 0)) ((idxA 2 (c3) (IntKind.i64.wrap (i6 - 1))).bind fun c13=>(fldA c13 0).bind fun c14=>(deref [] (c14)).bind fun p15=>(cS p15.1 p15.2).bind fun s16=>cond (Op.bytesLess s9.toList s16.toList||s9.toList==s16.toList) (some ([.one (Cell.bool false)],[])) (qwy k m n (c3) (c4) i5 (IntKind.i64.wrap (i6+1)))) (qwy k m n (c3) (c4) i5 (IntKind.i64.wrap (i6+1))))) none) ((lenC c3).bind fun n17=>some ([.one (Cell.bool (decide ((n17:Int)≤4)))],[]))
def fbq (k m:Nat)(c1:Cell):Option Res:=(lenC c1).bind fun n2=>qwy k m m (c1) (c1) (n2:Int) 0
abbrev qrnc (k m:Nat):TB:=evC quwb qph (evF quwb (k+1)) m (sub [1,0,1,2,3] qph.code) none
abbrev qngc (k m:Nat):TK:=qaw 0 (seqK (evC quwb qph (evF quwb (k+1)) m (sub [1,1] qph.code) none) (retK quwb qph))
theorem qvqb (k m:Nat):∀ (n:Nat) (c3 c4:Cell) (i5 i6:Int),qbj (some [0,5,6,7]) (qrnc k m) (qngc k m) n ⟨fT 34 0 [(0,.av (.one (c3))),(5,.av (.one (c4))),(6,.av (.one (Cell.int i5))),(7,.av (.one (Cell.int i6)))],fX 34 0 [],[]⟩=qwy (k+1) m n c3 c4 i5 i6:=by
 intro n
 induction n with
 | zero=>intros;rfl
 | succ n ih=>intros;simp only[qwy,← ih];kernel_rfl
theorem qmuc (k m:Nat)(c1:Cell):evC quwb qph (evF quwb (k+1)) m qph.code none (retK quwb qph) (enter qph [.one (c1)] [])=fbq (k+1) m c1:=by
 simp only[fbq,← qvqb k m]
 kernel_rfl
theorem qoxb {c1:Cell}{r:Res}(k:Nat)(h:fbq (k+1) (k+1) c1=some r):qzi [.one (c1)] []=some r:=qap (k:=k+2) (Eq.trans (Eq.trans (by kernel_rfl) (qmuc k (k+1) c1)) h)
def qbod:List (Nat×Run):=[(qdub,qxh),(qon,qgk),(qfrb,qrw),(qhnb,qwa),(qgcb,qzi)]
def qxyb:Ctx:=ctx qbi qbh qbod
def qxr:Run:=lim qxyb qgfb
theorem ok_fah:FnOk Tryz.prog OkT qgfb qxr:=qao (l:=qbod) qac tyTab_ok qad okT (.cons ok_fav (.cons qzpb (.cons ok_fbo (.cons ok_fbi (.cons ok_fbq .nil))))) qgfb
def qxp (k m:Nat):Nat→Cell→Int→Int→ByteArray→Cell→Cell→Cell→Option Res | 0,_,_,_,_,_,_,_=>none | n+1,c6,i7,i8,s9,c10,c11,c12=>cond (decide (i8 < i7)) ((idxA 2 (c6) i8).bind fun c13=>(deref [] (c13)).bind fun p14=>(cS p14.1 p14.2).bind fun s15=>(cC p14.1 (p14.2+1)).bind fun c16=>(qbc qxh [.agg [Cell.str s15,c16]] []).bind fun r17=>cond (qab qbtd r17) ((cB (qaa r17 0) 0).bind fun b18=>cond (!b18) (some ([.one (Cell.bool false)],[])) (cond (decide (i8 > 0)) ((idxA 2 (c12) (IntKind.i64.wrap (i8 - 1))).bind fun c19=>(fldA c19 0).bind fun c20=>(deref [] (c20)).bind fun p21=>(cS p21.1 p21.2).bind fun s22=>cond (Op.bytesLess s15.toList s22.toList||s15.toList==s22.toList) (some ([.one (Cell.bool false)],[])) (qxp k m n (c6) i7 (IntKind.i64.wrap (i8+1)) s9 (c10) (c11) (c12))) (qxp k m n (c6) i7 (IntKind.i64.wrap (i8+1)) s9 (c10) (c11) (c12)))) none) ((qbc qgk [.one (Cell.str s9)] []).bind fun r23=>cond (qab qqgb r23) ((cB (qaa r23 0) 0).bind fun b24=>cond b24 ((qbc qrw [.one (c10),.one (Cell.int 4)] []).bind fun r25=>cond (qab qtpc r25) ((cB (qaa r25 0) 0).bind fun b26=>cond b26 ((qbc qwa [.one (c10)] []).bind fun r27=>cond (qab qwac r27) ((cB (qaa r27 0) 0).bind fun b28=>cond b28 ((qbc qzi [.one (c11)] []).bind fun r29=>cond (qab quyc r29) ((cB (qaa r29 0) 0).bind fun b30=>cond b30 ((lenC c12).bind fun n31=>some ([.one (Cell.bool (decide ((n31:Int)≤4)))],[])) (some ([.one (Cell.bool false)],[]))) none) (some ([.one (Cell.bool false)],[]))) none) (some ([.one (Cell.bool false)],[]))) none) (some ([.one (Cell.bool false)],[]))) none)
def fah (k m:Nat)(s1:ByteArray)(c2 c3 c4:Cell):Option Res:=(lenC c4).bind fun n5=>qxp k m m (c4) (n5:Int) 0 s1 (c2) (c3) (c4)
abbrev qmxc (k m:Nat):TB:=evC qxyb qmg (evF qxyb (k+1)) m (sub [1,0,1,2,3] qmg.code) none
abbrev qgfc (k m:Nat):TK:=qaw 0 (seqK (evC qxyb qmg (evF qxyb (k+1)) m (sub [1,1] qmg.code) none) (retK qxyb qmg))
theorem qvkb (k m:Nat):∀ (n:Nat) (c6:Cell) (i7 i8:Int) (s9:ByteArray) (c10 c11 c12:Cell),qbj (some [1,6,7,8]) (qmxc k m) (qgfc k m) n ⟨fT 57 0 [(1,.loc 1 0),(6,.av (.one (c6))),(7,.av (.one (Cell.int i7))),(8,.av (.one (Cell.int i8)))],fX 57 0 [(1,[Cell.str s9,c10,c11,c12])],[]⟩=qxp (k+1) m n c6 i7 i8 s9 c10 c11 c12:=by
 intro n
 induction n with
 | zero=>intros;rfl
 | succ n ih=>intros;simp only[qxp,← ih];kernel_rfl
theorem qnfc (k m:Nat)(s1:ByteArray)(c2 c3 c4:Cell):evC qxyb qmg (evF qxyb (k+1)) m qmg.code none (retK qxyb qmg) (enter qmg [.agg [Cell.str s1,c2,c3,c4]] [])=fah (k+1) m s1 c2 c3 c4:=by
 simp only[fah,← qvkb k m]
 kernel_rfl
theorem qrpb {s1:ByteArray}{c2 c3 c4:Cell}{r:Res}(k:Nat)(h:fah (k+1) (k+1) s1 c2 c3 c4=some r):qxr [.agg [Cell.str s1,c2,c3,c4]] []=some r:=qap (k:=k+2) (Eq.trans (Eq.trans (by kernel_rfl) (qnfc k (k+1) s1 c2 c3 c4)) h)
def qskc:List (Nat×Run):=[(qvz,qpu),(qgfb,qxr)]
def qiib:Ctx:=ctx qbi qbh qskc
def qvx:Run:=lim qiib qhdb
theorem ok_fai:FnOk Tryz.prog OkT qhdb qvx:=qao (l:=qskc) qac tyTab_ok qad okT (.cons qwtc (.cons ok_fah .nil)) qhdb
def qtl (k m:Nat)(b_l0:Cell→Cell→Int→Int→Option Res):Nat→Cell→Cell→Int→Int→Cell→Int→Int→ByteArray→Cell→Cell→Cell→Option Res | 0,_,_,_,_,_,_,_,_,_,_,_=>none | n+1,c20,c21,i22,i23,c24,i25,i26,s27,c28,c29,c30=>cond (decide (i26 < i25)) ((idxA 1 (c24) i26).bind fun c31=>(deref [] (c31)).bind fun p32=>(cS p32.1 p32.2).bind fun s33=>cond (s33.toList==s27.toList) (some ([.one (Cell.bool false)],[])) ((qbc qpu [.one (c20),.one (Cell.str s33)] []).bind fun r34=>cond (qab qjsc r34) ((cI .i64 (qaa r34 0) 0).bind fun i35=>cond (decide (i35 < 0)) (some ([.one (Cell.bool false)],[])) (qtl k m b_l0 n (c20) (c21) i22 i23 (c24) i25 (IntKind.i64.wrap (i26+1)) s27 (c28) (c29) (c30))) none)) (b_l0 (c20) (c21) i22 (IntKind.i64.wrap (i23+1)))
def qxn (k m:Nat):Nat→Cell→Cell→Int→Int→Option Res | 0,_,_,_,_=>none | n+1,c3,c4,i5,i6=>cond (decide (i6 < i5)) ((idxA 4 (c4) i6).bind fun c7=>(deref [] (c7)).bind fun p8=>(cS p8.1 p8.2).bind fun s9=>(cC p8.1 (p8.2+1)).bind fun c10=>(cC p8.1 ((p8.2+1)+1)).bind fun c11=>(cC p8.1 (((p8.2+1)+1)+1)).bind fun c12=>(qbc qxr [.agg [Cell.str s9,c10,c11,c12]] []).bind fun r13=>cond (qab qajd r13) ((cB (qaa r13 0) 0).bind fun b14=>cond (!b14) (some ([.one (Cell.bool false)],[])) (cond (decide (i6 > 0)) ((idxA 4 (c3) (IntKind.i64.wrap (i6 - 1))).bind fun c15=>(fldA c15 0).bind fun c16=>(deref [] (c16)).bind fun p17=>(cS p17.1 p17.2).bind fun s18=>cond (Op.bytesLess s9.toList s18.toList||s9.toList==s18.toList) (some ([.one (Cell.bool false)],[])) ((lenC c10).bind fun n19=>qtl k m (qxn k m n) m (c3) (c4) i5 i6 (c10) (n19:Int) 0 s9 (c10) (c11) (c12))) ((lenC c10).bind fun n36=>qtl k m (qxn k m n) m (c3) (c4) i5 i6 (c10) (n36:Int) 0 s9 (c10) (c11) (c12)))) none) ((lenC c3).bind fun n37=>some ([.one (Cell.bool (decide ((n37:Int)≤6)))],[]))
def fai (k m:Nat)(c1:Cell):Option Res:=(lenC c1).bind fun n2=>qxn k m m (c1) (c1) (n2:Int) 0
abbrev qcrb (k m:Nat):TB:=evC qiib qig (evF qiib (k+1)) m (sub [1,0,1,2,3] qig.code) none
abbrev qsx (k m:Nat):TK:=qaw 0 (seqK (evC qiib qig (evF qiib (k+1)) m (sub [1,1] qig.code) none) (retK qiib qig))
abbrev qodc (k m:Nat):TB:=evC qiib qig (evF qiib (k+1)) m (sub [1,0,1,2,3,1,1,0,2,1,1,1,2,3] qig.code) none
abbrev qkdc (k m:Nat)(n_l0:Nat):TK:=qaw 2 (qaw 1 (seqK (evC qiib qig (evF qiib (k+1)) m (sub [1,0,1,2,3,1,1,1] qig.code) none) (qetb (fun s=>qbj (some [0,7,8,9]) (qcrb k m) (qsx k m) n_l0 (qmf (some [0,7,8,9]) s)) (qsx k m))))
theorem qdpc (k m:Nat)(b_l0:Cell→Cell→Int→Int→Option Res)(n_l0:Nat)(h_l0:∀ (c3 c4:Cell) (i5 i6:Int),qbj (some [0,7,8,9]) (qcrb k m) (qsx k m) n_l0 ⟨fT 54 0 [(0,.av (.one (c3))),(7,.av (.one (c4))),(8,.av (.one (Cell.int i5))),(9,.av (.one (Cell.int i6)))],fX 54 0 [],[]⟩=b_l0 c3 c4 i5 i6):∀ (n:Nat) (c20 c21:Cell) (i22 i23:Int) (c24:Cell) (i25 i26:Int) (s27:ByteArray) (c28 c29 c30:Cell),qbj (some [0,4,7,8,9,33,34,35]) (qodc k m) (qkdc k m n_l0) n ⟨fT 54 0 [(0,.av (.one (c20))),(4,.loc 4 0),(7,.av (.one (c21))),(8,.av (.one (Cell.int i22))),(9,.av (.one (Cell.int i23))),(33,.av (.one (c24))),(34,.av (.one (Cell.int i25))),(35,.av (.one (Cell.int i26)))],fX 54 0 [(4,[Cell.str s27,c28,c29,c30])],[]⟩=qtl (k+1) m b_l0 n c20 c21 i22 i23 c24 i25 i26 s27 c28 c29 c30:=by
 intro n
 induction n with
 | zero=>intros;rfl
 | succ n ih=>intros;simp only[qtl,← h_l0,← ih];kernel_rfl
theorem qszb (k m:Nat):∀ (n:Nat) (c3 c4:Cell) (i5 i6:Int),qbj (some [0,7,8,9]) (qcrb k m) (qsx k m) n ⟨fT 54 0 [(0,.av (.one (c3))),(7,.av (.one (c4))),(8,.av (.one (Cell.int i5))),(9,.av (.one (Cell.int i6)))],fX 54 0 [],[]⟩=qxn (k+1) m n c3 c4 i5 i6:=by
 intro n
 induction n with
 | zero=>intros;rfl
 | succ n ih=>intros;simp only[qxn,← qdpc k m _ _ (ih)];kernel_rfl
theorem qnvc (k m:Nat)(c1:Cell):evC qiib qig (evF qiib (k+1)) m qig.code none (retK qiib qig) (enter qig [.one (c1)] [])=fai (k+1) m c1:=by
 simp only[fai,← qszb k m]
 kernel_rfl
theorem qrub {c1:Cell}{r:Res}(k:Nat)(h:fai (k+1) (k+1) c1=some r):qvx [.one (c1)] []=some r:=qap (k:=k+2) (Eq.trans (Eq.trans (by kernel_rfl) (qnvc k (k+1) c1)) h)
def qxdc:List (Nat×Run):=[]
def qaqc:Ctx:=ctx qbi qbh qxdc
def qpb:Run:=lim qaqc qxk
theorem quec:FnOk Tryz.prog OkT qxk qpb:=qao (l:=qxdc) qac tyTab_ok qad okT .nil qxk
def qaub (k m:Nat):Nat→Cell→Int→Int→List Entry→Option Res | 0,_,_,_,_=>none | n+1,c3,i4,i5,H6=>(lenC c3).bind fun n7=>cond (decide (i5 < (n7:Int))) (cond (decide (i5 < 4000)) ((idxA 1 (c3) i5).bind fun c8=>(deref H6 (c8)).bind fun p9=>(cI .u8 p9.1 p9.2).bind fun i10=>qaub k m n (c3) (andI .i64 (IntKind.i64.wrap ((IntKind.i64.wrap ((IntKind.i64.wrap (i4*137))+(IntKind.i64.wrap i10)))+11)) 1073741823) (IntKind.i64.wrap (i5+1)) H6) (some ([.one (.ptr H6.length 3 0 0 0)],(H6++[Entry.mk 3 [[c3,Cell.int 0,Cell.int i4]] 0 false])))) (some ([.one (.ptr H6.length 3 0 0 0)],(H6++[Entry.mk 3 [[c3,Cell.int 0,Cell.int i4]] 0 false])))
def fdp (k m:Nat)(c1:Cell)(H:List Entry):Option Res:=(lenC c1).bind fun n2=>qaub k m m (c1) (IntKind.i64.wrap (778778+(n2:Int))) 0 H
abbrev qkzc (k m:Nat):TB:=evC qaqc qpg (evF qaqc (k+1)) m (sub [1,1,0,1,2,3] qpg.code) none
abbrev qlmc (k m:Nat):TK:=qaw 0 (seqK (evC qaqc qpg (evF qaqc (k+1)) m (sub [1,1,1] qpg.code) none) (retK qaqc qpg))
theorem qwnb (k m:Nat):∀ (n:Nat) (c3:Cell) (i4 i5:Int) (H6:List Entry),qbj (some [0,3,4]) (qkzc k m) (qlmc k m) n ⟨fT 32 0 [(0,.av (.one (c3))),(3,.av (.one (Cell.int i4))),(4,.av (.one (Cell.int i5)))],fX 32 0 [],H6⟩=qaub (k+1) m n c3 i4 i5 H6:=by
 intro n
 induction n with
 | zero=>intros;rfl
 | succ n ih=>intros;simp only[qaub,← ih];kernel_rfl
theorem qiec (k m:Nat)(c1:Cell)(H:List Entry):evC qaqc qpg (evF qaqc (k+1)) m qpg.code none (retK qaqc qpg) (enter qpg [.one (c1)] H)=fdp (k+1) m c1 H:=by
 simp only[fdp,← qwnb k m]
 kernel_rfl
theorem qngb {c1:Cell}{H:List Entry}{r:Res}(k:Nat)(h:fdp (k+1) (k+1) c1 H=some r):qpb [.one (c1)] H=some r:=qap (k:=k+2) (Eq.trans (Eq.trans (by kernel_rfl) (qiec k (k+1) c1 H)) h)
def qdbd:List (Nat×Run):=[]
def qdld:Ctx:=ctx qbi qbh qdbd
def qlo:Run:=lim qdld qhib
theorem ok_fdm:FnOk Tryz.prog OkT qhib qlo:=qao (l:=qdbd) qac tyTab_ok qad okT .nil qhib
def fdm (k m:Nat)(c1:Cell)(H:List Entry):Option Res:=(ptrC c1).bind fun c2=>(fldA c2 2).bind fun c3=>(deref H (c3)).bind fun p4=>(cI .i64 p4.1 p4.2).bind fun i5=>(ptrC c1).bind fun c6=>(fldA c6 2).bind fun c7=>(qbu H (c7) [Cell.int (IntKind.i64.wrap ((IntKind.i64.wrap (i5*6364136223846793005))+1442695040888963407))]).bind fun h8=>(ptrC c1).bind fun c9=>(fldA c9 2).bind fun c10=>(deref h8 (c10)).bind fun p11=>(cI .i64 p11.1 p11.2).bind fun i12=>(ptrC c1).bind fun c13=>(fldA c13 2).bind fun c14=>(deref h8 (c14)).bind fun p15=>(cI .i64 p15.1 p15.2).bind fun i16=>(ptrC c1).bind fun c17=>(fldA c17 1).bind fun c18=>(deref h8 (c18)).bind fun p19=>(cI .i64 p19.1 p19.2).bind fun i20=>(ptrC c1).bind fun c21=>(fldA c21 0).bind fun c22=>(deref h8 (c22)).bind fun p23=>(cC p23.1 p23.2).bind fun c24=>(lenC c24).bind fun n25=>cond (decide (i20 < (n25:Int))) ((ptrC c1).bind fun c26=>(fldA c26 0).bind fun c27=>(deref h8 (c27)).bind fun p28=>(cC p28.1 p28.2).bind fun c29=>(ptrC c1).bind fun c30=>(fldA c30 1).bind fun c31=>(deref h8 (c31)).bind fun p32=>(cI .i64 p32.1 p32.2).bind fun i33=>(idxA 1 (c29) i33).bind fun c34=>(deref h8 (c34)).bind fun p35=>(cI .u8 p35.1 p35.2).bind fun i36=>(ptrC c1).bind fun c37=>(fldA c37 1).bind fun c38=>(deref h8 (c38)).bind fun p39=>(cI .i64 p39.1 p39.2).bind fun i40=>(ptrC c1).bind fun c41=>(fldA c41 1).bind fun c42=>(qbu h8 (c42) [Cell.int (IntKind.i64.wrap (i40+1))]).bind fun h43=>some ([.one (Cell.int (andI .i64 (IntKind.i64.wrap ((andI .i64 (xorI .i64 (shrI .i64 i12 33) (shrI .i64 i16 47)) 255)+(IntKind.i64.wrap i36))) 255))],h43)) (some ([.one (Cell.int (andI .i64 (xorI .i64 (shrI .i64 i12 33) (shrI .i64 i16 47)) 255))],h8))
theorem qjwc (k m:Nat)(c1:Cell)(H:List Entry):evC qdld qkcb (evF qdld (k+1)) m qkcb.code none (retK qdld qkcb) (enter qkcb [.one (c1)] H)=fdm (k+1) m c1 H:=by
 kernel_rfl
theorem qwi {c1:Cell}{H:List Entry}{r:Res}(k:Nat)(h:fdm (k+1) (k+1) c1 H=some r):qlo [.one (c1)] H=some r:=qap (k:=k+2) (Eq.trans (Eq.trans (by kernel_rfl) (qjwc k (k+1) c1 H)) h)
def qvmc:List (Nat×Run):=[(qhib,qlo)]
def qdqd:Ctx:=ctx qbi qbh qvmc
def qdc:Run:=lim qdqd qgv
theorem qzr:FnOk Tryz.prog OkT qgv qdc:=qao (l:=qvmc) qac tyTab_ok qad okT (.cons ok_fdm .nil) qgv
def fdl (k m:Nat)(c1:Cell)(i2:Int)(H:List Entry):Option Res:=cond (decide (i2≤0)) (some ([.one (Cell.int 0)],H)) (cond (decide (i2≤256)) ((qlo [.one (c1)] H).bind fun r3=>cond (qab qmwb r3.1) ((cI .i64 (qaa r3.1 0) 0).bind fun i4=>if i2=0 then none else some ([.one (Cell.int (i4.tmod i2))],r3.2)) none) ((qlo [.one (c1)] H).bind fun r5=>cond (qab qmwb r5.1) ((cI .i64 (qaa r5.1 0) 0).bind fun i6=>(qlo [.one (c1)] r5.2).bind fun r7=>cond (qab qmwb r7.1) ((cI .i64 (qaa r7.1 0) 0).bind fun i8=>(qlo [.one (c1)] r7.2).bind fun r9=>cond (qab qmwb r9.1) ((cI .i64 (qaa r9.1 0) 0).bind fun i10=>if i2=0 then none else some ([.one (Cell.int ((IntKind.i64.wrap ((IntKind.i64.wrap ((IntKind.i64.wrap (i6*65536))+(IntKind.i64.wrap (i8*256))))+i10)).tmod i2))],r9.2)) none) none) none))
theorem qgoc (k m:Nat)(c1:Cell)(i2:Int)(H:List Entry):evC qdqd qjbb (evF qdqd (k+1)) m qjbb.code none (retK qdqd qjbb) (enter qjbb [.one (c1),.one (Cell.int i2)] H)=fdl (k+1) m c1 i2 H:=by
 kernel_rfl
theorem qwm {c1:Cell}{i2:Int}{H:List Entry}{r:Res}(k:Nat)(h:fdl (k+1) (k+1) c1 i2 H=some r):qdc [.one (c1),.one (Cell.int i2)] H=some r:=qap (k:=k+2) (Eq.trans (Eq.trans (by kernel_rfl) (qgoc k (k+1) c1 i2 H)) h)
def qzxc:List (Nat×Run):=[(qgv,qdc)]
def qdrd:Ctx:=ctx qbi qbh qzxc
def qcp:Run:=lim qdrd qjk
theorem qkqb:FnOk Tryz.prog OkT qjk qcp:=qao (l:=qzxc) qac tyTab_ok qad okT (.cons qzr .nil) qjk
def fdr (k m:Nat)(c1 c2:Cell)(H:List Entry):Option Res:=(lenC c2).bind fun n3=>(qdc [.one (c1),.one (Cell.int (n3:Int))] H).bind fun r4=>cond (qab qql r4.1) ((cI .i64 (qaa r4.1 0) 0).bind fun i5=>(idxA 1 (c2) i5).bind fun c6=>(deref r4.2 (c6)).bind fun p7=>(cS p7.1 p7.2).bind fun s8=>some ([.one (Cell.str s8)],r4.2)) none
theorem qoac (k m:Nat)(c1 c2:Cell)(H:List Entry):evC qdrd qisb (evF qdrd (k+1)) m qisb.code none (retK qdrd qisb) (enter qisb [.one (c1),.one (c2)] H)=fdr (k+1) m c1 c2 H:=by
 kernel_rfl
theorem quk {c1 c2:Cell}{H:List Entry}{r:Res}(k:Nat)(h:fdr (k+1) (k+1) c1 c2 H=some r):qcp [.one (c1),.one (c2)] H=some r:=qap (k:=k+2) (Eq.trans (Eq.trans (by kernel_rfl) (qoac k (k+1) c1 c2 H)) h)
def qcwd:List (Nat×Run):=[(qgv,qdc)]
def qezd:Ctx:=ctx qbi qbh qcwd
def qfl:Run:=lim qezd qnu
theorem qzib:FnOk Tryz.prog OkT qnu qfl:=qao (l:=qcwd) qac tyTab_ok qad okT (.cons qzr .nil) qnu
def fdq (k m:Nat)(c1:Cell)(i2:Int)(H:List Entry):Option Res:=(qdc [.one (c1),.one (Cell.int i2)] H).bind fun r3=>cond (qab qql r3.1) ((cI .i64 (qaa r3.1 0) 0).bind fun i4=>some ([.one (Cell.bool (i4==0))],r3.2)) none
theorem qiyc (k m:Nat)(c1:Cell)(i2:Int)(H:List Entry):evC qezd qkgb (evF qezd (k+1)) m qkgb.code none (retK qezd qkgb) (enter qkgb [.one (c1),.one (Cell.int i2)] H)=fdq (k+1) m c1 i2 H:=by
 kernel_rfl
theorem qltb {c1:Cell}{i2:Int}{H:List Entry}{r:Res}(k:Nat)(h:fdq (k+1) (k+1) c1 i2 H=some r):qfl [.one (c1),.one (Cell.int i2)] H=some r:=qap (k:=k+2) (Eq.trans (Eq.trans (by kernel_rfl) (qiyc k (k+1) c1 i2 H)) h)
def qzdc:List (Nat×Run):=[(qjk,qcp)]
def qejd:Ctx:=ctx qbi qbh qzdc
def qye:Run:=lim qejd qgkb
theorem ok_fdy:FnOk Tryz.prog OkT qgkb qye:=qao (l:=qzdc) qac tyTab_ok qad okT (.cons qkqb .nil) qgkb
def fdy (k m:Nat)(c1:Cell)(H:List Entry):Option Res:=(qcp [.one (c1),.one (.lst true 1 [[Cell.str (bs [108,105,98])],[Cell.str (bs [108,111,103])],[Cell.str (bs [110,101,116])],[Cell.str (bs [122,105,112])]])] H).bind fun r2=>cond (qab qjl r2.1) ((cS (qaa r2.1 0) 0).bind fun s3=>(qcp [.one (c1),.one (.lst true 1 [[Cell.str (bs [42])],[Cell.str (bs [94,49,46,48,46,48])],[Cell.str (bs [126,49,46,49])],[Cell.str (bs [62,61,49])],[Cell.str (bs [60,50])],[Cell.str (bs [49,46,120])],[Cell.str (bs [48,46,120,32,124,124,32,50,46,120])],[Cell.str (bs [94,48,46,49,46,48])]])] r2.2).bind fun r4=>cond (qab qjl r4.1) ((cS (qaa r4.1 0) 0).bind fun s5=>some ([.agg [Cell.str s3,Cell.str s5]],r4.2)) none) none
theorem qjbc (k m:Nat)(c1:Cell)(H:List Entry):evC qejd qiob (evF qejd (k+1)) m qiob.code none (retK qejd qiob) (enter qiob [.one (c1)] H)=fdy (k+1) m c1 H:=by
 kernel_rfl
theorem qnpb {c1:Cell}{H:List Entry}{r:Res}(k:Nat)(h:fdy (k+1) (k+1) c1 H=some r):qye [.one (c1)] H=some r:=qap (k:=k+2) (Eq.trans (Eq.trans (by kernel_rfl) (qjbc k (k+1) c1 H)) h)
def qwfc:List (Nat×Run):=[(qgv,qdc),(qgkb,qye)]
def qchb:Ctx:=ctx qbi qbh qwfc
def quh:Run:=lim qchb qdyb
theorem ok_fdx:FnOk Tryz.prog OkT qdyb quh:=qao (l:=qwfc) qac tyTab_ok qad okT (.cons qzr (.cons ok_fdy .nil)) qdyb
def qaxb (k m:Nat)(b_l0:Cell→Cell→Int→List Entry→Option Res):Nat→Cell→Cell→Int→Int→ByteArray→ByteArray→List Entry→Option Res | 0,_,_,_,_,_,_,_=>none | n+1,c11,c12,i13,i14,s15,s16,H17=>(lenC c12).bind fun n18=>cond (decide (i14 < (n18:Int))) ((idxA 2 (c12) i14).bind fun c19=>(fldA c19 0).bind fun c20=>(deref H17 (c20)).bind fun p21=>(cS p21.1 p21.2).bind fun s22=>cond (Op.bytesLess s22.toList s15.toList) (qaxb k m b_l0 n (c11) (c12) i13 (IntKind.i64.wrap (i14+1)) s15 s16 H17) ((lenC c12).bind fun n23=>cond (i14==(n23:Int)) ((slcC 2 (c12) i14 none none).bind fun c24=>(qah H17 2 c24).bind fun r25=>(app H17 2 32 (.lst true 2 []) r25).bind fun p26=>(slcC 2 (c12) 0 (some i14) none).bind fun c27=>(qah p26.2 2 c27).bind fun r28=>(app p26.2 2 32 (.lst true 2 []) r28).bind fun p29=>(app p29.2 2 32 (p29.1) [[Cell.str s15,Cell.str s16]]).bind fun p30=>(qah p30.2 2 p26.1).bind fun r31=>(app p30.2 2 32 (p30.1) r31).bind fun p32=>b_l0 (c11) (p32.1) (IntKind.i64.wrap (i13 - 1)) p32.2) ((idxA 2 (c12) i14).bind fun c33=>(fldA c33 0).bind fun c34=>(deref H17 (c34)).bind fun p35=>(cS p35.1 p35.2).bind fun s36=>cond (!(s36.toList==s15.toList)) ((slcC 2 (c12) i14 none none).bind fun c37=>(qah H17 2 c37).bind fun r38=>(app H17 2 32 (.lst true 2 []) r38).bind fun p39=>(slcC 2 (c12) 0 (some i14) none).bind fun c40=>(qah p39.2 2 c40).bind fun r41=>(app p39.2 2 32 (.lst true 2 []) r41).bind fun p42=>(app p42.2 2 32 (p42.1) [[Cell.str s15,Cell.str s16]]).bind fun p43=>(qah p43.2 2 p39.1).bind fun r44=>(app p43.2 2 32 (p43.1) r44).bind fun p45=>b_l0 (c11) (p45.1) (IntKind.i64.wrap (i13 - 1)) p45.2) (b_l0 (c11) (c12) (IntKind.i64.wrap (i13 - 1)) H17)))) ((lenC c12).bind fun n46=>cond (i14==(n46:Int)) ((slcC 2 (c12) i14 none none).bind fun c47=>(qah H17 2 c47).bind fun r48=>(app H17 2 32 (.lst true 2 []) r48).bind fun p49=>(slcC 2 (c12) 0 (some i14) none).bind fun c50=>(qah p49.2 2 c50).bind fun r51=>(app p49.2 2 32 (.lst true 2 []) r51).bind fun p52=>(app p52.2 2 32 (p52.1) [[Cell.str s15,Cell.str s16]]).bind fun p53=>(qah p53.2 2 p49.1).bind fun r54=>(app p53.2 2 32 (p53.1) r54).bind fun p55=>b_l0 (c11) (p55.1) (IntKind.i64.wrap (i13 - 1)) p55.2) ((idxA 2 (c12) i14).bind fun c56=>(fldA c56 0).bind fun c57=>(deref H17 (c57)).bind fun p58=>(cS p58.1 p58.2).bind fun s59=>cond (!(s59.toList==s15.toList)) ((slcC 2 (c12) i14 none none).bind fun c60=>(qah H17 2 c60).bind fun r61=>(app H17 2 32 (.lst true 2 []) r61).bind fun p62=>(slcC 2 (c12) 0 (some i14) none).bind fun c63=>(qah p62.2 2 c63).bind fun r64=>(app p62.2 2 32 (.lst true 2 []) r64).bind fun p65=>(app p65.2 2 32 (p65.1) [[Cell.str s15,Cell.str s16]]).bind fun p66=>(qah p66.2 2 p62.1).bind fun r67=>(app p66.2 2 32 (p66.1) r67).bind fun p68=>b_l0 (c11) (p68.1) (IntKind.i64.wrap (i13 - 1)) p68.2) (b_l0 (c11) (c12) (IntKind.i64.wrap (i13 - 1)) H17)))
def qyx (k m:Nat):Nat→Cell→Cell→Int→List Entry→Option Res | 0,_,_,_,_=>none | n+1,c4,c5,i6,H7=>cond (decide (i6 > 0)) ((qye [.one (c4)] H7).bind fun r8=>cond (qab qwgc r8.1) ((cS (qaa r8.1 0) 0).bind fun s9=>(cS (qaa r8.1 0) 1).bind fun s10=>qaxb k m (qyx k m n) m (c4) (c5) i6 0 s9 s10 r8.2) none) (some ([.one (c5)],H7))
def fdx (k m:Nat)(c1:Cell)(H:List Entry):Option Res:=(qdc [.one (c1),.one (Cell.int 3)] H).bind fun r2=>cond (qab qql r2.1) ((cI .i64 (qaa r2.1 0) 0).bind fun i3=>qyx k m m (c1) (.lst true 2 []) i3 r2.2) none
abbrev qbnb (k m:Nat):TB:=evC qchb qha (evF qchb (k+1)) m (sub [1,1,0,1,2,3] qha.code) none
abbrev qsk (k m:Nat):TK:=qaw 0 (seqK (evC qchb qha (evF qchb (k+1)) m (sub [1,1,1] qha.code) none) (retK qchb qha))
abbrev qphc (k m:Nat):TB:=evC qchb qha (evF qchb (k+1)) m (sub [1,1,0,1,2,3,1,0,2,1,1,0,2,3] qha.code) none
abbrev qfvc (k m:Nat)(n_l0:Nat):TK:=qaw 2 (seqK (evC qchb qha (evF qchb (k+1)) m (sub [1,1,0,1,2,3,1,0,2,1,1,1] qha.code) none) (qaw 1 (seqK (evC qchb qha (evF qchb (k+1)) m (sub [1,1,0,1,2,3,1,1] qha.code) none) (qetb (fun s=>qbj (some [0,3,4]) (qbnb k m) (qsk k m) n_l0 (qmf (some [0,3,4]) s)) (qsk k m)))))
theorem qwzb (k m:Nat)(b_l0:Cell→Cell→Int→List Entry→Option Res)(n_l0:Nat)(h_l0:∀ (c4 c5:Cell) (i6:Int) (H7:List Entry),qbj (some [0,3,4]) (qbnb k m) (qsk k m) n_l0 ⟨fT 63 0 [(0,.av (.one (c4))),(3,.av (.one (c5))),(4,.av (.one (Cell.int i6)))],fX 63 0 [],H7⟩=b_l0 c4 c5 i6 H7):∀ (n:Nat) (c11 c12:Cell) (i13 i14:Int) (s15 s16:ByteArray) (H17:List Entry),qbj (some [0,3,4,5,6]) (qphc k m) (qfvc k m n_l0) n ⟨fT 63 0 [(0,.av (.one (c11))),(3,.av (.one (c12))),(4,.av (.one (Cell.int i13))),(5,.loc 5 0),(6,.av (.one (Cell.int i14)))],fX 63 0 [(5,[Cell.str s15,Cell.str s16])],H17⟩=qaxb (k+1) m b_l0 n c11 c12 i13 i14 s15 s16 H17:=by
 intro n
 induction n with
 | zero=>intros;rfl
 | succ n ih=>intros;simp only[qaxb,← h_l0,← ih];kernel_rfl
theorem qtfb (k m:Nat):∀ (n:Nat) (c4 c5:Cell) (i6:Int) (H7:List Entry),qbj (some [0,3,4]) (qbnb k m) (qsk k m) n ⟨fT 63 0 [(0,.av (.one (c4))),(3,.av (.one (c5))),(4,.av (.one (Cell.int i6)))],fX 63 0 [],H7⟩=qyx (k+1) m n c4 c5 i6 H7:=by
 intro n
 induction n with
 | zero=>intros;rfl
 | succ n ih=>intros;simp only[qyx,← qwzb k m _ _ (ih)];kernel_rfl
theorem qqcc (k m:Nat)(c1:Cell)(H:List Entry):evC qchb qha (evF qchb (k+1)) m qha.code none (retK qchb qha) (enter qha [.one (c1)] H)=fdx (k+1) m c1 H:=by
 simp only[fdx,← qtfb k m]
 kernel_rfl
theorem qphb {c1:Cell}{H:List Entry}{r:Res}(k:Nat)(h:fdx (k+1) (k+1) c1 H=some r):quh [.one (c1)] H=some r:=qap (k:=k+2) (Eq.trans (Eq.trans (by kernel_rfl) (qqcc k (k+1) c1 H)) h)
def qsqc:List (Nat×Run):=[(qjk,qcp)]
def qehd:Ctx:=ctx qbi qbh qsqc
def qxl:Run:=lim qehd qeqb
theorem ok_fdt:FnOk Tryz.prog OkT qeqb qxl:=qao (l:=qsqc) qac tyTab_ok qad okT (.cons qkqb .nil) qeqb
def fdt (k m:Nat)(c1:Cell)(s2:ByteArray)(H:List Entry):Option Res:=(catS (bs [99,97,116,32]) s2).bind fun s3=>(catS s3 (bs [47,120,32,62,32,111])).bind fun s4=>(catS (bs [99,97,116,32]) s2).bind fun s5=>(catS s5 (bs [47,120,32])).bind fun s6=>(catS s6 s2).bind fun s7=>(catS s7 (bs [47,121,32,62,32,112])).bind fun s8=>(qcp [.one (c1),.one (.lst true 1 [[Cell.str (bs [112,117,116,32,104,105,32,62,32,111])],[Cell.str s4],[Cell.str s8],[Cell.str (bs [101,110,118,32,109,111,100,101,32,62,32,101])],[Cell.str (bs [117,115,101,32,97,35,98,117,105,108,100,32,111,32,62,32,113])],[Cell.str (bs [117,115,101,32,98,35,98,117,105,108,100,32,111,32,62,32,113])],[Cell.str (bs [108,111,103,32,100,111,110,101])],[Cell.str (bs [108,111,103,32,120,32,121])],[Cell.str (bs [102,97,105,108])],[Cell.str (bs [119,104,97,116])],[Cell.str (bs [112,117,116,32,62,32,114])]])] H).bind fun r9=>cond (qab qjl r9.1) ((cS (qaa r9.1 0) 0).bind fun s10=>some ([.one (Cell.str s10)],r9.2)) none
theorem qhyc (k m:Nat)(c1:Cell)(s2:ByteArray)(H:List Entry):evC qehd qiyb (evF qehd (k+1)) m qiyb.code none (retK qehd qiyb) (enter qiyb [.one (c1),.one (Cell.str s2)] H)=fdt (k+1) m c1 s2 H:=by
 kernel_rfl
theorem qofb {c1:Cell}{s2:ByteArray}{H:List Entry}{r:Res}(k:Nat)(h:fdt (k+1) (k+1) c1 s2 H=some r):qxl [.one (c1),.one (Cell.str s2)] H=some r:=qap (k:=k+2) (Eq.trans (Eq.trans (by kernel_rfl) (qhyc k (k+1) c1 s2 H)) h)
def qurc:List (Nat×Run):=[(qjk,qcp),(qgv,qdc),(qeqb,qxl)]
def qvrb:Ctx:=ctx qbi qbh qurc
def qoq:Run:=lim qvrb qezb
theorem ok_fdv:FnOk Tryz.prog OkT qezb qoq:=qao (l:=qurc) qac tyTab_ok qad okT (.cons qkqb (.cons qzr (.cons ok_fdt .nil))) qezb
def qbwb (k m:Nat):Nat→Cell→ByteArray→Int→ByteArray→Cell→List Entry→Option Res | 0,_,_,_,_,_,_=>none | n+1,c11,s12,i13,s14,c15,H16=>cond (decide (i13 > 0)) ((qxl [.one (c11),.one (Cell.str s12)] H16).bind fun r17=>cond (qab qakd r17.1) ((cS (qaa r17.1 0) 0).bind fun s18=>(qah (r17.2++[Entry.mk 1 [[Cell.str s18]] 0 false]) 1 (.vs r17.2.length 1 0 1 0)).bind fun r19=>(app (r17.2++[Entry.mk 1 [[Cell.str s18]] 0 false]) 1 16 (c15) r19).bind fun p20=>qbwb k m n (c11) s12 (IntKind.i64.wrap (i13 - 1)) s14 (p20.1) p20.2) none) (some ([.agg [Cell.str s14,c15]],H16))
def fdv (k m:Nat)(c1:Cell)(s2 s3:ByteArray)(H:List Entry):Option Res:=(catS (bs [99,97,116,32]) s2).bind fun s4=>(catS s4 (bs [47,120,32,62,32,111])).bind fun s5=>(catS (bs [108,111,103,32]) s3).bind fun s6=>(qcp [.one (c1),.one ((.vs H.length 1 0 3 0))] (H++[Entry.mk 1 [[Cell.str (bs [112,117,116,32,104,105,32,62,32,111])],[Cell.str s5],[Cell.str s6]] 0 false])).bind fun r7=>cond (qab qjl r7.1) ((cS (qaa r7.1 0) 0).bind fun s8=>(qdc [.one (c1),.one (Cell.int 3)] (r7.2++[Entry.mk 1 [[Cell.str s8]] 0 false])).bind fun r9=>cond (qab qql r9.1) ((cI .i64 (qaa r9.1 0) 0).bind fun i10=>qbwb k m m (c1) s2 i10 s3 ((.vs r7.2.length 1 0 1 0)) r9.2) none) none
abbrev qpoc (k m:Nat):TB:=evC qvrb qpd (evF qvrb (k+1)) m (sub [1,1,0,1,2,3] qpd.code) none
abbrev qnwc (k m:Nat):TK:=qaw 0 (seqK (evC qvrb qpd (evF qvrb (k+1)) m (sub [1,1,1] qpd.code) none) (retK qvrb qpd))
theorem qakc (k m:Nat):∀ (n:Nat) (c11:Cell) (s12:ByteArray) (i13:Int) (s14:ByteArray) (c15:Cell) (H16:List Entry),qbj (some [0,1,6,7,8]) (qpoc k m) (qnwc k m) n ⟨fT 35 0 [(0,.av (.one (c11))),(1,.av (.one (Cell.str s12))),(6,.loc 6 0),(7,.loc 7 0),(8,.av (.one (Cell.int i13)))],fX 35 0 [(6,[Cell.str (bs []),.lst true 1 []]),(7,[Cell.str s14,c15])],H16⟩=qbwb (k+1) m n c11 s12 i13 s14 c15 H16:=by
 intro n
 induction n with
 | zero=>intros;rfl
 | succ n ih=>intros;simp only[qbwb,← ih];kernel_rfl
theorem qoqc (k m:Nat)(c1:Cell)(s2 s3:ByteArray)(H:List Entry):evC qvrb qpd (evF qvrb (k+1)) m qpd.code none (retK qvrb qpd) (enter qpd [.one (c1),.one (Cell.str s2),.one (Cell.str s3)] H)=fdv (k+1) m c1 s2 s3 H:=by
 simp only[fdv,← qakc k m]
 kernel_rfl
theorem qlwb {c1:Cell}{s2 s3:ByteArray}{H:List Entry}{r:Res}(k:Nat)(h:fdv (k+1) (k+1) c1 s2 s3 H=some r):qoq [.one (c1),.one (Cell.str s2),.one (Cell.str s3)] H=some r:=qap (k:=k+2) (Eq.trans (Eq.trans (by kernel_rfl) (qoqc k (k+1) c1 s2 s3 H)) h)
def qycc:List (Nat×Run):=[(qnu,qfl),(qdyb,quh),(qezb,qoq)]
def qcmc:Ctx:=ctx qbi qbh qycc
def qmk:Run:=lim qcmc qxj
theorem qufc:FnOk Tryz.prog OkT qxj qmk:=qao (l:=qycc) qac tyTab_ok qad okT (.cons qzib (.cons ok_fdx (.cons ok_fdv .nil))) qxj
def qlv (k m:Nat):Nat→Cell→ByteArray→Int→ByteArray→Cell→Cell→List Entry→Option Res | 0,_,_,_,_,_,_,_=>none | n+1,c5,s6,i7,s8,c9,c10,H11=>cond (decide (i7 < 3)) ((idxA 1 (.lst true 1 [[Cell.str (bs [98,117,105,108,100])],[Cell.str (bs [108,105,110,116])],[Cell.str (bs [116,101,115,116])]]) i7).bind fun c12=>(deref H11 (c12)).bind fun p13=>(cS p13.1 p13.2).bind fun s14=>(qfl [.one (c5),.one (Cell.int 2)] H11).bind fun r15=>cond (qab qcbb r15.1) ((cB (qaa r15.1 0) 0).bind fun b16=>cond b16 ((qoq [.one (c5),.one (Cell.str s6),.one (Cell.str s14)] r15.2).bind fun r17=>cond (qab qapc r17.1) ((cS (qaa r17.1 0) 0).bind fun s18=>(cC (qaa r17.1 0) 1).bind fun c19=>(qah (r17.2++[Entry.mk 2 [[Cell.str s18,c19]] 0 false]) 2 (.vs r17.2.length 2 0 1 0)).bind fun r20=>(app (r17.2++[Entry.mk 2 [[Cell.str s18,c19]] 0 false]) 2 40 (c10) r20).bind fun p21=>qlv k m n (c5) s6 (IntKind.i64.wrap (i7+1)) s8 (c9) (p21.1) p21.2) none) (cond (i7==0) ((qoq [.one (c5),.one (Cell.str s6),.one (Cell.str s14)] r15.2).bind fun r22=>cond (qab qapc r22.1) ((cS (qaa r22.1 0) 0).bind fun s23=>(cC (qaa r22.1 0) 1).bind fun c24=>(qah (r22.2++[Entry.mk 2 [[Cell.str s23,c24]] 0 false]) 2 (.vs r22.2.length 2 0 1 0)).bind fun r25=>(app (r22.2++[Entry.mk 2 [[Cell.str s23,c24]] 0 false]) 2 40 (c10) r25).bind fun p26=>qlv k m n (c5) s6 (IntKind.i64.wrap (i7+1)) s8 (c9) (p26.1) p26.2) none) (qlv k m n (c5) s6 (IntKind.i64.wrap (i7+1)) s8 (c9) (c10) r15.2))) none) (some ([.agg [Cell.str s8,.lst true 1 [],c9,c10]],H11))
def fdz (k m:Nat)(c1:Cell)(s2:ByteArray)(H:List Entry):Option Res:=(quh [.one (c1)] H).bind fun r3=>cond (qab qbcd r3.1) ((cC (qaa r3.1 0) 0).bind fun c4=>qlv k m m (c1) s2 0 s2 (c4) (.lst true 2 []) r3.2) none
abbrev qjqc (k m:Nat):TB:=evC qcmc qmh (evF qcmc (k+1)) m (sub [1,1,0,1,2,3] qmh.code) none
abbrev qpwc (k m:Nat):TK:=qaw 0 (seqK (evC qcmc qmh (evF qcmc (k+1)) m (sub [1,1,1] qmh.code) none) (retK qcmc qmh))
theorem qvib (k m:Nat):∀ (n:Nat) (c5:Cell) (s6:ByteArray) (i7:Int) (s8:ByteArray) (c9 c10:Cell) (H11:List Entry),qbj (some [0,1,4,5,6]) (qjqc k m) (qpwc k m) n ⟨fT 36 0 [(0,.av (.one (c5))),(1,.av (.one (Cell.str s6))),(4,.loc 4 0),(5,.loc 5 0),(6,.av (.one (Cell.int i7)))],fX 36 0 [(4,[Cell.str (bs []),.lst true 1 [],.lst true 2 [],.lst true 2 []]),(5,[Cell.str s8,.lst true 1 [],c9,c10])],H11⟩=qlv (k+1) m n c5 s6 i7 s8 c9 c10 H11:=by
 intro n
 induction n with
 | zero=>intros;rfl
 | succ n ih=>intros;simp only[qlv,← ih];kernel_rfl
theorem qolc (k m:Nat)(c1:Cell)(s2:ByteArray)(H:List Entry):evC qcmc qmh (evF qcmc (k+1)) m qmh.code none (retK qcmc qmh) (enter qmh [.one (c1),.one (Cell.str s2)] H)=fdz (k+1) m c1 s2 H:=by
 simp only[fdz,← qvib k m]
 kernel_rfl
theorem qqsb {c1:Cell}{s2:ByteArray}{H:List Entry}{r:Res}(k:Nat)(h:fdz (k+1) (k+1) c1 s2 H=some r):qmk [.one (c1),.one (Cell.str s2)] H=some r:=qap (k:=k+2) (Eq.trans (Eq.trans (by kernel_rfl) (qolc k (k+1) c1 s2 H)) h)
end
end Go.Ev
