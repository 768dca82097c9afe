/- What the evaluator says of the functions, each as a Lean function over cells. Printed by a program of this claim. Conditions: none. -/
import Derived.Test.YtfaiahlpefmgmaaDoorSh3
import Derived.KernelRfl
namespace Go.Ev
open Go Go.Proofs
noncomputable section
set_option maxRecDepth 100000
set_option linter.unusedVariables false
set_option linter.unusedSimpArgs false
def qvtb:List (Nat×Run):=[]
def qjfb:Ctx:=ctx qbk qbj qvtb
def qfz:Run:=lim qjfb qlm
theorem qnob:FnOk Tryd.prog OkT qlm qfz:=qao (l:=qvtb) qac tyTab_ok qad okT .nil qlm
def qrh (k m:Nat):Nat→Int→ByteArray→Option Res | 0,_,_=>none | n+1,i2,s3=>cond (decide (i2 > 0)) ((bytesOf [] (.lst true 1 [[.sc (.int .u8 (IntKind.u8.wrap (IntKind.i64.wrap (48+(i2.tmod 10)))))]])).bind fun s4=>(catS s4 s3).bind fun s5=>qrh k m n (IntKind.i64.wrap (i2.tdiv 10)) s5) ((catS (bs [109]) s3).bind fun s6=>some ([.one (Cell.str s6)],[]))
def fbo (k m:Nat)(i1:Int):Option Res:=cond (decide (i1≤0)) (some ([.one (Cell.str (bs [109,48]))],[])) (qrh k m m i1 (bs []))
abbrev qtjb (k m:Nat):TB:=evC qjfb qij (evF qjfb (k+1)) m (sub [1,1,1,0,2,3] qij.code) none
abbrev quqb (k m:Nat):TK:=qbi 0 (seqK (evC qjfb qij (evF qjfb (k+1)) m (sub [1,1,1,1] qij.code) none) (retK qjfb qij))
theorem qkwb (k m:Nat):∀ (n:Nat) (i2:Int) (s3:ByteArray),qcz (some [0,3]) (qtjb k m) (quqb k m) n ⟨fT 20 0 [(0,.av (.one (Cell.int i2))),(3,.av (.one (Cell.str s3)))],fX 20 0 [],[]⟩=qrh (k+1) m n i2 s3:=by
 intro n
 induction n with
 | zero=>intros;rfl
 | succ n ih=>intros;simp only[qrh,← ih];kernel_rfl
theorem qsrb (k m:Nat)(i1:Int):evC qjfb qij (evF qjfb (k+1)) m qij.code none (retK qjfb qij) (enter qij [.one (Cell.int i1)] [])=fbo (k+1) m i1:=by
 simp only[fbo,← qkwb k m]
 kernel_rfl
theorem qamb {i1:Int}{r:Res}(k:Nat)(h:fbo (k+1) (k+1) i1=some r):qfz [.one (Cell.int i1)] []=some r:=qap (k:=k+2) (Eq.trans (Eq.trans (by kernel_rfl) (qsrb k (k+1) i1)) h)
def qyob:List (Nat×Run):=[(qlm,qfz)]
def qigb:Ctx:=ctx qbk qbj qyob
def qea:Run:=lim qigb qlu
theorem qurb:FnOk Tryd.prog OkT qlu qea:=qao (l:=qyob) qac tyTab_ok qad okT (.cons qnob .nil) qlu
def qro (k m:Nat):Nat→Cell→Int→Int→List Entry→Option Res | 0,_,_,_,_=>none | n+1,c3,i4,i5,H6=>(lenC c3).bind fun n7=>cond (decide (i5 < (n7:Int))) ((qaj qfz [.one (Cell.int i4)] H6).bind fun r8=>cond (qab qhab r8) ((cS (qaa r8 0) 0).bind fun s9=>(idxA 1 (c3) i5).bind fun c10=>(qbl H6 (c10) [Cell.str s9]).bind fun h11=>qro k m n (c3) (IntKind.i64.wrap (i4+1)) (IntKind.i64.wrap (i5+1)) h11) none) (some ([.one (Cell.int i4)],H6))
def fbn (k m:Nat)(c1:Cell)(i2:Int)(H:List Entry):Option Res:=qro k m m (c1) i2 0 H
abbrev qttb (k m:Nat):TB:=evC qigb qim (evF qigb (k+1)) m (sub [1,0,1,2,3] qim.code) none
abbrev qsgb (k m:Nat):TK:=qbi 0 (seqK (evC qigb qim (evF qigb (k+1)) m (sub [1,1] qim.code) none) (retK qigb qim))
theorem qitb (k m:Nat):∀ (n:Nat) (c3:Cell) (i4 i5:Int) (H6:List Entry),qcz (some [0,1,5]) (qttb k m) (qsgb k m) n ⟨fT 20 0 [(0,.av (.one (c3))),(1,.av (.one (Cell.int i4))),(5,.av (.one (Cell.int i5)))],fX 20 0 [],H6⟩=qro (k+1) m n c3 i4 i5 H6:=by
 intro n
 induction n with
 | zero=>intros;rfl
 | succ n ih=>intros;simp only[qro,← ih];kernel_rfl
theorem qpkb (k m:Nat)(c1:Cell)(i2:Int)(H:List Entry):evC qigb qim (evF qigb (k+1)) m qim.code none (retK qigb qim) (enter qim [.one (c1),.one (Cell.int i2)] H)=fbn (k+1) m c1 i2 H:=by
 simp only[fbn,← qitb k m]
 kernel_rfl
theorem qdzb {c1:Cell}{i2:Int}{H:List Entry}{r:Res}(k:Nat)(h:fbn (k+1) (k+1) c1 i2 H=some r):qea [.one (c1),.one (Cell.int i2)] H=some r:=qap (k:=k+2) (Eq.trans (Eq.trans (by kernel_rfl) (qpkb k (k+1) c1 i2 H)) h)
def qwgb:List (Nat×Run):=[(qlu,qea),(qlm,qfz)]
def qxi:Ctx:=ctx qbk qbj qwgb
def qvm:Run:=lim qxi qhb
theorem ok_fbq:FnOk Tryd.prog OkT qhb qvm:=qao (l:=qwgb) qac tyTab_ok qad okT (.cons qurb (.cons qnob .nil)) qhb
def qrs (k m:Nat):Nat→Cell→Int→Int→List Entry→Option Res | 0,_,_,_,_=>none | n+1,c3,i4,i5,H6=>(lenC c3).bind fun n7=>cond (decide (i5 < (n7:Int))) ((idxA 5 (c3) i5).bind fun c8=>(fldA c8 0).bind fun c9=>(qbl H6 (c9) [Cell.int i4]).bind fun h10=>(idxA 5 (c3) i5).bind fun c11=>(fldA c11 1).bind fun c12=>(qbl h10 (c12) [Cell.int (IntKind.i64.wrap (i4+1))]).bind fun h13=>(qaj qfz [.one (Cell.int (IntKind.i64.wrap ((IntKind.i64.wrap (i4+1))+1)))] h13).bind fun r14=>cond (qab qhab r14) ((cS (qaa r14 0) 0).bind fun s15=>(idxA 5 (c3) i5).bind fun c16=>(fldA c16 2).bind fun c17=>(qbl h13 (c17) [Cell.str s15]).bind fun h18=>(idxA 5 (c3) i5).bind fun c19=>(fldA c19 3).bind fun c20=>(deref h18 (c20)).bind fun p21=>(cC p21.1 p21.2).bind fun c22=>((evF qxi k qhb) [.one (c22),.one (Cell.int (IntKind.i64.wrap ((IntKind.i64.wrap ((IntKind.i64.wrap (i4+1))+1))+1)))] h18).bind fun r23=>cond (qab qupb r23.1) ((cI .i64 (qaa r23.1 0) 0).bind fun i24=>(idxA 5 (c3) i5).bind fun c25=>(fldA c25 4).bind fun c26=>(deref r23.2 (c26)).bind fun p27=>(cC p27.1 p27.2).bind fun c28=>(qea [.one (c28),.one (Cell.int i24)] r23.2).bind fun r29=>cond (qab qyj r29.1) ((cI .i64 (qaa r29.1 0) 0).bind fun i30=>qrs k m n (c3) i30 (IntKind.i64.wrap (i5+1)) r29.2) none) none) none) (some ([.one (Cell.int i4)],H6))
def fbq (k m:Nat)(c1:Cell)(i2:Int)(H:List Entry):Option Res:=qrs k m m (c1) i2 0 H
abbrev qqdb (k m:Nat):TB:=evC qxi qiw (evF qxi (k+1)) m (sub [1,0,1,2,3] qiw.code) none
abbrev qszb (k m:Nat):TK:=qbi 0 (seqK (evC qxi qiw (evF qxi (k+1)) m (sub [1,1] qiw.code) none) (retK qxi qiw))
theorem qihb (k m:Nat):∀ (n:Nat) (c3:Cell) (i4 i5:Int) (H6:List Entry),qcz (some [0,1,5]) (qqdb k m) (qszb k m) n ⟨fT 49 0 [(0,.av (.one (c3))),(1,.av (.one (Cell.int i4))),(5,.av (.one (Cell.int i5)))],fX 49 0 [],H6⟩=qrs (k+1) m n c3 i4 i5 H6:=by
 intro n
 induction n with
 | zero=>intros;rfl
 | succ n ih=>intros;simp only[qrs,← ih];kernel_rfl
theorem qtcb (k m:Nat)(c1:Cell)(i2:Int)(H:List Entry):evC qxi qiw (evF qxi (k+1)) m qiw.code none (retK qxi qiw) (enter qiw [.one (c1),.one (Cell.int i2)] H)=fbq (k+1) m c1 i2 H:=by
 simp only[fbq,← qihb k m]
 kernel_rfl
theorem fbq_eq (k:Nat)(c1:Cell)(i2:Int)(H:List Entry):evF qxi (k+2) qhb [.one (c1),.one (Cell.int i2)] H=fbq (k+1) (k+1) c1 i2 H:=
 Eq.trans (by kernel_rfl) (qtcb k (k+1) c1 i2 H)
def qwub:List (Nat×Run):=[(qhb,qvm),(qlu,qea)]
def qemc:Ctx:=ctx qbk qbj qwub
def qlg:Run:=lim qemc qvz
theorem ok_fbp:FnOk Tryd.prog OkT qvz qlg:=qao (l:=qwub) qac tyTab_ok qad okT (.cons ok_fbq (.cons qurb .nil)) qvz
def fbp (k m:Nat)(i1 i2:Int)(s3:ByteArray)(c4 c5:Cell)(i6:Int)(H:List Entry):Option Res:=(qvm [.one (c4),.one (Cell.int i6)] H).bind fun r7=>cond (qab qupb r7.1) ((cI .i64 (qaa r7.1 0) 0).bind fun i8=>(qea [.one (c5),.one (Cell.int i8)] r7.2).bind fun r9=>cond (qab qyj r9.1) ((cI .i64 (qaa r9.1 0) 0).bind fun i10=>some ([.one (Cell.int i10)],r9.2)) none) none
theorem qrpb (k m:Nat)(i1 i2:Int)(s3:ByteArray)(c4 c5:Cell)(i6:Int)(H:List Entry):evC qemc qwt (evF qemc (k+1)) m qwt.code none (retK qemc qwt) (enter qwt [.agg [Cell.int i1,Cell.int i2,Cell.str s3,c4,c5],.one (Cell.int i6)] H)=fbp (k+1) m i1 i2 s3 c4 c5 i6 H:=by
 kernel_rfl
theorem qdgb {i1 i2:Int}{s3:ByteArray}{c4 c5:Cell}{i6:Int}{H:List Entry}{r:Res}(k:Nat)(h:fbp (k+1) (k+1) i1 i2 s3 c4 c5 i6 H=some r):qlg [.agg [Cell.int i1,Cell.int i2,Cell.str s3,c4,c5],.one (Cell.int i6)] H=some r:=qap (k:=k+2) (Eq.trans (Eq.trans (by kernel_rfl) (qrpb k (k+1) i1 i2 s3 c4 c5 i6 H)) h)
def qabc:List (Nat×Run):=[(qlu,qea)]
def qdzc:Ctx:=ctx qbk qbj qabc
def qlc:Run:=lim qdzc qtj
theorem ok_fbm:FnOk Tryd.prog OkT qtj qlc:=qao (l:=qabc) qac tyTab_ok qad okT (.cons qurb .nil) qtj
def fbm (k m:Nat)(s1:ByteArray)(c2 c3 c4:Cell)(b5:Bool)(i6:Int)(H:List Entry):Option Res:=(qea [.one (c2),.one (Cell.int i6)] H).bind fun r7=>cond (qab qyj r7.1) ((cI .i64 (qaa r7.1 0) 0).bind fun i8=>(qea [.one (c3),.one (Cell.int i8)] r7.2).bind fun r9=>cond (qab qyj r9.1) ((cI .i64 (qaa r9.1 0) 0).bind fun i10=>(qea [.one (c4),.one (Cell.int i10)] r9.2).bind fun r11=>cond (qab qyj r11.1) ((cI .i64 (qaa r11.1 0) 0).bind fun i12=>some ([.one (Cell.int i12)],r11.2)) none) none) none
theorem qukb (k m:Nat)(s1:ByteArray)(c2 c3 c4:Cell)(b5:Bool)(i6:Int)(H:List Entry):evC qdzc qwz (evF qdzc (k+1)) m qwz.code none (retK qdzc qwz) (enter qwz [.agg [Cell.str s1,c2,c3,c4,Cell.bool b5],.one (Cell.int i6)] H)=fbm (k+1) m s1 c2 c3 c4 b5 i6 H:=by
 kernel_rfl
theorem qbpb {s1:ByteArray}{c2 c3 c4:Cell}{b5:Bool}{i6:Int}{H:List Entry}{r:Res}(k:Nat)(h:fbm (k+1) (k+1) s1 c2 c3 c4 b5 i6 H=some r):qlc [.agg [Cell.str s1,c2,c3,c4,Cell.bool b5],.one (Cell.int i6)] H=some r:=qap (k:=k+2) (Eq.trans (Eq.trans (by kernel_rfl) (qukb k (k+1) s1 c2 c3 c4 b5 i6 H)) h)
def qbvc:List (Nat×Run):=[(qlm,qfz)]
def qizb:Ctx:=ctx qbk qbj qbvc
def qhr:Run:=lim qizb qta
theorem ok_fbl:FnOk Tryd.prog OkT qta qhr:=qao (l:=qbvc) qac tyTab_ok qad okT (.cons qnob .nil) qta
def qry (k m:Nat):Nat→Cell→Int→Int→Option Res | 0,_,_,_=>none | n+1,c3,i4,i5=>(lenC c3).bind fun n6=>cond (decide (i5 < (n6:Int))) ((idxA 1 (c3) i5).bind fun c7=>(deref [] (c7)).bind fun p8=>(cS p8.1 p8.2).bind fun s9=>(qaj qfz [.one (Cell.int i4)] []).bind fun r10=>cond (qab qhab r10) ((cS (qaa r10 0) 0).bind fun s11=>cond (!(s9.toList==s11.toList)) (some ([.one (Cell.int (-1))],[])) (qry k m n (c3) (IntKind.i64.wrap (i4+1)) (IntKind.i64.wrap (i5+1)))) none) (some ([.one (Cell.int i4)],[]))
def fbl (k m:Nat)(c1:Cell)(i2:Int):Option Res:=qry k m m (c1) i2 0
abbrev qpub (k m:Nat):TB:=evC qizb qht (evF qizb (k+1)) m (sub [1,0,1,2,3] qht.code) none
abbrev qplb (k m:Nat):TK:=qbi 0 (seqK (evC qizb qht (evF qizb (k+1)) m (sub [1,1] qht.code) none) (retK qizb qht))
theorem qlzb (k m:Nat):∀ (n:Nat) (c3:Cell) (i4 i5:Int),qcz (some [0,1,5]) (qpub k m) (qplb k m) n ⟨fT 22 0 [(0,.av (.one (c3))),(1,.av (.one (Cell.int i4))),(5,.av (.one (Cell.int i5)))],fX 22 0 [],[]⟩=qry (k+1) m n c3 i4 i5:=by
 intro n
 induction n with
 | zero=>intros;rfl
 | succ n ih=>intros;simp only[qry,← ih];kernel_rfl
theorem qshb (k m:Nat)(c1:Cell)(i2:Int):evC qizb qht (evF qizb (k+1)) m qht.code none (retK qizb qht) (enter qht [.one (c1),.one (Cell.int i2)] [])=fbl (k+1) m c1 i2:=by
 simp only[fbl,← qlzb k m]
 kernel_rfl
theorem qzn {c1:Cell}{i2:Int}{r:Res}(k:Nat)(h:fbl (k+1) (k+1) c1 i2=some r):qhr [.one (c1),.one (Cell.int i2)] []=some r:=qap (k:=k+2) (Eq.trans (Eq.trans (by kernel_rfl) (qshb k (k+1) c1 i2)) h)
def qzlb:List (Nat×Run):=[(qta,qhr)]
def qdkc:Ctx:=ctx qbk qbj qzlb
def qgz:Run:=lim qdkc qvs
theorem ok_fbk:FnOk Tryd.prog OkT qvs qgz:=qao (l:=qzlb) qac tyTab_ok qad okT (.cons ok_fbl .nil) qvs
def fbk (k m:Nat)(s1:ByteArray)(c2 c3 c4:Cell)(b5:Bool)(i6:Int):Option Res:=(qaj qhr [.one (c2),.one (Cell.int i6)] []).bind fun r7=>cond (qab qfhb r7) ((cI .i64 (qaa r7 0) 0).bind fun i8=>cond (decide (i8 < 0)) (some ([.one (Cell.int (-1))],[])) ((qaj qhr [.one (c3),.one (Cell.int i8)] []).bind fun r9=>cond (qab qfhb r9) ((cI .i64 (qaa r9 0) 0).bind fun i10=>cond (decide (i10 < 0)) (some ([.one (Cell.int (-1))],[])) ((qaj qhr [.one (c4),.one (Cell.int i10)] []).bind fun r11=>cond (qab qfhb r11) ((cI .i64 (qaa r11 0) 0).bind fun i12=>cond (decide (i12 < 0)) (some ([.one (Cell.int (-1))],[])) (some ([.one (Cell.int i12)],[]))) none)) none)) none
theorem queb (k m:Nat)(s1:ByteArray)(c2 c3 c4:Cell)(b5:Bool)(i6:Int):evC qdkc qza (evF qdkc (k+1)) m qza.code none (retK qdkc qza) (enter qza [.agg [Cell.str s1,c2,c3,c4,Cell.bool b5],.one (Cell.int i6)] [])=fbk (k+1) m s1 c2 c3 c4 b5 i6:=by
 kernel_rfl
theorem qbxb {s1:ByteArray}{c2 c3 c4:Cell}{b5:Bool}{i6:Int}{r:Res}(k:Nat)(h:fbk (k+1) (k+1) s1 c2 c3 c4 b5 i6=some r):qgz [.agg [Cell.str s1,c2,c3,c4,Cell.bool b5],.one (Cell.int i6)] []=some r:=qap (k:=k+2) (Eq.trans (Eq.trans (by kernel_rfl) (queb k (k+1) s1 c2 c3 c4 b5 i6)) h)
def qzob:List (Nat×Run):=[(qhc,qwh),(qvk,qjt),(qhd,qjh),(quh,qgy),(qwe,qfm),(qhf,qop),(qvz,qlg),(qtj,qlc),(qvs,qgz)]
def qddc:Ctx:=ctx qbk qbj qzob
def qejb:Run:=lim qddc qahb
theorem ok_fbf:FnOk Tryd.prog OkT qahb qejb:=qao (l:=qzob) qac tyTab_ok qad okT (.cons ok_fbs (.cons ok_fcc (.cons ok_fbv (.cons ok_fad (.cons ok_fbg (.cons ok_fbi (.cons ok_fbp (.cons ok_fbm (.cons ok_fbk .nil))))))))) qahb
def fbf (k m:Nat)(s1:ByteArray)(i2 i3:Int)(s4:ByteArray)(c5 c6:Cell):Option Res:=cond (decide ((s1.size:Int) > 1048576)) (some ([.one (Cell.bool true)],[])) ((qaj qwh [.agg [Cell.int i2,Cell.int i3,Cell.str s4,c5,c6],.one (Cell.int 1048576)] []).bind fun r7=>cond (qab quab r7) ((cI .i64 (qaa r7 0) 0).bind fun i8=>cond (decide (i8 < 0)) (some ([.one (Cell.bool true)],[])) ((qdy qjh [.agg [Cell.int i2,Cell.int i3,Cell.str s4,c5,c6]] []).bind fun r9=>cond (qab qyq r9.1) ((cI .i64 (qaa r9.1 0) 0).bind fun i10=>(cI .i64 (qaa r9.1 0) 1).bind fun i11=>(cS (qaa r9.1 0) 2).bind fun s12=>(cC (qaa r9.1 0) 3).bind fun c13=>(cC (qaa r9.1 0) 4).bind fun c14=>(callL qjt [.one (Cell.str s1),.agg [Cell.int i10,Cell.int i11,Cell.str s12,c13,c14]] r9.2).bind fun r15=>cond (qab qynb r15.1) ((cS (qaa r15.1 0) 0).bind fun s16=>(cC (qaa r15.1 0) 1).bind fun c17=>(cC (qaa r15.1 0) 2).bind fun c18=>(cC (qaa r15.1 0) 3).bind fun c19=>(cB (qaa r15.1 0) 4).bind fun b20=>(cB (qaa r15.1 1) 0).bind fun b21=>(qdy qjh [.agg [Cell.int i2,Cell.int i3,Cell.str s4,c5,c6]] r15.2).bind fun r22=>cond (qab qyq r22.1) ((cI .i64 (qaa r22.1 0) 0).bind fun i23=>(cI .i64 (qaa r22.1 0) 1).bind fun i24=>(cS (qaa r22.1 0) 2).bind fun s25=>(cC (qaa r22.1 0) 3).bind fun c26=>(cC (qaa r22.1 0) 4).bind fun c27=>(qdy qgy [.one (Cell.str s1),.agg [Cell.int i23,Cell.int i24,Cell.str s25,c26,c27]] r22.2).bind fun r28=>cond (qab qrgb r28.1) ((cS (qaa r28.1 0) 0).bind fun s29=>(cC (qaa r28.1 0) 1).bind fun c30=>(cC (qaa r28.1 0) 2).bind fun c31=>(cC (qaa r28.1 0) 3).bind fun c32=>(cB (qaa r28.1 0) 4).bind fun b33=>(cB (qaa r28.1 1) 0).bind fun b34=>(qaj qfm [.agg [Cell.str s29,c30,c31,c32,Cell.bool b33],.agg [Cell.str s16,c17,c18,c19,Cell.bool b20]] r28.2).bind fun r35=>cond (qab qhkb r35) ((cB (qaa r35 0) 0).bind fun b36=>cond (!b36) (some ([.one (Cell.bool false)],r28.2)) (cond (!(b34==b21)) (some ([.one (Cell.bool false)],r28.2)) ((qdy qjh [.agg [Cell.int i2,Cell.int i3,Cell.str s4,c5,c6]] r28.2).bind fun r37=>cond (qab qyq r37.1) ((cI .i64 (qaa r37.1 0) 0).bind fun i38=>(cI .i64 (qaa r37.1 0) 1).bind fun i39=>(cS (qaa r37.1 0) 2).bind fun s40=>(cC (qaa r37.1 0) 3).bind fun c41=>(cC (qaa r37.1 0) 4).bind fun c42=>(qaj qop [.agg [Cell.int i23,Cell.int i24,Cell.str s25,c26,c27],.agg [Cell.int i38,Cell.int i39,Cell.str s40,c41,c42]] r37.2).bind fun r43=>cond (qab qtpb r43) ((cB (qaa r43 0) 0).bind fun b44=>cond (!b44) (some ([.one (Cell.bool false)],r37.2)) ((qlg [.agg [Cell.int i23,Cell.int i24,Cell.str s25,c26,c27],.one (Cell.int 1)] r37.2).bind fun r45=>cond (qab qwcb r45.1) ((cI .i64 (qaa r45.1 0) 0).bind fun i46=>cond (decide (i46 < 0)) (some ([.one (Cell.bool false)],r45.2)) ((qaj qfm [.agg [Cell.str s29,c30,c31,c32,Cell.bool b33],.agg [Cell.str s16,c17,c18,c19,Cell.bool b20]] r45.2).bind fun r47=>cond (qab qhkb r47) ((cB (qaa r47 0) 0).bind fun b48=>cond (!b48) (some ([.one (Cell.bool false)],r45.2)) (cond (!(b34==b21)) (some ([.one (Cell.bool false)],r45.2)) ((qlc [.agg [Cell.str s29,c30,c31,c32,Cell.bool b33],.one (Cell.int 1)] r45.2).bind fun r49=>cond (qab qcvc r49.1) ((cI .i64 (qaa r49.1 0) 0).bind fun i50=>(qaj qgz [.agg [Cell.str s29,c30,c31,c32,Cell.bool b33],.one (Cell.int 1)] r49.2).bind fun r51=>cond (qab qppb r51) ((cI .i64 (qaa r51 0) 0).bind fun i52=>cond (decide (i52 < 0)) (some ([.one (Cell.bool false)],r49.2)) (cond (i52 != i50) (some ([.one (Cell.bool false)],r49.2)) ((qdy qjh [.agg [Cell.int i2,Cell.int i3,Cell.str s4,c5,c6]] r49.2).bind fun r53=>cond (qab qyq r53.1) ((cI .i64 (qaa r53.1 0) 0).bind fun i54=>(cI .i64 (qaa r53.1 0) 1).bind fun i55=>(cS (qaa r53.1 0) 2).bind fun s56=>(cC (qaa r53.1 0) 3).bind fun c57=>(cC (qaa r53.1 0) 4).bind fun c58=>(qdy qgy [.one (Cell.str s1),.agg [Cell.int i54,Cell.int i55,Cell.str s56,c57,c58]] r53.2).bind fun r59=>cond (qab qrgb r59.1) ((cS (qaa r59.1 0) 0).bind fun s60=>(cC (qaa r59.1 0) 1).bind fun c61=>(cC (qaa r59.1 0) 2).bind fun c62=>(cC (qaa r59.1 0) 3).bind fun c63=>(cB (qaa r59.1 0) 4).bind fun b64=>(cB (qaa r59.1 1) 0).bind fun b65=>(qaj qfm [.agg [Cell.str s60,c61,c62,c63,Cell.bool b64],.agg [Cell.str s16,c17,c18,c19,Cell.bool b20]] r59.2).bind fun r66=>cond (qab qhkb r66) ((cB (qaa r66 0) 0).bind fun b67=>cond (!b67) (some ([.one (Cell.bool false)],r59.2)) (cond (!(b65==b21)) (some ([.one (Cell.bool false)],r59.2)) ((qaj qgz [.agg [Cell.str s29,c30,c31,c32,Cell.bool b33],.one (Cell.int 1)] r59.2).bind fun r68=>cond (qab qppb r68) ((cI .i64 (qaa r68 0) 0).bind fun i69=>cond (decide (i69 < 0)) (some ([.one (Cell.bool false)],r59.2)) (cond (i69 != i50) (some ([.one (Cell.bool false)],r59.2)) (some ([.one (Cell.bool true)],r59.2)))) none))) none) none) none))) none) none))) none)) none)) none) none))) none) none) none) none) none)) none)
theorem qreb (k m:Nat)(s1:ByteArray)(i2 i3:Int)(s4:ByteArray)(c5 c6:Cell):evC qddc qyu (evF qddc (k+1)) m qyu.code none (retK qddc qyu) (enter qyu [.one (Cell.str s1),.agg [Cell.int i2,Cell.int i3,Cell.str s4,c5,c6]] [])=fbf (k+1) m s1 i2 i3 s4 c5 c6:=by
 kernel_rfl
theorem qil {s1:ByteArray}{i2 i3:Int}{s4:ByteArray}{c5 c6:Cell}{r:Res}(k:Nat)(h:fbf (k+1) (k+1) s1 i2 i3 s4 c5 c6=some r):qejb [.one (Cell.str s1),.agg [Cell.int i2,Cell.int i3,Cell.str s4,c5,c6]] []=some r:=qap (k:=k+2) (Eq.trans (Eq.trans (by kernel_rfl) (qreb k (k+1) s1 i2 i3 s4 c5 c6)) h)
end
end Go.Ev
