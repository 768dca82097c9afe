/- What the evaluator says of the functions, each as a Lean function over cells. Printed by a program of this claim. Conditions: none. -/
import Derived.Test.YteofbfalngmmeaaDoorSh2
import Derived.KernelRfl
namespace Go.Ev
open Go Go.Proofs
noncomputable section
set_option maxRecDepth 100000
set_option linter.unusedVariables false
set_option linter.unusedSimpArgs false
def qzvb:List (Nat×Run):=[(qvt,qot),(qts,qqm)]
def qckc:Ctx:=ctx qbe qbd qzvb
def qle:Run:=lim qckc qtn
theorem ok_fae:FnOk Tryd.prog OkT qtn qle:=qam (l:=qzvb) qac tyTab_ok qad okT (.cons ok_far (.cons ok_fas .nil)) qtn
def fae (k m:Nat)(s1:ByteArray)(c2:Cell)(s3:ByteArray):Option Res:=(qba qot [.one (Cell.str s1)] []).bind fun r4=>cond (qab qzfb r4) ((cB (qaa r4 0) 0).bind fun b5=>cond b5 ((qba qqm [.one (c2)] []).bind fun r6=>cond (qab qzqb r6) ((cB (qaa r6 0) 0).bind fun b7=>cond b7 (some ([.one (Cell.bool (decide ((s3.size:Int)≤200)))],[])) (some ([.one (Cell.bool false)],[]))) none) (some ([.one (Cell.bool false)],[]))) none
theorem qnrb (k m:Nat)(s1:ByteArray)(c2:Cell)(s3:ByteArray):evC qckc qyo (evF qckc (k+1)) m qyo.code none (retK qckc qyo) (enter qyo [.agg [Cell.str s1,c2,Cell.str s3]] [])=fae (k+1) m s1 c2 s3:=by
 kernel_rfl
theorem qaxb {s1:ByteArray}{c2:Cell}{s3:ByteArray}{r:Res}(k:Nat)(h:fae (k+1) (k+1) s1 c2 s3=some r):qle [.agg [Cell.str s1,c2,Cell.str s3]] []=some r:=qan (k:=k+2) (Eq.trans (Eq.trans (by kernel_rfl) (qnrb k (k+1) s1 c2 s3)) h)
def quub:List (Nat×Run):=[(qll,qfy),(qgb,qcf),(qqd,qjv)]
def qfub:Ctx:=ctx qbe qbd quub
def qlu:Run:=lim qfub qtg
theorem ok_fbq:FnOk Tryd.prog OkT qtg qlu:=qam (l:=quub) qac tyTab_ok qad okT (.cons qsgb (.cons qyv (.cons qvzb .nil))) qtg
def qms (k m:Nat):Nat→ByteArray→Int→Option Res | 0,_,_=>none | n+1,s2,i3=>cond (decide (i3 < (s2.size:Int))) ((bytS s2 i3).bind fun i4=>(qba qjv [.one (.sc (.int .u8 i4))] []).bind fun r5=>cond (qab qpvb r5) ((cB (qaa r5 0) 0).bind fun b6=>cond (!b6) (cond (i3==0) (some ([.one (Cell.bool false)],[])) ((bytS s2 i3).bind fun i7=>(qba qfy [.one (.sc (.int .u8 i7))] []).bind fun r8=>cond (qab qjyb r8) ((cB (qaa r8 0) 0).bind fun b9=>cond (!b9) ((bytS s2 i3).bind fun i10=>cond (i10 != 45) (some ([.one (Cell.bool false)],[])) (qms k m n s2 (IntKind.i64.wrap (i3+1)))) (qms k m n s2 (IntKind.i64.wrap (i3+1)))) none)) (qms k m n s2 (IntKind.i64.wrap (i3+1)))) none) ((qba qcf [.one (Cell.int (s2.size:Int)),.one (Cell.int 1),.one (Cell.int 10)] []).bind fun r11=>cond (qab qmi r11) ((cB (qaa r11 0) 0).bind fun b12=>some ([.one (Cell.bool b12)],[])) none)
def fbq (k m:Nat)(s1:ByteArray):Option Res:=qms k m m s1 0
abbrev qpsb (k m:Nat):TB:=evC qfub qiq (evF qfub (k+1)) m (sub [1,0,1,2,3] qiq.code) none
abbrev qpwb (k m:Nat):TK:=qbu 0 (seqK (evC qfub qiq (evF qfub (k+1)) m (sub [1,1] qiq.code) none) (retK qfub qiq))
theorem qlfb (k m:Nat):∀ (n:Nat) (s2:ByteArray) (i3:Int),qdp (some [0,3]) (qpsb k m) (qpwb k m) n ⟨fT 35 0 [(0,.av (.one (Cell.str s2))),(3,.av (.one (Cell.int i3)))],fX 35 0 [],[]⟩=qms (k+1) m n s2 i3:=by
 intro n
 induction n with
 | zero=>intros;rfl
 | succ n ih=>intros;simp only[qms,← ih];kernel_rfl
theorem qqrb (k m:Nat)(s1:ByteArray):evC qfub qiq (evF qfub (k+1)) m qiq.code none (retK qfub qiq) (enter qiq [.one (Cell.str s1)] [])=fbq (k+1) m s1:=by
 simp only[fbq,← qlfb k m]
 kernel_rfl
theorem qdlb {s1:ByteArray}{r:Res}(k:Nat)(h:fbq (k+1) (k+1) s1=some r):qlu [.one (Cell.str s1)] []=some r:=qan (k:=k+2) (Eq.trans (Eq.trans (by kernel_rfl) (qqrb k (k+1) s1)) h)
def qwrb:List (Nat×Run):=[(qoe,qgt),(qtg,qlu)]
def qcgc:Ctx:=ctx qbe qbd qwrb
def qnf:Run:=lim qcgc qvv
theorem ok_fbt:FnOk Tryd.prog OkT qvv qnf:=qam (l:=qwrb) qac tyTab_ok qad okT (.cons qyib (.cons ok_fbq .nil)) qvv
def fbt (k m:Nat)(s1:ByteArray):Option Res:=(callL qgt [.one (Cell.str s1),.one (.sc (.int .u8 35))] []).bind fun r2=>cond (qab qncb r2.1) ((cC (qaa r2.1 0) 0).bind fun c3=>(lenC c3).bind fun n4=>cond ((n4:Int) != 2) (some ([.one (Cell.str (bs [])),.one (Cell.str (bs [])),.one (Cell.bool false)],r2.2)) ((idxA 1 (c3) 0).bind fun c5=>(deref r2.2 (c5)).bind fun p6=>(cS p6.1 p6.2).bind fun s7=>(qba qlu [.one (Cell.str s7)] r2.2).bind fun r8=>cond (qab qsjb r8) ((cB (qaa r8 0) 0).bind fun b9=>cond (!b9) (some ([.one (Cell.str (bs [])),.one (Cell.str (bs [])),.one (Cell.bool false)],r2.2)) ((idxA 1 (c3) 1).bind fun c10=>(deref r2.2 (c10)).bind fun p11=>(cS p11.1 p11.2).bind fun s12=>(qba qlu [.one (Cell.str s12)] r2.2).bind fun r13=>cond (qab qsjb r13) ((cB (qaa r13 0) 0).bind fun b14=>cond (!b14) (some ([.one (Cell.str (bs [])),.one (Cell.str (bs [])),.one (Cell.bool false)],r2.2)) ((idxA 1 (c3) 0).bind fun c15=>(deref r2.2 (c15)).bind fun p16=>(cS p16.1 p16.2).bind fun s17=>(idxA 1 (c3) 1).bind fun c18=>(deref r2.2 (c18)).bind fun p19=>(cS p19.1 p19.2).bind fun s20=>some ([.one (Cell.str s17),.one (Cell.str s20),.one (Cell.bool true)],r2.2))) none)) none)) none
theorem qqeb (k m:Nat)(s1:ByteArray):evC qcgc qws (evF qcgc (k+1)) m qws.code none (retK qcgc qws) (enter qws [.one (Cell.str s1)] [])=fbt (k+1) m s1:=by
 kernel_rfl
theorem qdxb {s1:ByteArray}{r:Res}(k:Nat)(h:fbt (k+1) (k+1) s1=some r):qnf [.one (Cell.str s1)] []=some r:=qan (k:=k+2) (Eq.trans (Eq.trans (by kernel_rfl) (qqeb k (k+1) s1)) h)
def qxfb:List (Nat×Run):=[(qvv,qnf),(qnb,qka),(qoa,qgr)]
def qfeb:Ctx:=ctx qbe qbd qxfb
def qlm:Run:=lim qfeb qsz
theorem ok_fbp:FnOk Tryd.prog OkT qsz qlm:=qam (l:=qxfb) qac tyTab_ok qad okT (.cons ok_fbt (.cons qxpb (.cons qbzc .nil))) qsz
def qrj (k m:Nat):Nat→Bool→Int→ByteArray→Cell→ByteArray→Option Res | 0,_,_,_,_,_=>none | n+1,b8,i9,s10,c11,s12=>(lenC c11).bind fun n13=>cond (decide (i9 < (n13:Int))) ((idxA 2 (c11) i9).bind fun c14=>(fldA c14 0).bind fun c15=>(deref [] (c15)).bind fun p16=>(cS p16.1 p16.2).bind fun s17=>(qba qka [.one (Cell.str s17)] []).bind fun r18=>cond (qab qsob r18) ((cB (qaa r18 0) 0).bind fun b19=>cond (!b19) (some ([.one (Cell.bool false)],[])) (qrj k m n b8 (IntKind.i64.wrap (i9+1)) s10 (c11) s12)) none) (cond b8 ((lenC c11).bind fun n20=>cond (decide ((n20:Int)≤6)) ((qba qgr [.one (c11)] []).bind fun r21=>cond (qab qohb r21) ((cB (qaa r21 0) 0).bind fun b22=>cond b22 (some ([.one (Cell.bool (decide ((s12.size:Int)≤200)))],[])) (some ([.one (Cell.bool false)],[]))) none) (some ([.one (Cell.bool false)],[]))) (some ([.one (Cell.bool false)],[])))
def fbp (k m:Nat)(s1:ByteArray)(c2:Cell)(s3:ByteArray):Option Res:=(qba qnf [.one (Cell.str s1)] []).bind fun r4=>cond (qab qwmb r4) ((cS (qaa r4 0) 0).bind fun s5=>(cS (qaa r4 1) 0).bind fun s6=>(cB (qaa r4 2) 0).bind fun b7=>qrj k m m b7 0 s1 (c2) s3) none
abbrev qnnb (k m:Nat):TB:=evC qfeb qik (evF qfeb (k+1)) m (sub [1,1,0,1,2,3] qik.code) none
abbrev queb (k m:Nat):TK:=qbu 0 (seqK (evC qfeb qik (evF qfeb (k+1)) m (sub [1,1,1] qik.code) none) (retK qfeb qik))
theorem qeqb (k m:Nat):∀ (n:Nat) (b8:Bool) (i9:Int) (s10:ByteArray) (c11:Cell) (s12:ByteArray),qdp (some [1,5,6]) (qnnb k m) (queb k m) n ⟨fT 47 0 [(1,.loc 1 0),(5,.av (.one (Cell.bool b8))),(6,.av (.one (Cell.int i9)))],fX 47 0 [(1,[Cell.str s10,c11,Cell.str s12])],[]⟩=qrj (k+1) m n b8 i9 s10 c11 s12:=by
 intro n
 induction n with
 | zero=>intros;rfl
 | succ n ih=>intros;simp only[qrj,← ih];kernel_rfl
theorem qsqb (k m:Nat)(s1:ByteArray)(c2:Cell)(s3:ByteArray):evC qfeb qik (evF qfeb (k+1)) m qik.code none (retK qfeb qik) (enter qik [.agg [Cell.str s1,c2,Cell.str s3]] [])=fbp (k+1) m s1 c2 s3:=by
 simp only[fbp,← qeqb k m]
 kernel_rfl
theorem qbtb {s1:ByteArray}{c2:Cell}{s3:ByteArray}{r:Res}(k:Nat)(h:fbp (k+1) (k+1) s1 c2 s3=some r):qlm [.agg [Cell.str s1,c2,Cell.str s3]] []=some r:=qan (k:=k+2) (Eq.trans (Eq.trans (by kernel_rfl) (qsqb k (k+1) s1 c2 s3)) h)
def qaoc:List (Nat×Run):=[]
def qilb:Ctx:=ctx qbe qbd qaoc
def qqc:Run:=lim qilb qtx
theorem ok_fbh:FnOk Tryd.prog OkT qtx qqc:=qam (l:=qaoc) qac tyTab_ok qad okT .nil qtx
def qrs (k m:Nat):Nat→Cell→Cell→Int→Int→Option Res | 0,_,_,_,_=>none | n+1,c6,c7,i8,i9=>cond (decide (i9 < i8)) ((idxA 2 (c6) i9).bind fun c10=>(deref [] (c10)).bind fun p11=>(cS p11.1 p11.2).bind fun s12=>(cS p11.1 (p11.2+1)).bind fun s13=>(idxA 2 (c7) i9).bind fun c14=>(deref [] (c14)).bind fun p15=>(cS p15.1 p15.2).bind fun s16=>(cS p15.1 (p15.2+1)).bind fun s17=>(qbj [.str,.str] [Cell.str s12,Cell.str s13] [Cell.str s16,Cell.str s17]).bind fun b18=>cond (!b18) (some ([.one (Cell.bool false)],[])) (qrs k m n (c6) (c7) i8 (IntKind.i64.wrap (i9+1)))) (some ([.one (Cell.bool true)],[]))
def fbh (k m:Nat)(c1 c2:Cell):Option Res:=(lenC c1).bind fun n3=>(lenC c2).bind fun n4=>cond ((n3:Int) != (n4:Int)) (some ([.one (Cell.bool false)],[])) ((lenC c1).bind fun n5=>qrs k m m (c1) (c2) (n5:Int) 0)
abbrev qqsb (k m:Nat):TB:=evC qilb qkf (evF qilb (k+1)) m (sub [1,1,0,1,2,3] qkf.code) none
abbrev qnfb (k m:Nat):TK:=qbu 0 (seqK (evC qilb qkf (evF qilb (k+1)) m (sub [1,1,1] qkf.code) none) (retK qilb qkf))
theorem qhib (k m:Nat):∀ (n:Nat) (c6 c7:Cell) (i8 i9:Int),qdp (some [0,1,12,13]) (qqsb k m) (qnfb k m) n ⟨fT 26 0 [(0,.av (.one (c6))),(1,.av (.one (c7))),(12,.av (.one (Cell.int i8))),(13,.av (.one (Cell.int i9)))],fX 26 0 [],[]⟩=qrs (k+1) m n c6 c7 i8 i9:=by
 intro n
 induction n with
 | zero=>intros;rfl
 | succ n ih=>intros;simp only[qrs,← ih];kernel_rfl
theorem qrrb (k m:Nat)(c1 c2:Cell):evC qilb qkf (evF qilb (k+1)) m qkf.code none (retK qilb qkf) (enter qkf [.one (c1),.one (c2)] [])=fbh (k+1) m c1 c2:=by
 simp only[fbh,← qhib k m]
 kernel_rfl
theorem qcbb {c1 c2:Cell}{r:Res}(k:Nat)(h:fbh (k+1) (k+1) c1 c2=some r):qqc [.one (c1),.one (c2)] []=some r:=qan (k:=k+2) (Eq.trans (Eq.trans (by kernel_rfl) (qrrb k (k+1) c1 c2)) h)
def qvlb:List (Nat×Run):=[(qtx,qqc)]
def qdac:Ctx:=ctx qbe qbd qvlb
def qla:Run:=lim qdac qvm
theorem ok_fal:FnOk Tryd.prog OkT qvm qla:=qam (l:=qvlb) qac tyTab_ok qad okT (.cons ok_fbh .nil) qvm
def fal (k m:Nat)(s1:ByteArray)(c2:Cell)(s3 s4:ByteArray)(c5:Cell)(s6:ByteArray):Option Res:=cond (s1.toList==s4.toList) (cond (s3.toList==s6.toList) ((qba qqc [.one (c2),.one (c5)] []).bind fun r7=>cond (qab qxnb r7) ((cB (qaa r7 0) 0).bind fun b8=>some ([.one (Cell.bool b8)],[])) none) (some ([.one (Cell.bool false)],[]))) (some ([.one (Cell.bool false)],[]))
theorem qtlb (k m:Nat)(s1:ByteArray)(c2:Cell)(s3 s4:ByteArray)(c5:Cell)(s6:ByteArray):evC qdac qwk (evF qdac (k+1)) m qwk.code none (retK qdac qwk) (enter qwk [.agg [Cell.str s1,c2,Cell.str s3],.agg [Cell.str s4,c5,Cell.str s6]] [])=fal (k+1) m s1 c2 s3 s4 c5 s6:=by
 kernel_rfl
theorem qdsb {s1:ByteArray}{c2:Cell}{s3 s4:ByteArray}{c5:Cell}{s6:ByteArray}{r:Res}(k:Nat)(h:fal (k+1) (k+1) s1 c2 s3 s4 c5 s6=some r):qla [.agg [Cell.str s1,c2,Cell.str s3],.agg [Cell.str s4,c5,Cell.str s6]] []=some r:=qan (k:=k+2) (Eq.trans (Eq.trans (by kernel_rfl) (qtlb k (k+1) s1 c2 s3 s4 c5 s6)) h)
def qutb:List (Nat×Run):=[]
def qcpc:Ctx:=ctx qbe qbd qutb
def qfa:Run:=lim qcpc qwa
theorem ok_fbd:FnOk Tryd.prog OkT qwa qfa:=qam (l:=qutb) qac tyTab_ok qad okT .nil qwa
def fbd (k m:Nat)(c1:Cell)(i2:Int):Option Res:=(lenC c1).bind fun n3=>cond (decide (i2 < (n3:Int))) ((idxA 1 (c1) i2).bind fun c4=>(deref [] (c4)).bind fun p5=>(cI .u8 p5.1 p5.2).bind fun i6=>some ([.one (Cell.int (IntKind.i64.wrap i6))],[])) ((lenC c1).bind fun n7=>some ([.one (Cell.int ((IntKind.i64.wrap ((IntKind.i64.wrap (i2*31))+(IntKind.i64.wrap ((n7:Int)*7)))).tmod 256))],[]))
theorem qqnb (k m:Nat)(c1:Cell)(i2:Int):evC qcpc qzf (evF qcpc (k+1)) m qzf.code none (retK qcpc qzf) (enter qzf [.one (c1),.one (Cell.int i2)] [])=fbd (k+1) m c1 i2:=by
 kernel_rfl
theorem qpa {c1:Cell}{i2:Int}{r:Res}(k:Nat)(h:fbd (k+1) (k+1) c1 i2=some r):qfa [.one (c1),.one (Cell.int i2)] []=some r:=qan (k:=k+2) (Eq.trans (Eq.trans (by kernel_rfl) (qqnb k (k+1) c1 i2)) h)
def quzb:List (Nat×Run):=[(qux,qqr),(qsx,qpj),(qpi,qfs),(qtz,qob),(qun,qcp),(qum,qpf),(qvq,qng),(qta,qni),(qub,qdw),(qtn,qle),(qsz,qlm),(qvm,qla),(qwa,qfa)]
def qcxc:Ctx:=ctx qbe qbd quzb
def qazb:Run:=lim qcxc qcab
theorem ok_fbc:FnOk Tryd.prog OkT qcab qazb:=qam (l:=quzb) qac tyTab_ok qad okT (.cons ok_fbe (.cons ok_fbk (.cons qyjb (.cons ok_fbi (.cons ok_fac (.cons ok_fbn (.cons ok_fbj (.cons ok_fbl (.cons ok_fbg (.cons ok_fae (.cons ok_fbp (.cons ok_fal (.cons ok_fbd .nil))))))))))))) qcab
def fbc (k m:Nat)(c1:Cell):Option Res:=(qba qqr [.one (c1)] []).bind fun r2=>cond (qab qxdb r2) ((cB (qaa r2 0) 0).bind fun b3=>cond b3 (some ([.one (Cell.bool true)],[])) ((callL qpj [.one (c1)] []).bind fun r4=>cond (qab qybb r4.1) ((cS (qaa r4.1 0) 0).bind fun s5=>(cC (qaa r4.1 0) 1).bind fun c6=>(cS (qaa r4.1 0) 2).bind fun s7=>(qcr qfs [.agg [Cell.str s5,c6,Cell.str s7]] r4.2).bind fun r8=>cond (qab qkqb r8.1) ((cC (qaa r8.1 0) 0).bind fun c9=>(callL qob [.one (c1)] r8.2).bind fun r10=>cond (qab qzpb r10.1) ((cC (qaa r10.1 0) 0).bind fun c11=>(qcr qcp [.one (c11)] r10.2).bind fun r12=>cond (qab qyr r12.1) ((cS (qaa r12.1 0) 0).bind fun s13=>(cC (qaa r12.1 0) 1).bind fun c14=>(cS (qaa r12.1 0) 2).bind fun s15=>(cB (qaa r12.1 1) 0).bind fun b16=>(callL qpf [.one (c11)] r12.2).bind fun r17=>cond (qab qvpb r17.1) ((cS (qaa r17.1 0) 0).bind fun s18=>(cC (qaa r17.1 0) 1).bind fun c19=>(cS (qaa r17.1 0) 2).bind fun s20=>(cB (qaa r17.1 1) 0).bind fun b21=>(callL qng [.one (c1)] r17.2).bind fun r22=>cond (qab qyqb r22.1) ((cS (qaa r22.1 0) 0).bind fun s23=>(cC (qaa r22.1 0) 1).bind fun c24=>(cS (qaa r22.1 0) 2).bind fun s25=>(callL qni [.one (c1)] r22.2).bind fun r26=>cond (qab qwnb r26.1) ((cS (qaa r26.1 0) 0).bind fun s27=>(cC (qaa r26.1 0) 1).bind fun c28=>(cS (qaa r26.1 0) 2).bind fun s29=>(cS (qaa r26.1 1) 0).bind fun s30=>(cC (qaa r26.1 1) 1).bind fun c31=>(cS (qaa r26.1 1) 2).bind fun s32=>cond (!(b16==b21)) (some ([.one (Cell.bool false)],r26.2)) ((qba qdw [.agg [Cell.str s13,c14,Cell.str s15],.agg [Cell.str s18,c19,Cell.str s20]] r26.2).bind fun r33=>cond (qab qwi r33) ((cB (qaa r33 0) 0).bind fun b34=>cond (!b34) (some ([.one (Cell.bool false)],r26.2)) (cond b16 ((qcr qfs [.agg [Cell.str s13,c14,Cell.str s15]] r26.2).bind fun r35=>cond (qab qkqb r35.1) ((cC (qaa r35.1 0) 0).bind fun c36=>(bytesOf r35.2 (c36)).bind fun s37=>(bytesOf [] (c11)).bind fun s38=>cond (!(s37.toList==s38.toList)) (some ([.one (Cell.bool false)],r35.2)) ((qba qle [.agg [Cell.str s23,c24,Cell.str s25]] []).bind fun r39=>cond (qab qozb r39) ((cB (qaa r39 0) 0).bind fun b40=>(qba qlm [.agg [Cell.str s23,c24,Cell.str s25]] r35.2).bind fun r41=>cond (qab qqvb r41) ((cB (qaa r41 0) 0).bind fun b42=>cond (!(b40==b42)) (some ([.one (Cell.bool false)],r35.2)) ((qba qla [.agg [Cell.str s27,c28,Cell.str s29],.agg [Cell.str s30,c31,Cell.str s32]] []).bind fun r43=>cond (qab quhb r43) ((cB (qaa r43 0) 0).bind fun b44=>(qba qdw [.agg [Cell.str s27,c28,Cell.str s29],.agg [Cell.str s30,c31,Cell.str s32]] r35.2).bind fun r45=>cond (qab qwi r45) ((cB (qaa r45 0) 0).bind fun b46=>cond (!(b44==b46)) (some ([.one (Cell.bool false)],r35.2)) ((qcr qcp [.one (c9)] r35.2).bind fun r47=>cond (qab qyr r47.1) ((cS (qaa r47.1 0) 0).bind fun s48=>(cC (qaa r47.1 0) 1).bind fun c49=>(cS (qaa r47.1 0) 2).bind fun s50=>(cB (qaa r47.1 1) 0).bind fun b51=>cond (!b51) (some ([.one (Cell.bool false)],r47.2)) ((qba qdw [.agg [Cell.str s48,c49,Cell.str s50],.agg [Cell.str s5,c6,Cell.str s7]] r47.2).bind fun r52=>cond (qab qwi r52) ((cB (qaa r52 0) 0).bind fun b53=>cond (!b53) (some ([.one (Cell.bool false)],r47.2)) ((qba qfa [.one (c1),.one (Cell.int 2)] r47.2).bind fun r54=>cond (qab qrw r54) ((cI .i64 (qaa r54 0) 0).bind fun i55=>(qba qfa [.one (c1),.one (Cell.int 3)] r47.2).bind fun r56=>cond (qab qrw r56) ((cI .i64 (qaa r56 0) 0).bind fun i57=>(lenC c9).bind fun n58=>if (n58:Int)=0 then none else (idxA 1 (c9) ((IntKind.i64.wrap ((IntKind.i64.wrap (i55*256))+i57)).tmod (n58:Int))).bind fun c59=>(deref r47.2 (c59)).bind fun p60=>(cI .u8 p60.1 p60.2).bind fun i61=>(qba qfa [.one (c1),.one (Cell.int 4)] []).bind fun r62=>cond (qab qrw r62) ((cI .i64 (qaa r62 0) 0).bind fun i63=>(idxA 1 (c9) ((IntKind.i64.wrap ((IntKind.i64.wrap (i55*256))+i57)).tmod (n58:Int))).bind fun c64=>(qby r47.2 (c64) [.sc (.int .u8 (xorI .u8 i61 (IntKind.u8.wrap (IntKind.i64.wrap (1+(i63.tmod 255))))))]).bind fun h65=>(qcr qcp [.one (c9)] h65).bind fun r66=>cond (qab qyr r66.1) ((cS (qaa r66.1 0) 0).bind fun s67=>(cC (qaa r66.1 0) 1).bind fun c68=>(cS (qaa r66.1 0) 2).bind fun s69=>(cB (qaa r66.1 1) 0).bind fun b70=>some ([.one (Cell.bool (!b70))],r66.2)) none) none) none) none)) none)) none)) none) none)) none) none)) none) ((qba qle [.agg [Cell.str s23,c24,Cell.str s25]] []).bind fun r71=>cond (qab qozb r71) ((cB (qaa r71 0) 0).bind fun b72=>(qba qlm [.agg [Cell.str s23,c24,Cell.str s25]] r26.2).bind fun r73=>cond (qab qqvb r73) ((cB (qaa r73 0) 0).bind fun b74=>cond (!(b72==b74)) (some ([.one (Cell.bool false)],r26.2)) ((qba qla [.agg [Cell.str s27,c28,Cell.str s29],.agg [Cell.str s30,c31,Cell.str s32]] []).bind fun r75=>cond (qab quhb r75) ((cB (qaa r75 0) 0).bind fun b76=>(qba qdw [.agg [Cell.str s27,c28,Cell.str s29],.agg [Cell.str s30,c31,Cell.str s32]] r26.2).bind fun r77=>cond (qab qwi r77) ((cB (qaa r77 0) 0).bind fun b78=>cond (!(b76==b78)) (some ([.one (Cell.bool false)],r26.2)) ((qcr qcp [.one (c9)] r26.2).bind fun r79=>cond (qab qyr r79.1) ((cS (qaa r79.1 0) 0).bind fun s80=>(cC (qaa r79.1 0) 1).bind fun c81=>(cS (qaa r79.1 0) 2).bind fun s82=>(cB (qaa r79.1 1) 0).bind fun b83=>cond (!b83) (some ([.one (Cell.bool false)],r79.2)) ((qba qdw [.agg [Cell.str s80,c81,Cell.str s82],.agg [Cell.str s5,c6,Cell.str s7]] r79.2).bind fun r84=>cond (qab qwi r84) ((cB (qaa r84 0) 0).bind fun b85=>cond (!b85) (some ([.one (Cell.bool false)],r79.2)) ((qba qfa [.one (c1),.one (Cell.int 2)] r79.2).bind fun r86=>cond (qab qrw r86) ((cI .i64 (qaa r86 0) 0).bind fun i87=>(qba qfa [.one (c1),.one (Cell.int 3)] r79.2).bind fun r88=>cond (qab qrw r88) ((cI .i64 (qaa r88 0) 0).bind fun i89=>(lenC c9).bind fun n90=>if (n90:Int)=0 then none else (idxA 1 (c9) ((IntKind.i64.wrap ((IntKind.i64.wrap (i87*256))+i89)).tmod (n90:Int))).bind fun c91=>(deref r79.2 (c91)).bind fun p92=>(cI .u8 p92.1 p92.2).bind fun i93=>(qba qfa [.one (c1),.one (Cell.int 4)] []).bind fun r94=>cond (qab qrw r94) ((cI .i64 (qaa r94 0) 0).bind fun i95=>(idxA 1 (c9) ((IntKind.i64.wrap ((IntKind.i64.wrap (i87*256))+i89)).tmod (n90:Int))).bind fun c96=>(qby r79.2 (c96) [.sc (.int .u8 (xorI .u8 i93 (IntKind.u8.wrap (IntKind.i64.wrap (1+(i95.tmod 255))))))]).bind fun h97=>(qcr qcp [.one (c9)] h97).bind fun r98=>cond (qab qyr r98.1) ((cS (qaa r98.1 0) 0).bind fun s99=>(cC (qaa r98.1 0) 1).bind fun c100=>(cS (qaa r98.1 0) 2).bind fun s101=>(cB (qaa r98.1 1) 0).bind fun b102=>some ([.one (Cell.bool (!b102))],r98.2)) none) none) none) none)) none)) none)) none) none)) none) none))) none)) none) none) none) none) none) none) none)) none
theorem qtcb (k m:Nat)(c1:Cell):evC qcxc qwx (evF qcxc (k+1)) m qwx.code none (retK qcxc qwx) (enter qwx [.one (c1)] [])=fbc (k+1) m c1:=by
 kernel_rfl
theorem qjo {c1:Cell}{r:Res}(k:Nat)(h:fbc (k+1) (k+1) c1=some r):qazb [.one (c1)] []=some r:=qan (k:=k+2) (Eq.trans (Eq.trans (by kernel_rfl) (qtcb k (k+1) c1)) h)
end
end Go.Ev
