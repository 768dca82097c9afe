/- What the evaluator says of the functions, each as a Lean function over cells. Printed by a program of this claim. Conditions: none. -/
import Derived.Test.YteenbnljpddleaaGreatDoorSh0
import Derived.KernelRfl
namespace Go.Ev
open Go Go.Proofs
noncomputable section
set_option maxRecDepth 100000
set_option linter.unusedVariables false
set_option linter.unusedSimpArgs false
def qwkc:List (Nat×Run):=[(qdzb,qrm)]
def qtp:Ctx:=ctx qbh qbg qwkc
def quu:Run:=lim qtp qgbb
theorem ok_feg:FnOk Tryz.prog OkT qgbb quu:=qaq (l:=qwkc) qac tyTab_ok qad okT (.cons ok_feh .nil) qgbb
def qwh (k m:Nat):Nat→Cell→Int→Int→Int→ByteArray→Cell→Cell→List Entry→Option Res | 0,_,_,_,_,_,_,_,_=>none | n+1,c48,i49,i50,i51,s52,c53,c54,H55=>(lenC c53).bind fun n56=>cond (decide (i49 < (n56:Int))) (cond (i50==5) ((idxA 5 (c53) i49).bind fun c57=>(deref H55 (c57)).bind fun p58=>(cI .i64 p58.1 p58.2).bind fun i59=>(cI .i64 p58.1 (p58.2+1)).bind fun i60=>(cS p58.1 ((p58.2+1)+1)).bind fun s61=>(cC p58.1 (((p58.2+1)+1)+1)).bind fun c62=>(cC p58.1 ((((p58.2+1)+1)+1)+1)).bind fun c63=>(qek qrm [.agg [Cell.int i59,Cell.int i60,Cell.str s61,c62,c63]] H55).bind fun r64=>cond (qab qgnc r64.1) ((cC (qaa r64.1 0) 0).bind fun c65=>(cB (qaa r64.1 1) 0).bind fun b66=>cond (!b66) (some ([.one (Cell.bool false)],r64.2)) ((ptrC c48).bind fun c67=>(fldA c67 3).bind fun c68=>(deref r64.2 (c68)).bind fun p69=>(cC p69.1 p69.2).bind fun c70=>(idxA 1 (c54) i49).bind fun c71=>(deref r64.2 (c71)).bind fun p72=>(cS p72.1 p72.2).bind fun s73=>(qcy (r64.2++[Entry.mk 2 [[Cell.str s73,c65]] 0 false]) 2 (.vs r64.2.length 2 0 1 0)).bind fun r74=>(app (r64.2++[Entry.mk 2 [[Cell.str s73,c65]] 0 false]) 2 40 (c70) r74).bind fun p75=>(ptrC c48).bind fun c76=>(fldA c76 3).bind fun c77=>(qbm p75.2 (c77) [p75.1]).bind fun h78=>(deref (r64.2++[Entry.mk 2 [[Cell.str s73,c65]] 0 false]) (c68)).bind fun p79=>(cC p79.1 p79.2).bind fun c80=>cond (eqC c70 c80) (qwh k m n (c48) (IntKind.i64.wrap (i49+1)) i50 i51 s52 (c53) (c54) h78) (none))) none) (some ([.one (Cell.bool (i50==5))],H55))) (some ([.one (Cell.bool (i50==5))],H55))
def qxr (k m:Nat):Nat→Cell→Int→Int→Int→ByteArray→Cell→Cell→List Entry→Option Res | 0,_,_,_,_,_,_,_,_=>none | n+1,c17,i18,i19,i20,s21,c22,c23,H24=>(lenC c22).bind fun n25=>cond (decide (i18 < (n25:Int))) (cond (i19==5) ((idxA 5 (c22) i18).bind fun c26=>(fldA c26 0).bind fun c27=>(deref H24 (c27)).bind fun p28=>(cI .i64 p28.1 p28.2).bind fun i29=>cond (i29 != 3) (some ([.one (Cell.bool false)],H24)) ((ptrC c17).bind fun c30=>(fldA c30 2).bind fun c31=>(deref H24 (c31)).bind fun p32=>(cC p32.1 p32.2).bind fun c33=>(idxA 1 (c23) i18).bind fun c34=>(deref H24 (c34)).bind fun p35=>(cS p35.1 p35.2).bind fun s36=>(idxA 5 (c22) i18).bind fun c37=>(fldA c37 2).bind fun c38=>(deref H24 (c38)).bind fun p39=>(cS p39.1 p39.2).bind fun s40=>(qcy (H24++[Entry.mk 2 [[Cell.str s36,Cell.str s40]] 0 false]) 2 (.vs H24.length 2 0 1 0)).bind fun r41=>(app (H24++[Entry.mk 2 [[Cell.str s36,Cell.str s40]] 0 false]) 2 32 (c33) r41).bind fun p42=>(ptrC c17).bind fun c43=>(fldA c43 2).bind fun c44=>(qbm p42.2 (c44) [p42.1]).bind fun h45=>(deref (H24++[Entry.mk 2 [[Cell.str s36,Cell.str s40]] 0 false]) (c31)).bind fun p46=>(cC p46.1 p46.2).bind fun c47=>cond (eqC c33 c47) (qxr k m n (c17) (IntKind.i64.wrap (i18+1)) i19 i20 s21 (c22) (c23) h45) (none))) (some ([.one (Cell.bool (i19==5))],H24))) (some ([.one (Cell.bool (i19==5))],H24))
def feg (k m:Nat)(c1:Cell)(s2:ByteArray)(i3 i4:Int)(s5:ByteArray)(c6 c7:Cell)(H:List Entry):Option Res:=cond (s2.toList==(bs [110,97,109,101]).toList) ((ptrC c1).bind fun c8=>(fldA c8 0).bind fun c9=>(qbm H (c9) [Cell.str s5]).bind fun h10=>some ([.one (Cell.bool (i3==3))],h10)) (cond (s2.toList==(bs [117,115,101,115]).toList) ((qek qrm [.agg [Cell.int i3,Cell.int i4,Cell.str s5,c6,c7]] H).bind fun r11=>cond (qab qgnc r11.1) ((cC (qaa r11.1 0) 0).bind fun c12=>(cB (qaa r11.1 1) 0).bind fun b13=>(ptrC c1).bind fun c14=>(fldA c14 1).bind fun c15=>(qbm r11.2 (c15) [c12]).bind fun h16=>some ([.one (Cell.bool b13)],h16)) none) (cond (s2.toList==(bs [110,101,101,100,115]).toList) (qxr k m m (c1) 0 i3 i4 s5 (c6) (c7) H) (cond (s2.toList==(bs [116,97,115,107,115]).toList) (qwh k m m (c1) 0 i3 i4 s5 (c6) (c7) H) (some ([.one (Cell.bool false)],H)))))
abbrev qptc (k m:Nat):TB:=evC qtp qfd (evF qtp (k+1)) m (sub [1,0,1,2,1,5,1,5,1,4,0,1,2,3] qfd.code) none
abbrev qfqc (k m:Nat):TK:=qay 1 (seqK (evC qtp qfd (evF qtp (k+1)) m (sub [1,0,1,2,1,5,1,5,1,4,1] qfd.code) none) (qay 0 (seqK (evC qtp qfd (evF qtp (k+1)) m (sub [1,1] qfd.code) none) (retK qtp qfd))))
abbrev qqkc (k m:Nat):TB:=evC qtp qfd (evF qtp (k+1)) m (sub [1,0,1,2,1,5,1,5,1,5,1,4,0,1,2,3] qfd.code) none
abbrev qgmc (k m:Nat):TK:=qay 3 (seqK (evC qtp qfd (evF qtp (k+1)) m (sub [1,0,1,2,1,5,1,5,1,5,1,4,1] qfd.code) none) (qay 0 (seqK (evC qtp qfd (evF qtp (k+1)) m (sub [1,1] qfd.code) none) (retK qtp qfd))))
theorem qsfb (k m:Nat):∀ (n:Nat) (c48:Cell) (i49 i50 i51:Int) (s52:ByteArray) (c53 c54:Cell) (H55:List Entry),qca (some [0,5,10]) (qqkc k m) (qgmc k m) n ⟨fT 125 0 [(0,.av (.one (c48))),(5,.loc 5 0),(10,.av (.one (Cell.int i49)))],fX 125 0 [(5,[Cell.int i50,Cell.int i51,Cell.str s52,c53,c54])],H55⟩=qwh (k+1) m n c48 i49 i50 i51 s52 c53 c54 H55:=by
 intro n
 induction n with
 | zero=>intros;rfl
 | succ n ih=>intros;simp only[qwh,← ih];kernel_rfl
theorem quib (k m:Nat):∀ (n:Nat) (c17:Cell) (i18 i19 i20:Int) (s21:ByteArray) (c22 c23:Cell) (H24:List Entry),qca (some [0,5,9]) (qptc k m) (qfqc k m) n ⟨fT 125 0 [(0,.av (.one (c17))),(5,.loc 5 0),(9,.av (.one (Cell.int i18)))],fX 125 0 [(5,[Cell.int i19,Cell.int i20,Cell.str s21,c22,c23])],H24⟩=qxr (k+1) m n c17 i18 i19 i20 s21 c22 c23 H24:=by
 intro n
 induction n with
 | zero=>intros;rfl
 | succ n ih=>intros;simp only[qxr,← ih];kernel_rfl
theorem qfvc (k m:Nat)(c1:Cell)(s2:ByteArray)(i3 i4:Int)(s5:ByteArray)(c6 c7:Cell)(H:List Entry):evC qtp qfd (evF qtp (k+1)) m qfd.code none (retK qtp qfd) (enter qfd [.one (c1),.one (Cell.str s2),.agg [Cell.int i3,Cell.int i4,Cell.str s5,c6,c7]] H)=feg (k+1) m c1 s2 i3 i4 s5 c6 c7 H:=by
 simp only[feg,← quib k m,← qsfb k m]
 kernel_rfl
theorem qds {c1:Cell}{s2:ByteArray}{i3 i4:Int}{s5:ByteArray}{c6 c7:Cell}{H:List Entry}{r:Res}(k:Nat)(h:feg (k+1) (k+1) c1 s2 i3 i4 s5 c6 c7 H=some r):quu [.one (c1),.one (Cell.str s2),.agg [Cell.int i3,Cell.int i4,Cell.str s5,c6,c7]] H=some r:=qas (k:=k+2) (Eq.trans (Eq.trans (by kernel_rfl) (qfvc k (k+1) c1 s2 i3 i4 s5 c6 c7 H)) h)
def qasd:List (Nat×Run):=[(qen,qaj)]
def qerd:Ctx:=ctx qbh qbg qasd
def qpo:Run:=lim qerd qvi
theorem qwcc:FnOk Tryz.prog OkT qvi qpo:=qaq (l:=qasd) qac tyTab_ok qad okT (.cons qlq .nil) qvi
def fdj (k m:Nat)(i1:Int):Option Res:=(qak qaj [.one (Cell.int (IntKind.i64.wrap i1)),.one (Cell.int 97),.one (Cell.int 122)] []).bind fun r2=>cond (qab qav r2) ((cB (qaa r2 0) 0).bind fun b3=>some ([.one (Cell.bool b3)],[])) none
theorem qskc (k m:Nat)(i1:Int):evC qerd qjlb (evF qerd (k+1)) m qjlb.code none (retK qerd qjlb) (enter qjlb [.one (.sc (.int .u8 i1))] [])=fdj (k+1) m i1:=by
 kernel_rfl
theorem qprb {i1:Int}{r:Res}(k:Nat)(h:fdj (k+1) (k+1) i1=some r):qpo [.one (.sc (.int .u8 i1))] []=some r:=qas (k:=k+2) (Eq.trans (Eq.trans (by kernel_rfl) (qskc k (k+1) i1)) h)
def qwuc:List (Nat×Run):=[(qen,qaj)]
def qgjd:Ctx:=ctx qbh qbg qwuc
def qfy:Run:=lim qgjd qli
theorem qbgc:FnOk Tryz.prog OkT qli qfy:=qaq (l:=qwuc) qac tyTab_ok qad okT (.cons qlq .nil) qli
def fdh (k m:Nat)(i1:Int):Option Res:=(qak qaj [.one (Cell.int (IntKind.i64.wrap i1)),.one (Cell.int 48),.one (Cell.int 57)] []).bind fun r2=>cond (qab qav r2) ((cB (qaa r2 0) 0).bind fun b3=>some ([.one (Cell.bool b3)],[])) none
theorem qpec (k m:Nat)(i1:Int):evC qgjd qkpb (evF qgjd (k+1)) m qkpb.code none (retK qgjd qkpb) (enter qkpb [.one (.sc (.int .u8 i1))] [])=fdh (k+1) m i1:=by
 kernel_rfl
theorem qlxb {i1:Int}{r:Res}(k:Nat)(h:fdh (k+1) (k+1) i1=some r):qfy [.one (.sc (.int .u8 i1))] []=some r:=qas (k:=k+2) (Eq.trans (Eq.trans (by kernel_rfl) (qpec k (k+1) i1)) h)
def qwjc:List (Nat×Run):=[(qvi,qpo),(qli,qfy),(qen,qaj)]
def qyib:Ctx:=ctx qbh qbg qwjc
def qfx:Run:=lim qyib qma
theorem qxrb:FnOk Tryz.prog OkT qma qfx:=qaq (l:=qwjc) qac tyTab_ok qad okT (.cons qwcc (.cons qbgc (.cons qlq .nil))) qma
def qst (k m:Nat):Nat→ByteArray→Int→Option Res | 0,_,_=>none | n+1,s2,i3=>cond (decide (i3 < (s2.size:Int))) ((bytS s2 i3).bind fun i4=>(qak qpo [.one (.sc (.int .u8 i4))] []).bind fun r5=>cond (qab qpfc r5) ((cB (qaa r5 0) 0).bind fun b6=>cond (!b6) (cond (i3==0) (some ([.one (Cell.bool false)],[])) ((bytS s2 i3).bind fun i7=>(qak qfy [.one (.sc (.int .u8 i7))] []).bind fun r8=>cond (qab qqcb r8) ((cB (qaa r8 0) 0).bind fun b9=>cond (!b9) ((bytS s2 i3).bind fun i10=>cond (i10 != 45) (some ([.one (Cell.bool false)],[])) (qst k m n s2 (IntKind.i64.wrap (i3+1)))) (qst k m n s2 (IntKind.i64.wrap (i3+1)))) none)) (qst k m n s2 (IntKind.i64.wrap (i3+1)))) none) ((qak qaj [.one (Cell.int (s2.size:Int)),.one (Cell.int 1),.one (Cell.int 10)] []).bind fun r11=>cond (qab qav r11) ((cB (qaa r11 0) 0).bind fun b12=>some ([.one (Cell.bool b12)],[])) none)
def fcx (k m:Nat)(s1:ByteArray):Option Res:=qst k m m s1 0
abbrev qksc (k m:Nat):TB:=evC qyib qne (evF qyib (k+1)) m (sub [1,0,1,2,3] qne.code) none
abbrev qgdc (k m:Nat):TK:=qay 0 (seqK (evC qyib qne (evF qyib (k+1)) m (sub [1,1] qne.code) none) (retK qyib qne))
theorem qzab (k m:Nat):∀ (n:Nat) (s2:ByteArray) (i3:Int),qca (some [0,3]) (qksc k m) (qgdc k m) n ⟨fT 35 0 [(0,.av (.one (Cell.str s2))),(3,.av (.one (Cell.int i3)))],fX 35 0 [],[]⟩=qst (k+1) m n s2 i3:=by
 intro n
 induction n with
 | zero=>intros;rfl
 | succ n ih=>intros;simp only[qst,← ih];kernel_rfl
theorem qitc (k m:Nat)(s1:ByteArray):evC qyib qne (evF qyib (k+1)) m qne.code none (retK qyib qne) (enter qne [.one (Cell.str s1)] [])=fcx (k+1) m s1:=by
 simp only[fcx,← qzab k m]
 kernel_rfl
theorem qmub {s1:ByteArray}{r:Res}(k:Nat)(h:fcx (k+1) (k+1) s1=some r):qfx [.one (Cell.str s1)] []=some r:=qas (k:=k+2) (Eq.trans (Eq.trans (by kernel_rfl) (qitc k (k+1) s1)) h)
def qwac:List (Nat×Run):=[(qma,qfx)]
def qurb:Ctx:=ctx qbh qbg qwac
def qza:Run:=lim qurb qfhb
theorem ok_fed:FnOk Tryz.prog OkT qfhb qza:=qaq (l:=qwac) qac tyTab_ok qad okT (.cons qxrb .nil) qfhb
def qbmb (k m:Nat):Nat→Cell→Int→Option Res | 0,_,_=>none | n+1,c2,i3=>(lenC c2).bind fun n4=>cond (decide (i3 < (n4:Int))) ((idxA 1 (c2) i3).bind fun c5=>(deref [] (c5)).bind fun p6=>(cS p6.1 p6.2).bind fun s7=>(qak qfx [.one (Cell.str s7)] []).bind fun r8=>cond (qab qryb r8) ((cB (qaa r8 0) 0).bind fun b9=>cond (!b9) (some ([.one (Cell.bool false)],[])) (qbmb k m n (c2) (IntKind.i64.wrap (i3+1)))) none) (some ([.one (Cell.bool true)],[]))
def fed (k m:Nat)(c1:Cell):Option Res:=qbmb k m m (c1) 0
abbrev qsic (k m:Nat):TB:=evC qurb qlf (evF qurb (k+1)) m (sub [1,0,1,2,3] qlf.code) none
abbrev qjrc (k m:Nat):TK:=qay 0 (seqK (evC qurb qlf (evF qurb (k+1)) m (sub [1,1] qlf.code) none) (retK qurb qlf))
theorem qyrb (k m:Nat):∀ (n:Nat) (c2:Cell) (i3:Int),qca (some [0,3]) (qsic k m) (qjrc k m) n ⟨fT 16 0 [(0,.av (.one (c2))),(3,.av (.one (Cell.int i3)))],fX 16 0 [],[]⟩=qbmb (k+1) m n c2 i3:=by
 intro n
 induction n with
 | zero=>intros;rfl
 | succ n ih=>intros;simp only[qbmb,← ih];kernel_rfl
theorem qsac (k m:Nat)(c1:Cell):evC qurb qlf (evF qurb (k+1)) m qlf.code none (retK qurb qlf) (enter qlf [.one (c1)] [])=fed (k+1) m c1:=by
 simp only[fed,← qyrb k m]
 kernel_rfl
theorem qrmb {c1:Cell}{r:Res}(k:Nat)(h:fed (k+1) (k+1) c1=some r):qza [.one (c1)] []=some r:=qas (k:=k+2) (Eq.trans (Eq.trans (by kernel_rfl) (qsac k (k+1) c1)) h)
def qwlc:List (Nat×Run):=[]
def qsvb:Ctx:=ctx qbh qbg qwlc
def qvm:Run:=lim qsvb qfxb
theorem ok_feb:FnOk Tryz.prog OkT qfxb qvm:=qaq (l:=qwlc) qac tyTab_ok qad okT .nil qfxb
def qts (k m:Nat):Nat→Cell→Int→Option Res | 0,_,_=>none | n+1,c2,i3=>(lenC c2).bind fun n4=>cond (decide (i3 < (n4:Int))) ((idxA 1 (c2) (IntKind.i64.wrap (i3 - 1))).bind fun c5=>(deref [] (c5)).bind fun p6=>(cS p6.1 p6.2).bind fun s7=>(idxA 1 (c2) i3).bind fun c8=>(deref [] (c8)).bind fun p9=>(cS p9.1 p9.2).bind fun s10=>cond (!Op.bytesLess s7.toList s10.toList) (some ([.one (Cell.bool false)],[])) (qts k m n (c2) (IntKind.i64.wrap (i3+1)))) (some ([.one (Cell.bool true)],[]))
def feb (k m:Nat)(c1:Cell):Option Res:=qts k m m (c1) 1
abbrev qowc (k m:Nat):TB:=evC qsvb qnc (evF qsvb (k+1)) m (sub [1,0,1,2,3] qnc.code) none
abbrev qlpc (k m:Nat):TK:=qay 0 (seqK (evC qsvb qnc (evF qsvb (k+1)) m (sub [1,1] qnc.code) none) (retK qsvb qnc))
theorem qymb (k m:Nat):∀ (n:Nat) (c2:Cell) (i3:Int),qca (some [0,3]) (qowc k m) (qlpc k m) n ⟨fT 20 0 [(0,.av (.one (c2))),(3,.av (.one (Cell.int i3)))],fX 20 0 [],[]⟩=qts (k+1) m n c2 i3:=by
 intro n
 induction n with
 | zero=>intros;rfl
 | succ n ih=>intros;simp only[qts,← ih];kernel_rfl
theorem qsmc (k m:Nat)(c1:Cell):evC qsvb qnc (evF qsvb (k+1)) m qnc.code none (retK qsvb qnc) (enter qnc [.one (c1)] [])=feb (k+1) m c1:=by
 simp only[feb,← qymb k m]
 kernel_rfl
theorem qlkb {c1:Cell}{r:Res}(k:Nat)(h:feb (k+1) (k+1) c1=some r):qvm [.one (c1)] []=some r:=qas (k:=k+2) (Eq.trans (Eq.trans (by kernel_rfl) (qsmc k (k+1) c1)) h)
def quhc:List (Nat×Run):=[]
def qayc:Ctx:=ctx qbh qbg quhc
def qdm:Run:=lim qayc qqr
theorem qroc:FnOk Tryz.prog OkT qqr qdm:=qaq (l:=quhc) qac tyTab_ok qad okT .nil qqr
def qsj (k m:Nat):Nat→ByteArray→Int→Cell→Int→Int→List Entry→Option Res | 0,_,_,_,_,_,_=>none | n+1,s3,i4,c5,i6,i7,H8=>cond (decide (i7≤(s3.size:Int))) (cond (i7==(s3.size:Int)) ((subS s3 i6 i7).bind fun s9=>(app H8 1 16 (c5) [[Cell.str s9]]).bind fun p10=>qsj k m n s3 i4 (p10.1) (IntKind.i64.wrap (i7+1)) (IntKind.i64.wrap (i7+1)) p10.2) ((bytS s3 i7).bind fun i11=>cond (i11==i4) ((subS s3 i6 i7).bind fun s12=>(app H8 1 16 (c5) [[Cell.str s12]]).bind fun p13=>qsj k m n s3 i4 (p13.1) (IntKind.i64.wrap (i7+1)) (IntKind.i64.wrap (i7+1)) p13.2) (qsj k m n s3 i4 (c5) i6 (IntKind.i64.wrap (i7+1)) H8))) (some ([.one (c5)],H8))
def fde (k m:Nat)(s1:ByteArray)(i2:Int):Option Res:=qsj k m m s1 i2 (.lst true 1 []) 0 0 []
abbrev qrpc (k m:Nat):TB:=evC qayc qpr (evF qayc (k+1)) m (sub [1,1,1,0,1,2,3] qpr.code) none
abbrev qoyc (k m:Nat):TK:=qay 0 (seqK (evC qayc qpr (evF qayc (k+1)) m (sub [1,1,1,1] qpr.code) none) (retK qayc qpr))
theorem qbwc (k m:Nat):∀ (n:Nat) (s3:ByteArray) (i4:Int) (c5:Cell) (i6 i7:Int) (H8:List Entry),qca (some [0,1,5,6,7]) (qrpc k m) (qoyc k m) n ⟨fT 36 0 [(0,.av (.one (Cell.str s3))),(1,.av (.one (.sc (.int .u8 i4)))),(5,.av (.one (c5))),(6,.av (.one (Cell.int i6))),(7,.av (.one (Cell.int i7)))],fX 36 0 [],H8⟩=qsj (k+1) m n s3 i4 c5 i6 i7 H8:=by
 intro n
 induction n with
 | zero=>intros;rfl
 | succ n ih=>intros;simp only[qsj,← ih];kernel_rfl
theorem qnrc (k m:Nat)(s1:ByteArray)(i2:Int):evC qayc qpr (evF qayc (k+1)) m qpr.code none (retK qayc qpr) (enter qpr [.one (Cell.str s1),.one (.sc (.int .u8 i2))] [])=fde (k+1) m s1 i2:=by
 simp only[fde,← qbwc k m]
 kernel_rfl
theorem qoyb {s1:ByteArray}{i2:Int}{r:Res}(k:Nat)(h:fde (k+1) (k+1) s1 i2=some r):qdm [.one (Cell.str s1),.one (.sc (.int .u8 i2))] []=some r:=qas (k:=k+2) (Eq.trans (Eq.trans (by kernel_rfl) (qnrc k (k+1) s1 i2)) h)
def qvqc:List (Nat×Run):=[]
def qwnb:Ctx:=ctx qbh qbg qvqc
def qxu:Run:=lim qwnb qcnb
theorem ok_fdx:FnOk Tryz.prog OkT qcnb qxu:=qaq (l:=qvqc) qac tyTab_ok qad okT .nil qcnb
def qjl (k m:Nat):Nat→ByteArray→Cell→Int→Int→List Entry→Option Res | 0,_,_,_,_,_=>none | n+1,s2,c3,i4,i5,H6=>cond (decide ((IntKind.i64.wrap (i5+1)) < (s2.size:Int))) ((bytS s2 i5).bind fun i7=>cond (i7==124) ((bytS s2 (IntKind.i64.wrap (i5+1))).bind fun i8=>cond (i8==124) ((subS s2 i4 i5).bind fun s9=>(app H6 1 16 (c3) [[Cell.str s9]]).bind fun p10=>qjl k m n s2 (p10.1) (IntKind.i64.wrap (i5+2)) (IntKind.i64.wrap ((IntKind.i64.wrap (i5+1))+1)) p10.2) (qjl k m n s2 (c3) i4 (IntKind.i64.wrap (i5+1)) H6)) (qjl k m n s2 (c3) i4 (IntKind.i64.wrap (i5+1)) H6)) ((subS s2 i4 (s2.size:Int)).bind fun s11=>(app H6 1 16 (c3) [[Cell.str s11]]).bind fun p12=>some ([.one (p12.1)],p12.2))
def fdx (k m:Nat)(s1:ByteArray):Option Res:=qjl k m m s1 (.lst true 1 []) 0 0 []
abbrev qorc (k m:Nat):TB:=evC qwnb qlp (evF qwnb (k+1)) m (sub [1,1,1,0,1,2,3] qlp.code) none
abbrev qgxc (k m:Nat):TK:=qay 0 (seqK (evC qwnb qlp (evF qwnb (k+1)) m (sub [1,1,1,1] qlp.code) none) (retK qwnb qlp))
theorem qzub (k m:Nat):∀ (n:Nat) (s2:ByteArray) (c3:Cell) (i4 i5:Int) (H6:List Entry),qca (some [0,3,4,5]) (qorc k m) (qgxc k m) n ⟨fT 42 0 [(0,.av (.one (Cell.str s2))),(3,.av (.one (c3))),(4,.av (.one (Cell.int i4))),(5,.av (.one (Cell.int i5)))],fX 42 0 [],H6⟩=qjl (k+1) m n s2 c3 i4 i5 H6:=by
 intro n
 induction n with
 | zero=>intros;rfl
 | succ n ih=>intros;simp only[qjl,← ih];kernel_rfl
theorem qkgc (k m:Nat)(s1:ByteArray):evC qwnb qlp (evF qwnb (k+1)) m qlp.code none (retK qwnb qlp) (enter qlp [.one (Cell.str s1)] [])=fdx (k+1) m s1:=by
 simp only[fdx,← qzub k m]
 kernel_rfl
theorem qqkb {s1:ByteArray}{r:Res}(k:Nat)(h:fdx (k+1) (k+1) s1=some r):qxu [.one (Cell.str s1)] []=some r:=qas (k:=k+2) (Eq.trans (Eq.trans (by kernel_rfl) (qkgc k (k+1) s1)) h)
def qegd:List (Nat×Run):=[(qli,qfy)]
def qxcb:Ctx:=ctx qbh qbg qegd
def qyj:Run:=lim qxcb qfob
theorem ok_fdn:FnOk Tryz.prog OkT qfob qyj:=qaq (l:=qegd) qac tyTab_ok qad okT (.cons qbgc .nil) qfob
def qzi (k m:Nat):Nat→ByteArray→Int→Option Res | 0,_,_=>none | n+1,s2,i3=>cond (decide (i3 < (s2.size:Int))) ((bytS s2 i3).bind fun i4=>(qak qfy [.one (.sc (.int .u8 i4))] []).bind fun r5=>cond (qab qqcb r5) ((cB (qaa r5 0) 0).bind fun b6=>cond (!b6) (some ([.one (Cell.bool false)],[])) (qzi k m n s2 (IntKind.i64.wrap (i3+1)))) none) (some ([.one (Cell.bool true)],[]))
def fdn (k m:Nat)(s1:ByteArray):Option Res:=qzi k m m s1 0
abbrev qhvc (k m:Nat):TB:=evC qxcb qmo (evF qxcb (k+1)) m (sub [1,0,1,2,3] qmo.code) none
abbrev qnxc (k m:Nat):TK:=qay 0 (seqK (evC qxcb qmo (evF qxcb (k+1)) m (sub [1,1] qmo.code) none) (retK qxcb qmo))
theorem qxmb (k m:Nat):∀ (n:Nat) (s2:ByteArray) (i3:Int),qca (some [0,3]) (qhvc k m) (qnxc k m) n ⟨fT 15 0 [(0,.av (.one (Cell.str s2))),(3,.av (.one (Cell.int i3)))],fX 15 0 [],[]⟩=qzi (k+1) m n s2 i3:=by
 intro n
 induction n with
 | zero=>intros;rfl
 | succ n ih=>intros;simp only[qzi,← ih];kernel_rfl
theorem qkvc (k m:Nat)(s1:ByteArray):evC qxcb qmo (evF qxcb (k+1)) m qmo.code none (retK qxcb qmo) (enter qmo [.one (Cell.str s1)] [])=fdn (k+1) m s1:=by
 simp only[fdn,← qxmb k m]
 kernel_rfl
theorem qogb {s1:ByteArray}{r:Res}(k:Nat)(h:fdn (k+1) (k+1) s1=some r):qyj [.one (Cell.str s1)] []=some r:=qas (k:=k+2) (Eq.trans (Eq.trans (by kernel_rfl) (qkvc k (k+1) s1)) h)
def qyac:List (Nat×Run):=[(qvi,qpo),(qli,qfy),(qen,qaj),(qfob,qyj)]
def qcoc:Ctx:=ctx qbh qbg qyac
def qty:Run:=lim qcoc qedb
theorem ok_fdo:FnOk Tryz.prog OkT qedb qty:=qaq (l:=qyac) qac tyTab_ok qad okT (.cons qwcc (.cons qbgc (.cons qlq (.cons ok_fdn .nil)))) qedb
def qpw (k m:Nat):Nat→ByteArray→Int→Option Res | 0,_,_=>none | n+1,s2,i3=>cond (decide (i3 < (s2.size:Int))) ((bytS s2 i3).bind fun i4=>(qak qfy [.one (.sc (.int .u8 i4))] []).bind fun r5=>cond (qab qqcb r5) ((cB (qaa r5 0) 0).bind fun b6=>cond (!b6) ((bytS s2 i3).bind fun i7=>(qak qpo [.one (.sc (.int .u8 i7))] []).bind fun r8=>cond (qab qpfc r8) ((cB (qaa r8 0) 0).bind fun b9=>cond (!b9) ((bytS s2 i3).bind fun i10=>(qak qaj [.one (Cell.int (IntKind.i64.wrap i10)),.one (Cell.int 65),.one (Cell.int 90)] []).bind fun r11=>cond (qab qav r11) ((cB (qaa r11 0) 0).bind fun b12=>cond (!b12) ((bytS s2 i3).bind fun i13=>cond (i13 != 45) (some ([.one (Cell.bool false)],[])) (qpw k m n s2 (IntKind.i64.wrap (i3+1)))) (qpw k m n s2 (IntKind.i64.wrap (i3+1)))) none) (qpw k m n s2 (IntKind.i64.wrap (i3+1)))) none) (qpw k m n s2 (IntKind.i64.wrap (i3+1)))) none) ((qak qaj [.one (Cell.int (s2.size:Int)),.one (Cell.int 1),.one (Cell.int 8)] []).bind fun r14=>cond (qab qav r14) ((cB (qaa r14 0) 0).bind fun b15=>cond b15 ((qak qyj [.one (Cell.str s2)] []).bind fun r16=>cond (qab qzfc r16) ((cB (qaa r16 0) 0).bind fun b17=>cond (!b17) (some ([.one (Cell.bool true)],[])) (cond ((s2.size:Int)==1) (some ([.one (Cell.bool true)],[])) ((bytS s2 0).bind fun i18=>some ([.one (Cell.bool (i18 != 48))],[])))) none) (some ([.one (Cell.bool false)],[]))) none)
def fdo (k m:Nat)(s1:ByteArray):Option Res:=qpw k m m s1 0
abbrev qnjc (k m:Nat):TB:=evC qcoc qni (evF qcoc (k+1)) m (sub [1,0,1,2,3] qni.code) none
abbrev qobc (k m:Nat):TK:=qay 0 (seqK (evC qcoc qni (evF qcoc (k+1)) m (sub [1,1] qni.code) none) (retK qcoc qni))
theorem qxvb (k m:Nat):∀ (n:Nat) (s2:ByteArray) (i3:Int),qca (some [0,3]) (qnjc k m) (qobc k m) n ⟨fT 54 0 [(0,.av (.one (Cell.str s2))),(3,.av (.one (Cell.int i3)))],fX 54 0 [],[]⟩=qpw (k+1) m n s2 i3:=by
 intro n
 induction n with
 | zero=>intros;rfl
 | succ n ih=>intros;simp only[qpw,← ih];kernel_rfl
theorem qjkc (k m:Nat)(s1:ByteArray):evC qcoc qni (evF qcoc (k+1)) m qni.code none (retK qcoc qni) (enter qni [.one (Cell.str s1)] [])=fdo (k+1) m s1:=by
 simp only[fdo,← qxvb k m]
 kernel_rfl
theorem qngb {s1:ByteArray}{r:Res}(k:Nat)(h:fdo (k+1) (k+1) s1=some r):qty [.one (Cell.str s1)] []=some r:=qas (k:=k+2) (Eq.trans (Eq.trans (by kernel_rfl) (qjkc k (k+1) s1)) h)
def qcyd:List (Nat×Run):=[(qen,qaj),(qedb,qty)]
def qajc:Ctx:=ctx qbh qbg qcyd
def qfu:Run:=lim qajc qxq
theorem qyzc:FnOk Tryz.prog OkT qxq qfu:=qaq (l:=qcyd) qac tyTab_ok qad okT (.cons qlq (.cons ok_fdo .nil)) qxq
def qbbb (k m:Nat):Nat→Int→Int→Int→Int→Cell→Option Res | 0,_,_,_,_,_=>none | n+1,i5,i6,i7,i8,c9=>(lenC c9).bind fun n10=>cond (decide (i5 < (n10:Int))) ((idxA 1 (c9) i5).bind fun c11=>(deref [] (c11)).bind fun p12=>(cS p12.1 p12.2).bind fun s13=>(qak qty [.one (Cell.str s13)] []).bind fun r14=>cond (qab qejd r14) ((cB (qaa r14 0) 0).bind fun b15=>cond (!b15) (some ([.one (Cell.bool false)],[])) (qbbb k m n (IntKind.i64.wrap (i5+1)) i6 i7 i8 (c9))) none) ((qak qaj [.one (Cell.int i6),.one (Cell.int 0),.one (Cell.int 9999)] []).bind fun r16=>cond (qab qav r16) ((cB (qaa r16 0) 0).bind fun b17=>cond b17 ((qak qaj [.one (Cell.int i7),.one (Cell.int 0),.one (Cell.int 9999)] []).bind fun r18=>cond (qab qav r18) ((cB (qaa r18 0) 0).bind fun b19=>cond b19 ((qak qaj [.one (Cell.int i8),.one (Cell.int 0),.one (Cell.int 9999)] []).bind fun r20=>cond (qab qav r20) ((cB (qaa r20 0) 0).bind fun b21=>cond b21 ((lenC c9).bind fun n22=>some ([.one (Cell.bool (decide ((n22:Int)≤3)))],[])) (some ([.one (Cell.bool false)],[]))) none) (some ([.one (Cell.bool false)],[]))) none) (some ([.one (Cell.bool false)],[]))) none)
def fdg (k m:Nat)(i1 i2 i3:Int)(c4:Cell):Option Res:=qbbb k m m 0 i1 i2 i3 (c4)
abbrev qiac (k m:Nat):TB:=evC qajc qpk (evF qajc (k+1)) m (sub [1,0,1,2,3] qpk.code) none
abbrev qlvc (k m:Nat):TK:=qay 0 (seqK (evC qajc qpk (evF qajc (k+1)) m (sub [1,1] qpk.code) none) (retK qajc qpk))
theorem qvmb (k m:Nat):∀ (n:Nat) (i5 i6 i7 i8:Int) (c9:Cell),qca (some [1,3]) (qiac k m) (qlvc k m) n ⟨fT 37 0 [(1,.loc 1 0),(3,.av (.one (Cell.int i5)))],fX 37 0 [(1,[Cell.int i6,Cell.int i7,Cell.int i8,c9])],[]⟩=qbbb (k+1) m n i5 i6 i7 i8 c9:=by
 intro n
 induction n with
 | zero=>intros;rfl
 | succ n ih=>intros;simp only[qbbb,← ih];kernel_rfl
theorem qsdc (k m:Nat)(i1 i2 i3:Int)(c4:Cell):evC qajc qpk (evF qajc (k+1)) m qpk.code none (retK qajc qpk) (enter qpk [.agg [Cell.int i1,Cell.int i2,Cell.int i3,c4]] [])=fdg (k+1) m i1 i2 i3 c4:=by
 simp only[fdg,← qvmb k m]
 kernel_rfl
theorem qoeb {i1 i2 i3:Int}{c4:Cell}{r:Res}(k:Nat)(h:fdg (k+1) (k+1) i1 i2 i3 c4=some r):qfu [.agg [Cell.int i1,Cell.int i2,Cell.int i3,c4]] []=some r:=qas (k:=k+2) (Eq.trans (Eq.trans (by kernel_rfl) (qsdc k (k+1) i1 i2 i3 c4)) h)
def qzec:List (Nat×Run):=[(qli,qfy),(qen,qaj)]
def qbjc:Ctx:=ctx qbh qbg qzec
def qcm:Run:=lim qbjc qwu
theorem qald:FnOk Tryz.prog OkT qwu qcm:=qaq (l:=qzec) qac tyTab_ok qad okT (.cons qbgc (.cons qlq .nil)) qwu
def qbab (k m:Nat):Nat→ByteArray→Int→Int→Int→Option Res | 0,_,_,_,_=>none | n+1,s3,i4,i5,i6=>cond (decide (i6 < (s3.size:Int))) (cond (decide (i6 < 8)) ((bytS s3 i6).bind fun i7=>(qak qfy [.one (.sc (.int .u8 i7))] []).bind fun r8=>cond (qab qqcb r8) ((cB (qaa r8 0) 0).bind fun b9=>cond (!b9) (some ([.one (Cell.int 0),.one (Cell.bool false)],[])) ((bytS s3 i6).bind fun i10=>qbab k m n s3 i4 (IntKind.i64.wrap ((IntKind.i64.wrap (i5*10))+(IntKind.i64.wrap (IntKind.u8.wrap (i10 - 48))))) (IntKind.i64.wrap (i6+1)))) none) ((qak qaj [.one (Cell.int (s3.size:Int)),.one (Cell.int 1),.one (Cell.int 7)] []).bind fun r11=>cond (qab qav r11) ((cB (qaa r11 0) 0).bind fun b12=>cond (!b12) (some ([.one (Cell.int 0),.one (Cell.bool false)],[])) (cond (decide ((s3.size:Int) > 1)) ((bytS s3 0).bind fun i13=>cond (i13==48) (some ([.one (Cell.int 0),.one (Cell.bool false)],[])) (cond (decide (i5 > i4)) (some ([.one (Cell.int 0),.one (Cell.bool false)],[])) (some ([.one (Cell.int i5),.one (Cell.bool true)],[])))) (cond (decide (i5 > i4)) (some ([.one (Cell.int 0),.one (Cell.bool false)],[])) (some ([.one (Cell.int i5),.one (Cell.bool true)],[]))))) none)) ((qak qaj [.one (Cell.int (s3.size:Int)),.one (Cell.int 1),.one (Cell.int 7)] []).bind fun r14=>cond (qab qav r14) ((cB (qaa r14 0) 0).bind fun b15=>cond (!b15) (some ([.one (Cell.int 0),.one (Cell.bool false)],[])) (cond (decide ((s3.size:Int) > 1)) ((bytS s3 0).bind fun i16=>cond (i16==48) (some ([.one (Cell.int 0),.one (Cell.bool false)],[])) (cond (decide (i5 > i4)) (some ([.one (Cell.int 0),.one (Cell.bool false)],[])) (some ([.one (Cell.int i5),.one (Cell.bool true)],[])))) (cond (decide (i5 > i4)) (some ([.one (Cell.int 0),.one (Cell.bool false)],[])) (some ([.one (Cell.int i5),.one (Cell.bool true)],[]))))) none)
def fda (k m:Nat)(s1:ByteArray)(i2:Int):Option Res:=qbab k m m s1 i2 0 0
abbrev qmcc (k m:Nat):TB:=evC qbjc qmv (evF qbjc (k+1)) m (sub [1,1,0,1,2,3] qmv.code) none
abbrev qpbc (k m:Nat):TK:=qay 0 (seqK (evC qbjc qmv (evF qbjc (k+1)) m (sub [1,1,1] qmv.code) none) (retK qbjc qmv))
theorem qzfb (k m:Nat):∀ (n:Nat) (s3:ByteArray) (i4 i5 i6:Int),qca (some [0,1,6,7]) (qmcc k m) (qpbc k m) n ⟨fT 51 0 [(0,.av (.one (Cell.str s3))),(1,.av (.one (Cell.int i4))),(6,.av (.one (Cell.int i5))),(7,.av (.one (Cell.int i6)))],fX 51 0 [],[]⟩=qbab (k+1) m n s3 i4 i5 i6:=by
 intro n
 induction n with
 | zero=>intros;rfl
 | succ n ih=>intros;simp only[qbab,← ih];kernel_rfl
theorem qrjc (k m:Nat)(s1:ByteArray)(i2:Int):evC qbjc qmv (evF qbjc (k+1)) m qmv.code none (retK qbjc qmv) (enter qmv [.one (Cell.str s1),.one (Cell.int i2)] [])=fda (k+1) m s1 i2:=by
 simp only[fda,← qzfb k m]
 kernel_rfl
theorem qrdb {s1:ByteArray}{i2:Int}{r:Res}(k:Nat)(h:fda (k+1) (k+1) s1 i2=some r):qcm [.one (Cell.str s1),.one (Cell.int i2)] []=some r:=qas (k:=k+2) (Eq.trans (Eq.trans (by kernel_rfl) (qrjc k (k+1) s1 i2)) h)
def qzqc:List (Nat×Run):=[(qqr,qdm),(qxq,qfu),(qwu,qcm)]
def qanc:Ctx:=ctx qbh qbg qzqc
def qkj:Run:=lim qanc qui
theorem qdad:FnOk Tryz.prog OkT qui qkj:=qaq (l:=qzqc) qac tyTab_ok qad okT (.cons qroc (.cons qyzc (.cons qald .nil))) qui
def qks (k m:Nat):Nat→ByteArray→Int→Option Res | 0,_,_=>none | n+1,s2,i3=>cond (decide (i3 < (s2.size:Int))) ((bytS s2 i3).bind fun i4=>cond (i4 != 45) (qks k m n s2 (IntKind.i64.wrap (i3+1))) (cond (decide (i3 < (s2.size:Int))) ((subS s2 (IntKind.i64.wrap (i3+1)) (s2.size:Int)).bind fun s5=>(callL qdm [.one (Cell.str s5),.one (.sc (.int .u8 46))] []).bind fun r6=>cond (qab qtj r6.1) ((cC (qaa r6.1 0) 0).bind fun c7=>(subS s2 0 i3).bind fun s8=>(callL qdm [.one (Cell.str s8),.one (.sc (.int .u8 46))] r6.2).bind fun r9=>cond (qab qtj r9.1) ((cC (qaa r9.1 0) 0).bind fun c10=>(lenC c10).bind fun n11=>cond ((n11:Int) != 3) (some ([.agg [Cell.int 0,Cell.int 0,Cell.int 0,.lst true 1 []],.one (Cell.bool false)],r9.2)) ((idxA 1 (c10) 0).bind fun c12=>(deref r9.2 (c12)).bind fun p13=>(cS p13.1 p13.2).bind fun s14=>(qak qcm [.one (Cell.str s14),.one (Cell.int 9999)] r9.2).bind fun r15=>cond (qab qjc r15) ((cI .i64 (qaa r15 0) 0).bind fun i16=>(cB (qaa r15 1) 0).bind fun b17=>(idxA 1 (c10) 1).bind fun c18=>(deref r9.2 (c18)).bind fun p19=>(cS p19.1 p19.2).bind fun s20=>(qak qcm [.one (Cell.str s20),.one (Cell.int 9999)] r9.2).bind fun r21=>cond (qab qjc r21) ((cI .i64 (qaa r21 0) 0).bind fun i22=>(cB (qaa r21 1) 0).bind fun b23=>(idxA 1 (c10) 2).bind fun c24=>(deref r9.2 (c24)).bind fun p25=>(cS p25.1 p25.2).bind fun s26=>(qak qcm [.one (Cell.str s26),.one (Cell.int 9999)] r9.2).bind fun r27=>cond (qab qjc r27) ((cI .i64 (qaa r27 0) 0).bind fun i28=>(cB (qaa r27 1) 0).bind fun b29=>cond (!b17) (some ([.agg [Cell.int 0,Cell.int 0,Cell.int 0,.lst true 1 []],.one (Cell.bool false)],r9.2)) (cond (!b23) (some ([.agg [Cell.int 0,Cell.int 0,Cell.int 0,.lst true 1 []],.one (Cell.bool false)],r9.2)) (cond (!b29) (some ([.agg [Cell.int 0,Cell.int 0,Cell.int 0,.lst true 1 []],.one (Cell.bool false)],r9.2)) ((qak qfu [.agg [Cell.int i16,Cell.int i22,Cell.int i28,c7]] r9.2).bind fun r30=>cond (qab qjab r30) ((cB (qaa r30 0) 0).bind fun b31=>cond (!b31) (some ([.agg [Cell.int 0,Cell.int 0,Cell.int 0,.lst true 1 []],.one (Cell.bool false)],r9.2)) (some ([.agg [Cell.int i16,Cell.int i22,Cell.int i28,c7],.one (Cell.bool true)],r9.2))) none)))) none) none) none)) none) none) ((subS s2 0 i3).bind fun s32=>(callL qdm [.one (Cell.str s32),.one (.sc (.int .u8 46))] []).bind fun r33=>cond (qab qtj r33.1) ((cC (qaa r33.1 0) 0).bind fun c34=>(lenC c34).bind fun n35=>cond ((n35:Int) != 3) (some ([.agg [Cell.int 0,Cell.int 0,Cell.int 0,.lst true 1 []],.one (Cell.bool false)],r33.2)) ((idxA 1 (c34) 0).bind fun c36=>(deref r33.2 (c36)).bind fun p37=>(cS p37.1 p37.2).bind fun s38=>(qak qcm [.one (Cell.str s38),.one (Cell.int 9999)] r33.2).bind fun r39=>cond (qab qjc r39) ((cI .i64 (qaa r39 0) 0).bind fun i40=>(cB (qaa r39 1) 0).bind fun b41=>(idxA 1 (c34) 1).bind fun c42=>(deref r33.2 (c42)).bind fun p43=>(cS p43.1 p43.2).bind fun s44=>(qak qcm [.one (Cell.str s44),.one (Cell.int 9999)] r33.2).bind fun r45=>cond (qab qjc r45) ((cI .i64 (qaa r45 0) 0).bind fun i46=>(cB (qaa r45 1) 0).bind fun b47=>(idxA 1 (c34) 2).bind fun c48=>(deref r33.2 (c48)).bind fun p49=>(cS p49.1 p49.2).bind fun s50=>(qak qcm [.one (Cell.str s50),.one (Cell.int 9999)] r33.2).bind fun r51=>cond (qab qjc r51) ((cI .i64 (qaa r51 0) 0).bind fun i52=>(cB (qaa r51 1) 0).bind fun b53=>cond (!b41) (some ([.agg [Cell.int 0,Cell.int 0,Cell.int 0,.lst true 1 []],.one (Cell.bool false)],r33.2)) (cond (!b47) (some ([.agg [Cell.int 0,Cell.int 0,Cell.int 0,.lst true 1 []],.one (Cell.bool false)],r33.2)) (cond (!b53) (some ([.agg [Cell.int 0,Cell.int 0,Cell.int 0,.lst true 1 []],.one (Cell.bool false)],r33.2)) ((qak qfu [.agg [Cell.int i40,Cell.int i46,Cell.int i52,.lst true 1 []]] r33.2).bind fun r54=>cond (qab qjab r54) ((cB (qaa r54 0) 0).bind fun b55=>cond (!b55) (some ([.agg [Cell.int 0,Cell.int 0,Cell.int 0,.lst true 1 []],.one (Cell.bool false)],r33.2)) (some ([.agg [Cell.int i40,Cell.int i46,Cell.int i52,.lst true 1 []],.one (Cell.bool true)],r33.2))) none)))) none) none) none)) none))) (cond (decide (i3 < (s2.size:Int))) ((subS s2 (IntKind.i64.wrap (i3+1)) (s2.size:Int)).bind fun s56=>(callL qdm [.one (Cell.str s56),.one (.sc (.int .u8 46))] []).bind fun r57=>cond (qab qtj r57.1) ((cC (qaa r57.1 0) 0).bind fun c58=>(subS s2 0 i3).bind fun s59=>(callL qdm [.one (Cell.str s59),.one (.sc (.int .u8 46))] r57.2).bind fun r60=>cond (qab qtj r60.1) ((cC (qaa r60.1 0) 0).bind fun c61=>(lenC c61).bind fun n62=>cond ((n62:Int) != 3) (some ([.agg [Cell.int 0,Cell.int 0,Cell.int 0,.lst true 1 []],.one (Cell.bool false)],r60.2)) ((idxA 1 (c61) 0).bind fun c63=>(deref r60.2 (c63)).bind fun p64=>(cS p64.1 p64.2).bind fun s65=>(qak qcm [.one (Cell.str s65),.one (Cell.int 9999)] r60.2).bind fun r66=>cond (qab qjc r66) ((cI .i64 (qaa r66 0) 0).bind fun i67=>(cB (qaa r66 1) 0).bind fun b68=>(idxA 1 (c61) 1).bind fun c69=>(deref r60.2 (c69)).bind fun p70=>(cS p70.1 p70.2).bind fun s71=>(qak qcm [.one (Cell.str s71),.one (Cell.int 9999)] r60.2).bind fun r72=>cond (qab qjc r72) ((cI .i64 (qaa r72 0) 0).bind fun i73=>(cB (qaa r72 1) 0).bind fun b74=>(idxA 1 (c61) 2).bind fun c75=>(deref r60.2 (c75)).bind fun p76=>(cS p76.1 p76.2).bind fun s77=>(qak qcm [.one (Cell.str s77),.one (Cell.int 9999)] r60.2).bind fun r78=>cond (qab qjc r78) ((cI .i64 (qaa r78 0) 0).bind fun i79=>(cB (qaa r78 1) 0).bind fun b80=>cond (!b68) (some ([.agg [Cell.int 0,Cell.int 0,Cell.int 0,.lst true 1 []],.one (Cell.bool false)],r60.2)) (cond (!b74) (some ([.agg [Cell.int 0,Cell.int 0,Cell.int 0,.lst true 1 []],.one (Cell.bool false)],r60.2)) (cond (!b80) (some ([.agg [Cell.int 0,Cell.int 0,Cell.int 0,.lst true 1 []],.one (Cell.bool false)],r60.2)) ((qak qfu [.agg [Cell.int i67,Cell.int i73,Cell.int i79,c58]] r60.2).bind fun r81=>cond (qab qjab r81) ((cB (qaa r81 0) 0).bind fun b82=>cond (!b82) (some ([.agg [Cell.int 0,Cell.int 0,Cell.int 0,.lst true 1 []],.one (Cell.bool false)],r60.2)) (some ([.agg [Cell.int i67,Cell.int i73,Cell.int i79,c58],.one (Cell.bool true)],r60.2))) none)))) none) none) none)) none) none) ((subS s2 0 i3).bind fun s83=>(callL qdm [.one (Cell.str s83),.one (.sc (.int .u8 46))] []).bind fun r84=>cond (qab qtj r84.1) ((cC (qaa r84.1 0) 0).bind fun c85=>(lenC c85).bind fun n86=>cond ((n86:Int) != 3) (some ([.agg [Cell.int 0,Cell.int 0,Cell.int 0,.lst true 1 []],.one (Cell.bool false)],r84.2)) ((idxA 1 (c85) 0).bind fun c87=>(deref r84.2 (c87)).bind fun p88=>(cS p88.1 p88.2).bind fun s89=>(qak qcm [.one (Cell.str s89),.one (Cell.int 9999)] r84.2).bind fun r90=>cond (qab qjc r90) ((cI .i64 (qaa r90 0) 0).bind fun i91=>(cB (qaa r90 1) 0).bind fun b92=>(idxA 1 (c85) 1).bind fun c93=>(deref r84.2 (c93)).bind fun p94=>(cS p94.1 p94.2).bind fun s95=>(qak qcm [.one (Cell.str s95),.one (Cell.int 9999)] r84.2).bind fun r96=>cond (qab qjc r96) ((cI .i64 (qaa r96 0) 0).bind fun i97=>(cB (qaa r96 1) 0).bind fun b98=>(idxA 1 (c85) 2).bind fun c99=>(deref r84.2 (c99)).bind fun p100=>(cS p100.1 p100.2).bind fun s101=>(qak qcm [.one (Cell.str s101),.one (Cell.int 9999)] r84.2).bind fun r102=>cond (qab qjc r102) ((cI .i64 (qaa r102 0) 0).bind fun i103=>(cB (qaa r102 1) 0).bind fun b104=>cond (!b92) (some ([.agg [Cell.int 0,Cell.int 0,Cell.int 0,.lst true 1 []],.one (Cell.bool false)],r84.2)) (cond (!b98) (some ([.agg [Cell.int 0,Cell.int 0,Cell.int 0,.lst true 1 []],.one (Cell.bool false)],r84.2)) (cond (!b104) (some ([.agg [Cell.int 0,Cell.int 0,Cell.int 0,.lst true 1 []],.one (Cell.bool false)],r84.2)) ((qak qfu [.agg [Cell.int i91,Cell.int i97,Cell.int i103,.lst true 1 []]] r84.2).bind fun r105=>cond (qab qjab r105) ((cB (qaa r105 0) 0).bind fun b106=>cond (!b106) (some ([.agg [Cell.int 0,Cell.int 0,Cell.int 0,.lst true 1 []],.one (Cell.bool false)],r84.2)) (some ([.agg [Cell.int i91,Cell.int i97,Cell.int i103,.lst true 1 []],.one (Cell.bool true)],r84.2))) none)))) none) none) none)) none))
def fdc (k m:Nat)(s1:ByteArray):Option Res:=qks k m m s1 0
abbrev qomc (k m:Nat):TB:=evC qanc qmy (evF qanc (k+1)) m (sub [1,1,1,0,2,3] qmy.code) none
abbrev qsoc (k m:Nat):TK:=qay 0 (seqK (evC qanc qmy (evF qanc (k+1)) m (sub [1,1,1,1] qmy.code) none) (retK qanc qmy))
theorem qvvb (k m:Nat):∀ (n:Nat) (s2:ByteArray) (i3:Int),qca (some [0,2,4,5]) (qomc k m) (qsoc k m) n ⟨fT 88 0 [(0,.av (.one (Cell.str s2))),(2,.loc 2 0),(4,.loc 4 0),(5,.av (.one (Cell.int i3)))],fX 88 0 [(2,[Cell.int 0,Cell.int 0,Cell.int 0,.lst true 1 []]),(4,[Cell.int 0,Cell.int 0,Cell.int 0,.lst true 1 []])],[]⟩=qks (k+1) m n s2 i3:=by
 intro n
 induction n with
 | zero=>intros;rfl
 | succ n ih=>intros;simp only[qks,← ih];kernel_rfl
theorem qstc (k m:Nat)(s1:ByteArray):evC qanc qmy (evF qanc (k+1)) m qmy.code none (retK qanc qmy) (enter qmy [.one (Cell.str s1)] [])=fdc (k+1) m s1:=by
 simp only[fdc,← qvvb k m]
 kernel_rfl
theorem qvq {s1:ByteArray}{r:Res}(k:Nat)(h:fdc (k+1) (k+1) s1=some r):qkj [.one (Cell.str s1)] []=some r:=qas (k:=k+2) (Eq.trans (Eq.trans (by kernel_rfl) (qstc k (k+1) s1)) h)
def qxmc:List (Nat×Run):=[(qqr,qdm),(qen,qaj),(qui,qkj),(qwu,qcm)]
def qdgb:Ctx:=ctx qbh qbg qxmc
def qyb:Run:=lim qdgb qfcb
theorem ok_fdw:FnOk Tryz.prog OkT qfcb qyb:=qaq (l:=qxmc) qac tyTab_ok qad okT (.cons qroc (.cons qlq (.cons qdad (.cons qald .nil)))) qfcb
def qyq (k m:Nat):Nat→Cell→Cell→Int→Int→List Entry→Option Res | 0,_,_,_,_,_=>none | n+1,c27,c28,i29,i30,H31=>(lenC c27).bind fun n32=>cond (decide (i29 < (n32:Int))) ((idxA 1 (c27) i29).bind fun c33=>(deref H31 (c33)).bind fun p34=>(cS p34.1 p34.2).bind fun s35=>cond (!(s35.toList==(bs [120]).toList)) (some ([.agg [Cell.int 0,Cell.int 0,Cell.int 0,.lst true 1 [],Cell.int 0,Cell.bool false]],H31)) (qyq k m n (c27) (c28) (IntKind.i64.wrap (i29+1)) i30 H31)) ((idxA 1 (c28) 0).bind fun c36=>(deref H31 (c36)).bind fun p37=>(cI .i64 p37.1 p37.2).bind fun i38=>(idxA 1 (c28) 1).bind fun c39=>(deref H31 (c39)).bind fun p40=>(cI .i64 p40.1 p40.2).bind fun i41=>(idxA 1 (c28) 2).bind fun c42=>(deref H31 (c42)).bind fun p43=>(cI .i64 p43.1 p43.2).bind fun i44=>(qak qaj [.one (Cell.int i30),.one (Cell.int 1),.one (Cell.int 2)] H31).bind fun r45=>cond (qab qav r45) ((cB (qaa r45 0) 0).bind fun b46=>some ([.agg [Cell.int i38,Cell.int i41,Cell.int i44,.lst true 1 [],Cell.int i30,Cell.bool b46]],H31)) none)
def qzk (k m:Nat):Nat→Cell→Cell→Int→List Entry→Option Res | 0,_,_,_,_=>none | n+1,c11,c12,i13,H14=>(lenC c11).bind fun n15=>cond (decide (i13 < (n15:Int))) ((idxA 1 (c11) i13).bind fun c16=>(deref H14 (c16)).bind fun p17=>(cS p17.1 p17.2).bind fun s18=>cond (!(s18.toList==(bs [120]).toList)) ((idxA 1 (c11) i13).bind fun c19=>(deref H14 (c19)).bind fun p20=>(cS p20.1 p20.2).bind fun s21=>(qak qcm [.one (Cell.str s21),.one (Cell.int 9999)] H14).bind fun r22=>cond (qab qjc r22) ((cI .i64 (qaa r22 0) 0).bind fun i23=>(cB (qaa r22 1) 0).bind fun b24=>cond (!b24) (some ([.agg [Cell.int 0,Cell.int 0,Cell.int 0,.lst true 1 [],Cell.int 0,Cell.bool false]],H14)) ((idxA 1 (c12) i13).bind fun c25=>(qbm H14 (c25) [Cell.int i23]).bind fun h26=>qzk k m n (c11) (c12) (IntKind.i64.wrap (i13+1)) h26)) none) (qyq k m m (c11) (c12) i13 i13 H14)) (qyq k m m (c11) (c12) i13 i13 H14)
def fdw (k m:Nat)(s1:ByteArray):Option Res:=(callL qkj [.one (Cell.str s1)] []).bind fun r2=>cond (qab qbuc r2.1) ((cI .i64 (qaa r2.1 0) 0).bind fun i3=>(cI .i64 (qaa r2.1 0) 1).bind fun i4=>(cI .i64 (qaa r2.1 0) 2).bind fun i5=>(cC (qaa r2.1 0) 3).bind fun c6=>(cB (qaa r2.1 1) 0).bind fun b7=>cond b7 (some ([.agg [Cell.int i3,Cell.int i4,Cell.int i5,c6,Cell.int 3,Cell.bool true]],r2.2)) ((callL qdm [.one (Cell.str s1),.one (.sc (.int .u8 46))] r2.2).bind fun r8=>cond (qab qtj r8.1) ((cC (qaa r8.1 0) 0).bind fun c9=>(lenC c9).bind fun n10=>cond (decide ((n10:Int) > 3)) (some ([.agg [Cell.int 0,Cell.int 0,Cell.int 0,.lst true 1 [],Cell.int 0,Cell.bool false]],(r8.2++[Entry.mk 1 [[Cell.int 0],[Cell.int 0],[Cell.int 0]] 0 false]))) (qzk k m m (c9) ((.vs r8.2.length 1 0 3 0)) 0 (r8.2++[Entry.mk 1 [[Cell.int 0],[Cell.int 0],[Cell.int 0]] 0 false]))) none)) none
abbrev qonc (k m:Nat):TB:=evC qdgb qhd (evF qdgb (k+1)) m (sub [1,1,1,1,1,1,1,0,2,3] qhd.code) none
abbrev qkqc (k m:Nat):TK:=qay 0 (seqK (evC qdgb qhd (evF qdgb (k+1)) m (sub [1,1,1,1,1,1,1,1] qhd.code) none) (retK qdgb qhd))
abbrev qjec (k m:Nat):TB:=evC qdgb qhd (evF qdgb (k+1)) m (sub [1,1,1,1,1,1,1,1,0,1,2,3] qhd.code) none
abbrev qrnc (k m:Nat):TK:=qay 2 (seqK (evC qdgb qhd (evF qdgb (k+1)) m (sub [1,1,1,1,1,1,1,1,1] qhd.code) none) (retK qdgb qhd))
theorem qseb (k m:Nat):∀ (n:Nat) (c27 c28:Cell) (i29 i30:Int) (H31:List Entry),qca (some [2,5,6,7,10]) (qjec k m) (qrnc k m) n ⟨fT 91 0 [(2,.loc 2 0),(5,.av (.one (c27))),(6,.loc 6 0),(7,.av (.one (c28))),(10,.av (.one (Cell.int i29)))],fX 91 0 [(2,[Cell.int 0,Cell.int 0,Cell.int 0,.lst true 1 [],Cell.int 0,Cell.bool false]),(6,[Cell.int 0,Cell.int 0,Cell.int 0,.lst true 1 [],Cell.int i30,Cell.bool false])],H31⟩=qyq (k+1) m n c27 c28 i29 i30 H31:=by
 intro n
 induction n with
 | zero=>intros;rfl
 | succ n ih=>intros;simp only[qyq,← ih];kernel_rfl
theorem qwfb (k m:Nat):∀ (n:Nat) (c11 c12:Cell) (i13:Int) (H14:List Entry),qca (some [2,5,6,7]) (qonc k m) (qkqc k m) n ⟨fT 91 0 [(2,.loc 2 0),(5,.av (.one (c11))),(6,.loc 6 0),(7,.av (.one (c12)))],fX 91 0 [(2,[Cell.int 0,Cell.int 0,Cell.int 0,.lst true 1 [],Cell.int 0,Cell.bool false]),(6,[Cell.int 0,Cell.int 0,Cell.int 0,.lst true 1 [],Cell.int i13,Cell.bool false])],H14⟩=qzk (k+1) m n c11 c12 i13 H14:=by
 intro n
 induction n with
 | zero=>intros;rfl
 | succ n ih=>intros;simp only[qzk,← qseb k m,← ih];kernel_rfl
theorem qqtc (k m:Nat)(s1:ByteArray):evC qdgb qhd (evF qdgb (k+1)) m qhd.code none (retK qdgb qhd) (enter qhd [.one (Cell.str s1)] [])=fdw (k+1) m s1:=by
 simp only[fdw,← qwfb k m]
 kernel_rfl
theorem qlz {s1:ByteArray}{r:Res}(k:Nat)(h:fdw (k+1) (k+1) s1=some r):qyb [.one (Cell.str s1)] []=some r:=qas (k:=k+2) (Eq.trans (Eq.trans (by kernel_rfl) (qqtc k (k+1) s1)) h)
def qvjc:List (Nat×Run):=[]
def qfjd:Ctx:=ctx qbh qbg qvjc
def qgj:Run:=lim qfjd qfbb
theorem ok_fdr:FnOk Tryz.prog OkT qfbb qgj:=qaq (l:=qvjc) qac tyTab_ok qad okT .nil qfbb
def fdr (k m:Nat)(i1 i2 i3:Int)(c4:Cell)(i5:Int)(b6:Bool):Option Res:=some ([.agg [Cell.int 4,Cell.int i1,Cell.int i2,Cell.int i3,c4]],[])
theorem qkhc (k m:Nat)(i1 i2 i3:Int)(c4:Cell)(i5:Int)(b6:Bool):evC qfjd qjqb (evF qfjd (k+1)) m qjqb.code none (retK qfjd qjqb) (enter qjqb [.agg [Cell.int i1,Cell.int i2,Cell.int i3,c4,Cell.int i5,Cell.bool b6]] [])=fdr (k+1) m i1 i2 i3 c4 i5 b6:=by
 kernel_rfl
theorem qmob {i1 i2 i3:Int}{c4:Cell}{i5:Int}{b6:Bool}{r:Res}(k:Nat)(h:fdr (k+1) (k+1) i1 i2 i3 c4 i5 b6=some r):qgj [.agg [Cell.int i1,Cell.int i2,Cell.int i3,c4,Cell.int i5,Cell.bool b6]] []=some r:=qas (k:=k+2) (Eq.trans (Eq.trans (by kernel_rfl) (qkhc k (k+1) i1 i2 i3 c4 i5 b6)) h)
end
end Go.Ev
