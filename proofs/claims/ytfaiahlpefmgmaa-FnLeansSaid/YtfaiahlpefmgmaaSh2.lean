/- What the evaluator says of the functions, each as a Lean function over cells. Printed by a program of this claim. Conditions: none. -/
import Derived.Test.YtfaiahlpefmgmaaSh1
import Derived.KernelRfl
namespace Go.Ev
open Go Go.Proofs
noncomputable section
set_option maxRecDepth 100000
set_option linter.unusedVariables false
set_option linter.unusedSimpArgs false
def qlob:List (Nat×Run):=[(qhu,qdv),(qkq,qfc),(qca,qdj)]
def qrgb:Ctx:=ctx qdy qdq qlob
def qkr:Run:=lim qrgb qsr
theorem ok_fab:FnOk Try.prog OkT qsr qkr:=qbi (l:=qlob) qam tyTab_ok qag okT (.cons qzg (.cons qhrb (.cons qtu .nil))) qsr
def fab (k m:Nat)(c1:Cell)(s2:ByteArray):Option Res:=(qdv [.one (c1)] []).bind fun r3=>cond (qaa qtz r3.1) ((cC (qab r3.1 0) 0).bind fun c4=>(qfc [.one (Cell.str s2),.one (.fn qca [c4] [])] r3.2).bind fun r5=>cond (qaa qbpb r5.1) ((cC (qab r5.1 0) 0).bind fun c6=>some ([.one (c6)],r5.2)) none) none
theorem qhob (k m:Nat)(c1:Cell)(s2:ByteArray):evC qrgb que (evF qrgb (k+1)) m que.code none (retK qrgb que) (enter que [.one (c1),.one (Cell.str s2)] [])=fab (k+1) m c1 s2:=by
 kernel_rfl
theorem qzn {c1:Cell}{s2:ByteArray}{r:Res}(k:Nat)(h:fab (k+1) (k+1) c1 s2=some r):qkr [.one (c1),.one (Cell.str s2)] []=some r:=qbh (k:=k+2) (Eq.trans (Eq.trans (by kernel_rfl) (qhob k (k+1) c1 s2)) h)
def qmtb:List (Nat×Run):=[(qhu,qdv),(qda,qgu),(qkq,qfc)]
def qqqb:Ctx:=ctx qdy qdq qmtb
def qmu:Run:=lim qqqb qso
theorem ok_faa:FnOk Try.prog OkT qso qmu:=qbi (l:=qmtb) qam tyTab_ok qag okT (.cons qzg (.cons qgrb (.cons qhrb .nil))) qso
def faa (k m:Nat)(c1:Cell)(s2:ByteArray):Option Res:=(qdv [.one (c1)] []).bind fun r3=>cond (qaa qtz r3.1) ((cC (qab r3.1 0) 0).bind fun c4=>(qfc [.one (Cell.str s2),.one (.fn qda [c4] [])] r3.2).bind fun r5=>cond (qaa qbpb r5.1) ((cC (qab r5.1 0) 0).bind fun c6=>some ([.one (c6)],r5.2)) none) none
theorem qihb (k m:Nat)(c1:Cell)(s2:ByteArray):evC qqqb qvu (evF qqqb (k+1)) m qvu.code none (retK qqqb qvu) (enter qvu [.one (c1),.one (Cell.str s2)] [])=faa (k+1) m c1 s2:=by
 kernel_rfl
theorem qwe {c1:Cell}{s2:ByteArray}{r:Res}(k:Nat)(h:faa (k+1) (k+1) c1 s2=some r):qmu [.one (c1),.one (Cell.str s2)] []=some r:=qbh (k:=k+2) (Eq.trans (Eq.trans (by kernel_rfl) (qihb k (k+1) c1 s2)) h)
def qpxb:List (Nat×Run):=[]
def qqyb:Ctx:=ctx qdy qdq qpxb
def qks:Run:=lim qqyb qgp
theorem qpjb:FnOk Try.prog OkT qgp qks:=qbi (l:=qpxb) qam tyTab_ok qag okT .nil qgp
def fad (k m:Nat)(s1:ByteArray)(c2 c3 c4 c5:Cell)(H:List Entry):Option Res:=(deref H (c5)).bind fun p6=>(cS p6.1 p6.2).bind fun s7=>some ([.one (Cell.bool (s1.toList==s7.toList))],H)
theorem qjhb (k m:Nat)(s1:ByteArray)(c2 c3 c4 c5:Cell)(H:List Entry):evC qqyb qur (evF qqyb (k+1)) m qur.code none (retK qqyb qur) (enter qur [.agg [Cell.str s1,c2,c3,c4],.one (c5)] H)=fad (k+1) m s1 c2 c3 c4 c5 H:=by
 kernel_rfl
theorem qxa {s1:ByteArray}{c2 c3 c4 c5:Cell}{H:List Entry}{r:Res}(k:Nat)(h:fad (k+1) (k+1) s1 c2 c3 c4 c5 H=some r):qks [.agg [Cell.str s1,c2,c3,c4],.one (c5)] H=some r:=qbh (k:=k+2) (Eq.trans (Eq.trans (by kernel_rfl) (qjhb k (k+1) s1 c2 c3 c4 c5 H)) h)
def qpkb:List (Nat×Run):=[(qgp,qks)]
def qcwb:Ctx:=ctx qdy qdq qpkb
def qrv:Run:=lim qcwb qsz
theorem ok_fba:FnOk Try.prog OkT qsz qrv:=qbi (l:=qpkb) qam tyTab_ok qag okT (.cons qpjb .nil) qsz
def qae (k m:Nat):Nat→Cell→Cell→Int→Int→List Entry→Option Res | 0,_,_,_,_,_=>none | n+1,c3,c4,i5,i6,H7=>cond (decide (i6 < i5)) ((idxA 4 (c3) i6).bind fun c8=>(deref H7 (c8)).bind fun p9=>(cS p9.1 p9.2).bind fun s10=>(cC p9.1 (p9.2+1)).bind fun c11=>(cC p9.1 ((p9.2+1)+1)).bind fun c12=>(cC p9.1 (((p9.2+1)+1)+1)).bind fun c13=>(qks [.agg [Cell.str s10,c11,c12,c13],.one (c4)] H7).bind fun r14=>cond (qaa qpfb r14.1) ((cB (qab r14.1 0) 0).bind fun b15=>cond b15 (some ([.one (Cell.int i6)],r14.2)) (qae k m n (c3) (c4) i5 (IntKind.i64.wrap (i6+1)) r14.2)) none) (some ([.one (Cell.int (-1))],H7))
def qaz (k m:Nat)(c1 q2:Cell)(H:List Entry):Option Res:=(lenC c1).bind fun n2=>qae k m m (c1) (q2) (n2:Int) 0 H
abbrev qcx (k m:Nat):TB:=evC qcwb qio (evF qcwb (k+1)) m (sub [1,0,1,2,3] qio.code) none
abbrev qcz (k m:Nat):TK:=qbb 0 (seqK (evC qcwb qio (evF qcwb (k+1)) m (sub [1,1] qio.code) none) (retK qcwb qio))
theorem qcw (k m:Nat):∀ (n:Nat) (c3 c4:Cell) (i5 i6:Int) (H7:List Entry),qbz (some [0,1,7,8]) (qcx k m) (qcz k m) n ⟨fT 19 0 [(0,.av (.one (c3))),(1,.av (.one (.fn qgp [] [c4]))),(7,.av (.one (Cell.int i5))),(8,.av (.one (Cell.int i6)))],fX 19 0 [],H7⟩=qae (k+1) m n c3 c4 i5 i6 H7:=by
 intro n
 induction n with
 | zero=>intros;rfl
 | succ n ih=>intros;simp only[qae,← ih];kernel_rfl
theorem qcy (k m:Nat)(c1 q2:Cell)(H:List Entry):evC qcwb qio (evF qcwb (k+1)) m qio.code none (retK qcwb qio) (enter qio [.one (c1),.one (.fn qgp [] [q2])] H)=qaz (k+1) m c1 q2 H:=by
 simp only[qaz,← qcw k m]
 kernel_rfl
theorem qcn {c1 q2:Cell}{H:List Entry}{r:Res}(k:Nat)(h:qaz (k+1) (k+1) c1 q2 H=some r):qrv [.one (c1),.one (.fn qgp [] [q2])] H=some r:=qbh (k:=k+2) (Eq.trans (Eq.trans (by kernel_rfl) (qcy k (k+1) c1 q2 H)) h)
def qmkb:List (Nat×Run):=[(qsz,qrv),(qgp,qks)]
def qqpb:Ctx:=ctx qdy qdq qmkb
def qpb:Run:=lim qqpb qrt
theorem ok_fac:FnOk Try.prog OkT qrt qpb:=qbi (l:=qmkb) qam tyTab_ok qag okT (.cons ok_fba (.cons qpjb .nil)) qrt
def fac (k m:Nat)(c1:Cell)(s2:ByteArray):Option Res:=(qrv [.one (c1),.one (.fn qgp [] [.ptr 0 1 0 0 0])] [Entry.mk 1 [[Cell.str s2]] 0 false]).bind fun r3=>cond (qaa qneb r3.1) ((cI .i64 (qab r3.1 0) 0).bind fun i4=>some ([.one (Cell.int i4)],r3.2)) none
theorem qkab (k m:Nat)(c1:Cell)(s2:ByteArray):evC qqpb qul (evF qqpb (k+1)) m qul.code none (retK qqpb qul) (enter qul [.one (c1),.one (Cell.str s2)] [])=fac (k+1) m c1 s2:=by
 kernel_rfl
theorem qyi {c1:Cell}{s2:ByteArray}{r:Res}(k:Nat)(h:fac (k+1) (k+1) c1 s2=some r):qpb [.one (c1),.one (Cell.str s2)] []=some r:=qbh (k:=k+2) (Eq.trans (Eq.trans (by kernel_rfl) (qkab k (k+1) c1 s2)) h)
def qobb:List (Nat×Run):=[(qrw,qna),(qsv,qkn),(qsw,qoa),(qsj,qns),(qsb,qek),(qtl,qoy),(qsr,qkr),(qso,qmu),(qrt,qpb)]
def qjz:Ctx:=ctx qdy qdq qobb
def qxt:Run:=lim qjz qzc
theorem ok_fat:FnOk Try.prog OkT qzc qxt:=qbi (l:=qobb) qam tyTab_ok qag okT (.cons ok_fau (.cons ok_fbe (.cons ok_faf (.cons ok_fae (.cons ok_fav (.cons ok_fah (.cons ok_fab (.cons ok_faa (.cons ok_fac .nil))))))))) qzc
def qqn (k m:Nat)(b_l2:Cell→Cell→Bool→Int→List Entry→Option Res):Nat→Cell→Cell→Bool→Int→Int→Int→List Entry→Option Res | 0,_,_,_,_,_,_,_=>none | n+1,c72,c73,b74,i75,i76,i77,H78=>(idxA 4 (c72) i76).bind fun c79=>(fldA c79 1).bind fun c80=>(deref H78 (c80)).bind fun p81=>(cC p81.1 p81.2).bind fun c82=>(lenC c82).bind fun n83=>cond (decide (i77 < (n83:Int))) ((slcC 1 (c73) 0 (some i75) none).bind fun c84=>(idxA 4 (c72) i76).bind fun c85=>(fldA c85 1).bind fun c86=>(deref H78 (c86)).bind fun p87=>(cC p87.1 p87.2).bind fun c88=>(idxA 1 (c88) i77).bind fun c89=>(deref H78 (c89)).bind fun p90=>(cS p90.1 p90.2).bind fun s91=>(qeh qek [.one (c84),.one (Cell.str s91)] H78).bind fun r92=>cond (qaa qnh r92) ((cB (qab r92 0) 0).bind fun b93=>cond (!b93) (some ([.one (Cell.bool false)],H78)) (qqn k m b_l2 n (c72) (c73) b74 i75 i76 (IntKind.i64.wrap (i77+1)) H78)) none) (b_l2 (c72) (c73) b74 (IntKind.i64.wrap (i75+1)) H78)
def qof (k m:Nat):Nat→Cell→Cell→Bool→Int→List Entry→Option Res | 0,_,_,_,_,_=>none | n+1,c61,c62,b63,i64,H65=>(lenC c62).bind fun n66=>cond (decide (i64 < (n66:Int))) ((idxA 1 (c62) i64).bind fun c67=>(deref H65 (c67)).bind fun p68=>(cS p68.1 p68.2).bind fun s69=>(qeh qpb [.one (c61),.one (Cell.str s69)] H65).bind fun r70=>cond (qaa qlrb r70) ((cI .i64 (qab r70 0) 0).bind fun i71=>qqn k m (qof k m n) m (c61) (c62) b63 i64 i71 0 H65) none) (cond (!b63) ((lenC c62).bind fun n94=>cond ((n94:Int)==0) (some ([.one (Cell.bool true)],H65)) ((lenC c62).bind fun n95=>(lenC c61).bind fun n96=>some ([.one (Cell.bool ((n95:Int)==(n96:Int)))],H65))) ((lenC c62).bind fun n97=>(lenC c61).bind fun n98=>some ([.one (Cell.bool ((n97:Int)==(n98:Int)))],H65)))
def qox (k m:Nat)(b_l0:Cell→Cell→Bool→Int→List Entry→Option Res):Nat→Cell→Cell→Bool→Int→Int→List Entry→Option Res | 0,_,_,_,_,_,_=>none | n+1,c18,c19,b20,i21,i22,H23=>(lenC c18).bind fun n24=>cond (decide (i22 < (n24:Int))) ((idxA 4 (c18) i21).bind fun c25=>(fldA c25 0).bind fun c26=>(deref H23 (c26)).bind fun p27=>(cS p27.1 p27.2).bind fun s28=>(idxA 4 (c18) i22).bind fun c29=>(fldA c29 0).bind fun c30=>(deref H23 (c30)).bind fun p31=>(cS p31.1 p31.2).bind fun s32=>(idxA 4 (c18) i21).bind fun c33=>(fldA c33 1).bind fun c34=>(deref H23 (c34)).bind fun p35=>(cC p35.1 p35.2).bind fun c36=>(qeh qek [.one (c36),.one (Cell.str s32)] H23).bind fun r37=>cond (qaa qnh r37) ((cB (qab r37 0) 0).bind fun b38=>(qil qoy [.one (c18),.one (Cell.str s32)] H23).bind fun r39=>cond (qaa qofb r39.1) ((cC (qab r39.1 0) 0).bind fun c40=>(qeh qek [.one (c40),.one (Cell.str s28)] r39.2).bind fun r41=>cond (qaa qnh r41) ((cB (qab r41 0) 0).bind fun b42=>cond (!(b38==b42)) (some ([.one (Cell.bool false)],r39.2)) ((qil qkr [.one (c18),.one (Cell.str s28)] r39.2).bind fun r43=>cond (qaa qksb r43.1) ((cC (qab r43.1 0) 0).bind fun c44=>(qeh qek [.one (c44),.one (Cell.str s32)] r43.2).bind fun r45=>cond (qaa qnh r45) ((cB (qab r45 0) 0).bind fun b46=>(qil qmu [.one (c18),.one (Cell.str s32)] r43.2).bind fun r47=>cond (qaa qplb r47.1) ((cC (qab r47.1 0) 0).bind fun c48=>(qeh qek [.one (c48),.one (Cell.str s28)] r47.2).bind fun r49=>cond (qaa qnh r49) ((cB (qab r49 0) 0).bind fun b50=>cond (!(b46==b50)) (some ([.one (Cell.bool false)],r47.2)) ((idxA 4 (c18) i21).bind fun c51=>(fldA c51 1).bind fun c52=>(deref r47.2 (c52)).bind fun p53=>(cC p53.1 p53.2).bind fun c54=>(qeh qek [.one (c54),.one (Cell.str s32)] r47.2).bind fun r55=>cond (qaa qnh r55) ((cB (qab r55 0) 0).bind fun b56=>cond b56 ((qil qkr [.one (c18),.one (Cell.str s28)] r47.2).bind fun r57=>cond (qaa qksb r57.1) ((cC (qab r57.1 0) 0).bind fun c58=>(qeh qek [.one (c58),.one (Cell.str s32)] r57.2).bind fun r59=>cond (qaa qnh r59) ((cB (qab r59 0) 0).bind fun b60=>cond (!b60) (some ([.one (Cell.bool false)],r57.2)) (qox k m b_l0 n (c18) (c19) b20 i21 (IntKind.i64.wrap (i22+1)) r57.2)) none) none) (qox k m b_l0 n (c18) (c19) b20 i21 (IntKind.i64.wrap (i22+1)) r47.2)) none)) none) none) none) none)) none) none) none) (b_l0 (c18) (c19) b20 (IntKind.i64.wrap (i21+1)) H23)
def qni (k m:Nat):Nat→Cell→Cell→Bool→Int→List Entry→Option Res | 0,_,_,_,_,_=>none | n+1,c12,c13,b14,i15,H16=>(lenC c12).bind fun n17=>cond (decide (i15 < (n17:Int))) (qox k m (qni k m n) m (c12) (c13) b14 i15 0 H16) (qof k m m (c12) (c13) b14 0 H16)
def fat (k m:Nat)(c1:Cell):Option Res:=(qeh qna [.one (c1)] []).bind fun r2=>cond (qaa qoxb r2) ((cB (qab r2 0) 0).bind fun b3=>cond b3 (some ([.one (Cell.bool true)],[])) ((callL qkn [.one (c1)] []).bind fun r4=>cond (qaa qnbb r4.1) ((cC (qab r4.1 0) 0).bind fun c5=>(qil qoa [.one (c5)] r4.2).bind fun r6=>cond (qaa qotb r6.1) ((cC (qab r6.1 0) 0).bind fun c7=>(qil qns [.one (c5)] r6.2).bind fun r8=>cond (qaa qoob r8.1) ((cC (qab r8.1 0) 0).bind fun c9=>(cB (qab r8.1 1) 0).bind fun b10=>(lenC c7).bind fun n11=>cond (!(b10==((n11:Int)==0))) (some ([.one (Cell.bool false)],r8.2)) (qni k m m (c5) (c9) b10 0 r8.2)) none) none) none)) none
abbrev qrd (k m:Nat):TB:=evC qjz qdb (evF qjz (k+1)) m (sub [1,1,1,1,1,1,0,1,2,3] qdb.code) none
abbrev qlw (k m:Nat):TK:=qbb 0 (seqK (evC qjz qdb (evF qjz (k+1)) m (sub [1,1,1,1,1,1,1] qdb.code) none) (retK qjz qdb))
abbrev qizb (k m:Nat):TB:=evC qjz qdb (evF qjz (k+1)) m (sub [1,1,1,1,1,1,0,1,2,3,1,0,2,1,2,3] qdb.code) none
abbrev qhub (k m:Nat)(n_l0:Nat):TK:=qbb 2 (qbb 1 (seqK (evC qjz qdb (evF qjz (k+1)) m (sub [1,1,1,1,1,1,0,1,2,3,1,1] qdb.code) none) (qwz (fun s=>qbz (some [3,5,6,7]) (qrd k m) (qlw k m) n_l0 (qkd (some [3,5,6,7]) s)) (qlw k m))))
abbrev qqp (k m:Nat):TB:=evC qjz qdb (evF qjz (k+1)) m (sub [1,1,1,1,1,1,1,0,1,2,3] qdb.code) none
abbrev qmk (k m:Nat):TK:=qbb 4 (seqK (evC qjz qdb (evF qjz (k+1)) m (sub [1,1,1,1,1,1,1,1] qdb.code) none) (retK qjz qdb))
abbrev qkcb (k m:Nat):TB:=evC qjz qdb (evF qjz (k+1)) m (sub [1,1,1,1,1,1,1,0,1,2,3,1,0,2,1,1,2,3] qdb.code) none
abbrev qgpb (k m:Nat)(n_l2:Nat):TK:=qbb 6 (qbb 5 (seqK (evC qjz qdb (evF qjz (k+1)) m (sub [1,1,1,1,1,1,1,0,1,2,3,1,1] qdb.code) none) (qwz (fun s=>qbz (some [3,5,6,11]) (qqp k m) (qmk k m) n_l2 (qkd (some [3,5,6,11]) s)) (qmk k m))))
theorem qebb (k m:Nat)(b_l2:Cell→Cell→Bool→Int→List Entry→Option Res)(n_l2:Nat)(h_l2:∀ (c61 c62:Cell) (b63:Bool) (i64:Int) (H65:List Entry),qbz (some [3,5,6,11]) (qqp k m) (qmk k m) n_l2 ⟨fT 142 0 [(3,.av (.one (c61))),(5,.av (.one (c62))),(6,.av (.one (Cell.bool b63))),(11,.av (.one (Cell.int i64)))],fX 142 0 [],H65⟩=b_l2 c61 c62 b63 i64 H65):∀ (n:Nat) (c72 c73:Cell) (b74:Bool) (i75 i76 i77:Int) (H78:List Entry),qbz (some [3,5,6,11,12,13]) (qkcb k m) (qgpb k m n_l2) n ⟨fT 142 0 [(3,.av (.one (c72))),(5,.av (.one (c73))),(6,.av (.one (Cell.bool b74))),(11,.av (.one (Cell.int i75))),(12,.av (.one (Cell.int i76))),(13,.av (.one (Cell.int i77)))],fX 142 0 [],H78⟩=qqn (k+1) m b_l2 n c72 c73 b74 i75 i76 i77 H78:=by
 intro n
 induction n with
 | zero=>intros;rfl
 | succ n ih=>intros;simp only[qqn,← h_l2,← ih];kernel_rfl
theorem qenb (k m:Nat):∀ (n:Nat) (c61 c62:Cell) (b63:Bool) (i64:Int) (H65:List Entry),qbz (some [3,5,6,11]) (qqp k m) (qmk k m) n ⟨fT 142 0 [(3,.av (.one (c61))),(5,.av (.one (c62))),(6,.av (.one (Cell.bool b63))),(11,.av (.one (Cell.int i64)))],fX 142 0 [],H65⟩=qof (k+1) m n c61 c62 b63 i64 H65:=by
 intro n
 induction n with
 | zero=>intros;rfl
 | succ n ih=>intros;simp only[qof,← qebb k m _ _ (ih)];kernel_rfl
theorem qbgb (k m:Nat)(b_l0:Cell→Cell→Bool→Int→List Entry→Option Res)(n_l0:Nat)(h_l0:∀ (c12 c13:Cell) (b14:Bool) (i15:Int) (H16:List Entry),qbz (some [3,5,6,7]) (qrd k m) (qlw k m) n_l0 ⟨fT 142 0 [(3,.av (.one (c12))),(5,.av (.one (c13))),(6,.av (.one (Cell.bool b14))),(7,.av (.one (Cell.int i15)))],fX 142 0 [],H16⟩=b_l0 c12 c13 b14 i15 H16):∀ (n:Nat) (c18 c19:Cell) (b20:Bool) (i21 i22:Int) (H23:List Entry),qbz (some [3,5,6,7,8]) (qizb k m) (qhub k m n_l0) n ⟨fT 142 0 [(3,.av (.one (c18))),(5,.av (.one (c19))),(6,.av (.one (Cell.bool b20))),(7,.av (.one (Cell.int i21))),(8,.av (.one (Cell.int i22)))],fX 142 0 [],H23⟩=qox (k+1) m b_l0 n c18 c19 b20 i21 i22 H23:=by
 intro n
 induction n with
 | zero=>intros;rfl
 | succ n ih=>intros;simp only[qox,← h_l0,← ih];kernel_rfl
theorem qawb (k m:Nat):∀ (n:Nat) (c12 c13:Cell) (b14:Bool) (i15:Int) (H16:List Entry),qbz (some [3,5,6,7]) (qrd k m) (qlw k m) n ⟨fT 142 0 [(3,.av (.one (c12))),(5,.av (.one (c13))),(6,.av (.one (Cell.bool b14))),(7,.av (.one (Cell.int i15)))],fX 142 0 [],H16⟩=qni (k+1) m n c12 c13 b14 i15 H16:=by
 intro n
 induction n with
 | zero=>intros;rfl
 | succ n ih=>intros;simp only[qni,← qbgb k m _ _ (ih),← qenb k m];kernel_rfl
theorem qjnb (k m:Nat)(c1:Cell):evC qjz qdb (evF qjz (k+1)) m qdb.code none (retK qjz qdb) (enter qdb [.one (c1)] [])=fat (k+1) m c1:=by
 simp only[fat,← qawb k m]
 kernel_rfl
theorem qoi {c1:Cell}{r:Res}(k:Nat)(h:fat (k+1) (k+1) c1=some r):qxt [.one (c1)] []=some r:=qbh (k:=k+2) (Eq.trans (Eq.trans (by kernel_rfl) (qjnb k (k+1) c1)) h)
end
end Go.Ev
