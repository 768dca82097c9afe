/- What the evaluator says of the functions, each as a Lean function over cells. Printed by a program of this claim. Conditions: none. -/
import Derived.Test.YteofbfalngmmeaaGreatDoorEvPr
import Derived.KernelRfl
namespace Go.Ev
open Go Go.Proofs
noncomputable section
set_option maxRecDepth 100000
set_option linter.unusedVariables false
set_option linter.unusedSimpArgs false
def qsxc:List (Nat×Run):=[]
def qegd:Ctx:=ctx qbi qbh qsxc
def qva:Run:=lim qegd qefb
theorem ok_fcf:FnOk Tryz.prog OkT qefb qva:=qao (l:=qsxc) qac tyTab_ok qad okT .nil qefb
def fcf (k m:Nat)(c1:Cell):Option Res:=(lenC c1).bind fun n2=>some ([.one (Cell.bool (decide ((n2:Int) > 1048576)))],[])
theorem qhqc (k m:Nat)(c1:Cell):evC qegd qixb (evF qegd (k+1)) m qixb.code none (retK qegd qixb) (enter qixb [.one (c1)] [])=fcf (k+1) m c1:=by
 kernel_rfl
theorem qqwb {c1:Cell}{r:Res}(k:Nat)(h:fcf (k+1) (k+1) c1=some r):qva [.one (c1)] []=some r:=qap (k:=k+2) (Eq.trans (Eq.trans (by kernel_rfl) (qhqc k (k+1) c1)) h)
def qsyc:List (Nat×Run):=[]
def qexd:Ctx:=ctx qbi qbh qsyc
def qrg:Run:=lim qexd qjs
theorem qcsd:FnOk Tryz.prog OkT qjs qrg:=qao (l:=qsyc) qac tyTab_ok qad okT .nil qjs
def fad (k m:Nat)(s1:ByteArray)(c2 c3 c4 c5:Cell)(H:List Entry):Option Res:=(deref H (c5)).bind fun p6=>(cS p6.1 p6.2).bind fun s7=>some ([.one (Cell.bool (s1.toList==s7.toList))],H)
theorem qjdc (k m:Nat)(s1:ByteArray)(c2 c3 c4 c5:Cell)(H:List Entry):evC qexd qibb (evF qexd (k+1)) m qibb.code none (retK qexd qibb) (enter qibb [.agg [Cell.str s1,c2,c3,c4],.one (c5)] H)=fad (k+1) m s1 c2 c3 c4 c5 H:=by
 kernel_rfl
theorem qoib {s1:ByteArray}{c2 c3 c4 c5:Cell}{H:List Entry}{r:Res}(k:Nat)(h:fad (k+1) (k+1) s1 c2 c3 c4 c5 H=some r):qrg [.agg [Cell.str s1,c2,c3,c4],.one (c5)] H=some r:=qap (k:=k+2) (Eq.trans (Eq.trans (by kernel_rfl) (qjdc k (k+1) s1 c2 c3 c4 c5 H)) h)
def qswc:List (Nat×Run):=[(qjs,qrg)]
def qboc:Ctx:=ctx qbi qbh qswc
def qdfb:Run:=lim qboc qdwb
theorem ok_fcm:FnOk Tryz.prog OkT qdwb qdfb:=qao (l:=qswc) qac tyTab_ok qad okT (.cons qcsd .nil) qdwb
def qat (k m:Nat):Nat→Cell→Cell→Int→Int→List Entry→Option Res | 0,_,_,_,_,_=>none | n+1,c3,c4,i5,i6,H7=>cond (decide (i6 < i5)) ((idxA 4 (c3) i6).bind fun c8=>(deref H7 (c8)).bind fun p9=>(cS p9.1 p9.2).bind fun s10=>(cC p9.1 (p9.2+1)).bind fun c11=>(cC p9.1 ((p9.2+1)+1)).bind fun c12=>(cC p9.1 (((p9.2+1)+1)+1)).bind fun c13=>(qrg [.agg [Cell.str s10,c11,c12,c13],.one (c4)] H7).bind fun r14=>cond (qab qcdd r14.1) ((cB (qaa r14.1 0) 0).bind fun b15=>cond b15 (some ([.one (Cell.int i6)],r14.2)) (qat k m n (c3) (c4) i5 (IntKind.i64.wrap (i6+1)) r14.2)) none) (some ([.one (Cell.int (-1))],H7))
def qbq (k m:Nat)(c1 q2:Cell)(H:List Entry):Option Res:=(lenC c1).bind fun n2=>qat k m m (c1) (q2) (n2:Int) 0 H
abbrev qeh (k m:Nat):TB:=evC qboc qoa (evF qboc (k+1)) m (sub [1,0,1,2,3] qoa.code) none
abbrev qef (k m:Nat):TK:=qaw 0 (seqK (evC qboc qoa (evF qboc (k+1)) m (sub [1,1] qoa.code) none) (retK qboc qoa))
theorem qed (k m:Nat):∀ (n:Nat) (c3 c4:Cell) (i5 i6:Int) (H7:List Entry),qbj (some [0,1,7,8]) (qeh k m) (qef k m) n ⟨fT 19 0 [(0,.av (.one (c3))),(1,.av (.one (.fn qjs [] [c4]))),(7,.av (.one (Cell.int i5))),(8,.av (.one (Cell.int i6)))],fX 19 0 [],H7⟩=qat (k+1) m n c3 c4 i5 i6 H7:=by
 intro n
 induction n with
 | zero=>intros;rfl
 | succ n ih=>intros;simp only[qat,← ih];kernel_rfl
theorem qeg (k m:Nat)(c1 q2:Cell)(H:List Entry):evC qboc qoa (evF qboc (k+1)) m qoa.code none (retK qboc qoa) (enter qoa [.one (c1),.one (.fn qjs [] [q2])] H)=qbq (k+1) m c1 q2 H:=by
 simp only[qbq,← qed k m]
 kernel_rfl
theorem qds {c1 q2:Cell}{H:List Entry}{r:Res}(k:Nat)(h:qbq (k+1) (k+1) c1 q2 H=some r):qdfb [.one (c1),.one (.fn qjs [] [q2])] H=some r:=qap (k:=k+2) (Eq.trans (Eq.trans (by kernel_rfl) (qeg k (k+1) c1 q2 H)) h)
def qbdd:List (Nat×Run):=[(qdwb,qdfb),(qjs,qrg)]
def qdtd:Ctx:=ctx qbi qbh qbdd
def qpu:Run:=lim qdtd qvz
theorem qwtc:FnOk Tryz.prog OkT qvz qpu:=qao (l:=qbdd) qac tyTab_ok qad okT (.cons ok_fcm (.cons qcsd .nil)) qvz
def fac (k m:Nat)(c1:Cell)(s2:ByteArray):Option Res:=(qdfb [.one (c1),.one (.fn qjs [] [.ptr 0 1 0 0 0])] [Entry.mk 1 [[Cell.str s2]] 0 false]).bind fun r3=>cond (qab qcud r3.1) ((cI .i64 (qaa r3.1 0) 0).bind fun i4=>some ([.one (Cell.int i4)],r3.2)) none
theorem qlgc (k m:Nat)(c1:Cell)(s2:ByteArray):evC qdtd qjpb (evF qdtd (k+1)) m qjpb.code none (retK qdtd qjpb) (enter qjpb [.one (c1),.one (Cell.str s2)] [])=fac (k+1) m c1 s2:=by
 kernel_rfl
theorem qsob {c1:Cell}{s2:ByteArray}{r:Res}(k:Nat)(h:fac (k+1) (k+1) c1 s2=some r):qpu [.one (c1),.one (Cell.str s2)] []=some r:=qap (k:=k+2) (Eq.trans (Eq.trans (by kernel_rfl) (qlgc k (k+1) c1 s2)) h)
def qtoc:List (Nat×Run):=[]
def qeud:Ctx:=ctx qbi qbh qtoc
def qes:Run:=lim qeud qln
theorem qqfb:FnOk Tryz.prog OkT qln qes:=qao (l:=qtoc) qac tyTab_ok qad okT .nil qln
def fbh (k m:Nat)(i1 i2 i3:Int):Option Res:=cond (decide (i1≥i2)) (some ([.one (Cell.bool (decide (i1≤i3)))],[])) (some ([.one (Cell.bool false)],[]))
theorem qqbc (k m:Nat)(i1 i2 i3:Int):evC qeud qivb (evF qeud (k+1)) m qivb.code none (retK qeud qivb) (enter qivb [.one (Cell.int i1),.one (Cell.int i2),.one (Cell.int i3)] [])=fbh (k+1) m i1 i2 i3:=by
 kernel_rfl
theorem qppb {i1 i2 i3:Int}{r:Res}(k:Nat)(h:fbh (k+1) (k+1) i1 i2 i3=some r):qes [.one (Cell.int i1),.one (Cell.int i2),.one (Cell.int i3)] []=some r:=qap (k:=k+2) (Eq.trans (Eq.trans (by kernel_rfl) (qqbc k (k+1) i1 i2 i3)) h)
def qtfc:List (Nat×Run):=[]
def qfad:Ctx:=ctx qbi qbh qtfc
def qoc:Run:=lim qfad qvm
theorem qczd:FnOk Tryz.prog OkT qvm qoc:=qao (l:=qtfc) qac tyTab_ok qad okT .nil qvm
def fbm (k m:Nat)(i1:Int):Option Res:=cond (decide (i1≥97)) (some ([.one (Cell.bool (decide (i1≤122)))],[])) (some ([.one (Cell.bool false)],[]))
theorem qotc (k m:Nat)(i1:Int):evC qfad qkxb (evF qfad (k+1)) m qkxb.code none (retK qfad qkxb) (enter qkxb [.one (.sc (.int .u8 i1))] [])=fbm (k+1) m i1:=by
 kernel_rfl
theorem qmvb {i1:Int}{r:Res}(k:Nat)(h:fbm (k+1) (k+1) i1=some r):qoc [.one (.sc (.int .u8 i1))] []=some r:=qap (k:=k+2) (Eq.trans (Eq.trans (by kernel_rfl) (qotc k (k+1) i1)) h)
def qxyc:List (Nat×Run):=[]
def qekd:Ctx:=ctx qbi qbh qxyc
def qge:Run:=lim qekd qop
theorem qxob:FnOk Tryz.prog OkT qop qge:=qao (l:=qxyc) qac tyTab_ok qad okT .nil qop
def fbj (k m:Nat)(i1:Int):Option Res:=cond (decide (i1≥48)) (some ([.one (Cell.bool (decide (i1≤57)))],[])) (some ([.one (Cell.bool false)],[]))
theorem qjvc (k m:Nat)(i1:Int):evC qekd qjnb (evF qekd (k+1)) m qjnb.code none (retK qekd qjnb) (enter qjnb [.one (.sc (.int .u8 i1))] [])=fbj (k+1) m i1:=by
 kernel_rfl
theorem qnzb {i1:Int}{r:Res}(k:Nat)(h:fbj (k+1) (k+1) i1=some r):qge [.one (.sc (.int .u8 i1))] []=some r:=qap (k:=k+2) (Eq.trans (Eq.trans (by kernel_rfl) (qjvc k (k+1) i1)) h)
def qvkc:List (Nat×Run):=[(qln,qes),(qvm,qoc),(qop,qge)]
def qdsc:Ctx:=ctx qbi qbh qvkc
def qgk:Run:=lim qdsc qon
theorem qzpb:FnOk Tryz.prog OkT qon qgk:=qao (l:=qvkc) qac tyTab_ok qad okT (.cons qqfb (.cons qczd (.cons qxob .nil))) qon
def qtb (k m:Nat):Nat→ByteArray→Int→Option Res | 0,_,_=>none | n+1,s2,i3=>cond (decide (i3 < (s2.size:Int))) ((bytS s2 i3).bind fun i4=>(qbc qoc [.one (.sc (.int .u8 i4))] []).bind fun r5=>cond (qab qlnc r5) ((cB (qaa r5 0) 0).bind fun b6=>cond (!b6) (cond (i3==0) (some ([.one (Cell.bool false)],[])) ((bytS s2 i3).bind fun i7=>(qbc qge [.one (.sc (.int .u8 i7))] []).bind fun r8=>cond (qab qjeb r8) ((cB (qaa r8 0) 0).bind fun b9=>cond (!b9) ((bytS s2 i3).bind fun i10=>cond (i10 != 45) (some ([.one (Cell.bool false)],[])) (qtb k m n s2 (IntKind.i64.wrap (i3+1)))) (qtb k m n s2 (IntKind.i64.wrap (i3+1)))) none)) (qtb k m n s2 (IntKind.i64.wrap (i3+1)))) none) ((qbc qes [.one (Cell.int (s2.size:Int)),.one (Cell.int 1),.one (Cell.int 10)] []).bind fun r11=>cond (qab qzy r11) ((cB (qaa r11 0) 0).bind fun b12=>some ([.one (Cell.bool b12)],[])) none)
def fae (k m:Nat)(s1:ByteArray):Option Res:=qtb k m m s1 0
abbrev qgrc (k m:Nat):TB:=evC qdsc qmq (evF qdsc (k+1)) m (sub [1,0,1,2,3] qmq.code) none
abbrev qigc (k m:Nat):TK:=qaw 0 (seqK (evC qdsc qmq (evF qdsc (k+1)) m (sub [1,1] qmq.code) none) (retK qdsc qmq))
theorem qvdb (k m:Nat):∀ (n:Nat) (s2:ByteArray) (i3:Int),qbj (some [0,3]) (qgrc k m) (qigc k m) n ⟨fT 35 0 [(0,.av (.one (Cell.str s2))),(3,.av (.one (Cell.int i3)))],fX 35 0 [],[]⟩=qtb (k+1) m n s2 i3:=by
 intro n
 induction n with
 | zero=>intros;rfl
 | succ n ih=>intros;simp only[qtb,← ih];kernel_rfl
theorem qkgc (k m:Nat)(s1:ByteArray):evC qdsc qmq (evF qdsc (k+1)) m qmq.code none (retK qdsc qmq) (enter qmq [.one (Cell.str s1)] [])=fae (k+1) m s1:=by
 simp only[fae,← qvdb k m]
 kernel_rfl
theorem qsgb {s1:ByteArray}{r:Res}(k:Nat)(h:fae (k+1) (k+1) s1=some r):qgk [.one (Cell.str s1)] []=some r:=qap (k:=k+2) (Eq.trans (Eq.trans (by kernel_rfl) (qkgc k (k+1) s1)) h)
def qyvc:List (Nat×Run):=[]
def qfgd:Ctx:=ctx qbi qbh qyvc
def qxx:Run:=lim qfgd qedb
theorem ok_fbl:FnOk Tryz.prog OkT qedb qxx:=qao (l:=qyvc) qac tyTab_ok qad okT .nil qedb
def fbl (k m:Nat)(i1:Int):Option Res:=cond (decide (i1≥32)) (some ([.one (Cell.bool (decide (i1≤126)))],[])) (some ([.one (Cell.bool false)],[]))
theorem qonc (k m:Nat)(i1:Int):evC qfgd qlkb (evF qfgd (k+1)) m qlkb.code none (retK qfgd qlkb) (enter qlkb [.one (.sc (.int .u8 i1))] [])=fbl (k+1) m i1:=by
 kernel_rfl
theorem qqub {i1:Int}{r:Res}(k:Nat)(h:fbl (k+1) (k+1) i1=some r):qxx [.one (.sc (.int .u8 i1))] []=some r:=qap (k:=k+2) (Eq.trans (Eq.trans (by kernel_rfl) (qonc k (k+1) i1)) h)
def qxuc:List (Nat×Run):=[(qedb,qxx)]
def qxbb:Ctx:=ctx qbi qbh qxuc
def qrv:Run:=lim qxbb qdob
theorem ok_fam:FnOk Tryz.prog OkT qdob qrv:=qao (l:=qxuc) qac tyTab_ok qad okT (.cons ok_fbl .nil) qdob
def qbxb (k m:Nat):Nat→ByteArray→Int→Int→Option Res | 0,_,_,_=>none | n+1,s3,i4,i5=>cond (decide (i5 < (s3.size:Int))) ((bytS s3 i5).bind fun i6=>(qbc qxx [.one (.sc (.int .u8 i6))] []).bind fun r7=>cond (qab qwvc r7) ((cB (qaa r7 0) 0).bind fun b8=>cond (!b8) (some ([.one (Cell.bool false)],[])) (qbxb k m n s3 i4 (IntKind.i64.wrap (i5+1)))) none) (some ([.one (Cell.bool (decide ((s3.size:Int)≤i4)))],[]))
def fam (k m:Nat)(s1:ByteArray)(i2:Int):Option Res:=qbxb k m m s1 i2 0
abbrev qpmc (k m:Nat):TB:=evC qxbb qpw (evF qxbb (k+1)) m (sub [1,0,1,2,3] qpw.code) none
abbrev qqhc (k m:Nat):TK:=qaw 0 (seqK (evC qxbb qpw (evF qxbb (k+1)) m (sub [1,1] qpw.code) none) (retK qxbb qpw))
theorem qtab (k m:Nat):∀ (n:Nat) (s3:ByteArray) (i4 i5:Int),qbj (some [0,1,5]) (qpmc k m) (qqhc k m) n ⟨fT 21 0 [(0,.av (.one (Cell.str s3))),(1,.av (.one (Cell.int i4))),(5,.av (.one (Cell.int i5)))],fX 21 0 [],[]⟩=qbxb (k+1) m n s3 i4 i5:=by
 intro n
 induction n with
 | zero=>intros;rfl
 | succ n ih=>intros;simp only[qbxb,← ih];kernel_rfl
theorem qgcc (k m:Nat)(s1:ByteArray)(i2:Int):evC qxbb qpw (evF qxbb (k+1)) m qpw.code none (retK qxbb qpw) (enter qpw [.one (Cell.str s1),.one (Cell.int i2)] [])=fam (k+1) m s1 i2:=by
 simp only[fam,← qtab k m]
 kernel_rfl
theorem qpgb {s1:ByteArray}{i2:Int}{r:Res}(k:Nat)(h:fam (k+1) (k+1) s1 i2=some r):qrv [.one (Cell.str s1),.one (Cell.int i2)] []=some r:=qap (k:=k+2) (Eq.trans (Eq.trans (by kernel_rfl) (qgcc k (k+1) s1 i2)) h)
def qxvc:List (Nat×Run):=[(qon,qgk),(qdob,qrv),(qln,qes)]
def qdqc:Ctx:=ctx qbi qbh qxvc
def qxh:Run:=lim qdqc qdub
theorem ok_fav:FnOk Tryz.prog OkT qdub qxh:=qao (l:=qxvc) qac tyTab_ok qad okT (.cons qzpb (.cons ok_fam (.cons qqfb .nil))) qdub
def qbtb (k m:Nat):Nat→Cell→Int→Int→ByteArray→Cell→Option Res | 0,_,_,_,_,_=>none | n+1,c4,i5,i6,s7,c8=>cond (decide (i6 < i5)) ((idxA 1 (c4) i6).bind fun c9=>(deref [] (c9)).bind fun p10=>(cS p10.1 p10.2).bind fun s11=>(qbc qrv [.one (Cell.str s11),.one (Cell.int 40)] []).bind fun r12=>cond (qab qxpc r12) ((cB (qaa r12 0) 0).bind fun b13=>cond (!b13) (some ([.one (Cell.bool false)],[])) (qbtb k m n (c4) i5 (IntKind.i64.wrap (i6+1)) s7 (c8))) none) ((qbc qgk [.one (Cell.str s7)] []).bind fun r14=>cond (qab qqgb r14) ((cB (qaa r14 0) 0).bind fun b15=>cond b15 ((lenC c8).bind fun n16=>(qbc qes [.one (Cell.int (n16:Int)),.one (Cell.int 1),.one (Cell.int 5)] []).bind fun r17=>cond (qab qzy r17) ((cB (qaa r17 0) 0).bind fun b18=>some ([.one (Cell.bool b18)],[])) none) (some ([.one (Cell.bool false)],[]))) none)
def fav (k m:Nat)(s1:ByteArray)(c2:Cell):Option Res:=(lenC c2).bind fun n3=>qbtb k m m (c2) (n3:Int) 0 s1 (c2)
abbrev qrcc (k m:Nat):TB:=evC qdqc qnp (evF qdqc (k+1)) m (sub [1,0,1,2,3] qnp.code) none
abbrev qpxc (k m:Nat):TK:=qaw 0 (seqK (evC qdqc qnp (evF qdqc (k+1)) m (sub [1,1] qnp.code) none) (retK qdqc qnp))
theorem qbuc (k m:Nat):∀ (n:Nat) (c4:Cell) (i5 i6:Int) (s7:ByteArray) (c8:Cell),qbj (some [1,6,7,8]) (qrcc k m) (qpxc k m) n ⟨fT 25 0 [(1,.loc 1 0),(6,.av (.one (c4))),(7,.av (.one (Cell.int i5))),(8,.av (.one (Cell.int i6)))],fX 25 0 [(1,[Cell.str s7,c8])],[]⟩=qbtb (k+1) m n c4 i5 i6 s7 c8:=by
 intro n
 induction n with
 | zero=>intros;rfl
 | succ n ih=>intros;simp only[qbtb,← ih];kernel_rfl
theorem qqxc (k m:Nat)(s1:ByteArray)(c2:Cell):evC qdqc qnp (evF qdqc (k+1)) m qnp.code none (retK qdqc qnp) (enter qnp [.agg [Cell.str s1,c2]] [])=fav (k+1) m s1 c2:=by
 simp only[fav,← qbuc k m]
 kernel_rfl
theorem qmzb {s1:ByteArray}{c2:Cell}{r:Res}(k:Nat)(h:fav (k+1) (k+1) s1 c2=some r):qxh [.agg [Cell.str s1,c2]] []=some r:=qap (k:=k+2) (Eq.trans (Eq.trans (by kernel_rfl) (qqxc k (k+1) s1 c2)) h)
def qssc:List (Nat×Run):=[(qon,qgk)]
def qwtb:Ctx:=ctx qbi qbh qssc
def qrw:Run:=lim qwtb qfrb
theorem ok_fbo:FnOk Tryz.prog OkT qfrb qrw:=qao (l:=qssc) qac tyTab_ok qad okT (.cons qzpb .nil) qfrb
def qbpb (k m:Nat):Nat→Cell→Int→Cell→Int→Int→Option Res | 0,_,_,_,_,_=>none | n+1,c4,i5,c6,i7,i8=>cond (decide (i8 < i7)) ((idxA 1 (c6) i8).bind fun c9=>(deref [] (c9)).bind fun p10=>(cS p10.1 p10.2).bind fun s11=>(qbc qgk [.one (Cell.str s11)] []).bind fun r12=>cond (qab qqgb r12) ((cB (qaa r12 0) 0).bind fun b13=>cond (!b13) (some ([.one (Cell.bool false)],[])) (qbpb k m n (c4) i5 (c6) i7 (IntKind.i64.wrap (i8+1)))) none) ((lenC c4).bind fun n14=>some ([.one (Cell.bool (decide ((n14:Int)≤i5)))],[]))
def fbo (k m:Nat)(c1:Cell)(i2:Int):Option Res:=(lenC c1).bind fun n3=>qbpb k m m (c1) i2 (c1) (n3:Int) 0
abbrev qgec (k m:Nat):TB:=evC qwtb qqg (evF qwtb (k+1)) m (sub [1,0,1,2,3] qqg.code) none
abbrev qlrc (k m:Nat):TK:=qaw 0 (seqK (evC qwtb qqg (evF qwtb (k+1)) m (sub [1,1] qqg.code) none) (retK qwtb qqg))
theorem qzsb (k m:Nat):∀ (n:Nat) (c4:Cell) (i5:Int) (c6:Cell) (i7 i8:Int),qbj (some [0,1,7,8,9]) (qgec k m) (qlrc k m) n ⟨fT 21 0 [(0,.av (.one (c4))),(1,.av (.one (Cell.int i5))),(7,.av (.one (c6))),(8,.av (.one (Cell.int i7))),(9,.av (.one (Cell.int i8)))],fX 21 0 [],[]⟩=qbpb (k+1) m n c4 i5 c6 i7 i8:=by
 intro n
 induction n with
 | zero=>intros;rfl
 | succ n ih=>intros;simp only[qbpb,← ih];kernel_rfl
theorem qhkc (k m:Nat)(c1:Cell)(i2:Int):evC qwtb qqg (evF qwtb (k+1)) m qqg.code none (retK qwtb qqg) (enter qqg [.one (c1),.one (Cell.int i2)] [])=fbo (k+1) m c1 i2:=by
 simp only[fbo,← qzsb k m]
 kernel_rfl
theorem qogb {c1:Cell}{i2:Int}{r:Res}(k:Nat)(h:fbo (k+1) (k+1) c1 i2=some r):qrw [.one (c1),.one (Cell.int i2)] []=some r:=qap (k:=k+2) (Eq.trans (Eq.trans (by kernel_rfl) (qhkc k (k+1) c1 i2)) h)
def qymc:List (Nat×Run):=[]
def quxb:Ctx:=ctx qbi qbh qymc
def qwa:Run:=lim quxb qhnb
theorem ok_fbi:FnOk Tryz.prog OkT qhnb qwa:=qao (l:=qymc) qac tyTab_ok qad okT .nil qhnb
def qvk (k m:Nat):Nat→Cell→Int→Option Res | 0,_,_=>none | n+1,c2,i3=>(lenC c2).bind fun n4=>cond (decide (i3 < (n4:Int))) ((idxA 1 (c2) i3).bind fun c5=>(deref [] (c5)).bind fun p6=>(cS p6.1 p6.2).bind fun s7=>(idxA 1 (c2) (IntKind.i64.wrap (i3 - 1))).bind fun c8=>(deref [] (c8)).bind fun p9=>(cS p9.1 p9.2).bind fun s10=>cond (Op.bytesLess s7.toList s10.toList||s7.toList==s10.toList) (some ([.one (Cell.bool false)],[])) (qvk k m n (c2) (IntKind.i64.wrap (i3+1)))) (some ([.one (Cell.bool true)],[]))
def fbi (k m:Nat)(c1:Cell):Option Res:=qvk k m m (c1) 1
abbrev qrsc (k m:Nat):TB:=evC quxb qmy (evF quxb (k+1)) m (sub [1,0,1,2,3] qmy.code) none
abbrev qkoc (k m:Nat):TK:=qaw 0 (seqK (evC quxb qmy (evF quxb (k+1)) m (sub [1,1] qmy.code) none) (retK quxb qmy))
theorem qdnc (k m:Nat):∀ (n:Nat) (c2:Cell) (i3:Int),qbj (some [0,3]) (qrsc k m) (qkoc k m) n ⟨fT 20 0 [(0,.av (.one (c2))),(3,.av (.one (Cell.int i3)))],fX 20 0 [],[]⟩=qvk (k+1) m n c2 i3:=by
 intro n
 induction n with
 | zero=>intros;rfl
 | succ n ih=>intros;simp only[qvk,← ih];kernel_rfl
theorem qmrc (k m:Nat)(c1:Cell):evC quxb qmy (evF quxb (k+1)) m qmy.code none (retK quxb qmy) (enter qmy [.one (c1)] [])=fbi (k+1) m c1:=by
 simp only[fbi,← qdnc k m]
 kernel_rfl
theorem qotb {c1:Cell}{r:Res}(k:Nat)(h:fbi (k+1) (k+1) c1=some r):qwa [.one (c1)] []=some r:=qap (k:=k+2) (Eq.trans (Eq.trans (by kernel_rfl) (qmrc k (k+1) c1)) h)
def qbzd:List (Nat×Run):=[]
def G_fen:Ctx:=ctx qbi qbh qbzd
def qfnc:Run:=lim G_fen qfmb
theorem ok_fen:FnOk Tryz.prog OkT qfmb qfnc:=qao (l:=qbzd) qac tyTab_ok qad okT .nil qfmb
def qukc:List (Nat×Run):=[]
def G_feo:Ctx:=ctx qbi qbh qukc
def qehc:Run:=lim G_feo qdnb
theorem ok_feo:FnOk Tryz.prog OkT qdnb qehc:=qao (l:=qukc) qac tyTab_ok qad okT .nil qdnb
def qwzc:List (Nat×Run):=[(qdnb,qehc)]
def G_fem:Ctx:=ctx qbi qbh qwzc
def qevc:Run:=lim G_fem qggb
theorem ok_fem:FnOk Tryz.prog OkT qggb qevc:=qao (l:=qwzc) qac tyTab_ok qad okT (.cons ok_feo .nil) qggb
def qsoc:List (Nat×Run):=[(qfmb,qfnc),(qggb,qevc)]
def G_fek:Ctx:=ctx qbi qbh qsoc
def qsbb:Run:=lim G_fek qeib
theorem ok_fek:FnOk Tryz.prog OkT qeib qsbb:=qao (l:=qsoc) qac tyTab_ok qad okT (.cons ok_fen (.cons ok_fem .nil)) qeib
def qutc:List (Nat×Run):=[(qeib,qsbb),(qfgc,qwg),(qefc,qzs)]
def qubb:Ctx:=ctx qbi qbh qutc
def qoj:Run:=lim qubb qfdb
theorem ok_fel:FnOk Tryz.prog OkT qfdb qoj:=qao (l:=qutc) qac tyTab_ok qad okT (.cons ok_fek (.cons ok_fed (.cons ok_feg .nil))) qfdb
def qnw (k m:Nat):Nat→ByteArray→ByteArray→Int→Int→Cell→Int→List Entry→Option Res | 0,_,_,_,_,_,_,_=>none | n+1,s9,s10,i11,i12,c13,i14,H15=>cond (decide (i14 < i12)) ((qbc qzs [.one (Cell.str s9),.one (Cell.str s10)] H15).bind fun r16=>cond (qab qvcc r16) ((cI .i64 (qaa r16 0) 0).bind fun i17=>cond (decide (i17 < 0)) ((idxA 1 (c13) i14).bind fun c18=>(qbu H15 (c18) [Cell.str s9]).bind fun h19=>(slcC 1 (c13) 0 (some (IntKind.i64.wrap (i14+1))) none).bind fun c20=>some ([.one (c20)],h19)) ((subS s9 0 (IntKind.i64.wrap (i17+i11))).bind fun s21=>(idxA 1 (c13) i14).bind fun c22=>(qbu H15 (c22) [Cell.str s21]).bind fun h23=>(subS s9 (IntKind.i64.wrap (i17+(s10.size:Int))) (s9.size:Int)).bind fun s24=>qnw k m n s24 s10 i11 i12 (c13) (IntKind.i64.wrap (i14+1)) h23)) none) ((idxA 1 (c13) i14).bind fun c25=>(qbu H15 (c25) [Cell.str s9]).bind fun h26=>(slcC 1 (c13) 0 (some (IntKind.i64.wrap (i14+1))) none).bind fun c27=>some ([.one (c27)],h26))
def fel (k m:Nat)(s1 s2:ByteArray)(i3 i4:Int):Option Res:=cond (i4==0) (some ([.one (.lst true 1 [])],[])) (cond (s2.toList==(bs []).toList) ((callL qsbb [.one (Cell.str s1),.one (Cell.int i4)] []).bind fun r5=>cond (qab qawd r5.1) ((cC (qaa r5.1 0) 0).bind fun c6=>some ([.one (c6)],r5.2)) none) (cond (decide (i4 < 0)) ((qbc qwg [.one (Cell.str s1),.one (Cell.str s2)] []).bind fun r7=>cond (qab qzpc r7) ((cI .i64 (qaa r7 0) 0).bind fun i8=>if 0≤(if (IntKind.i64.wrap ((s1.size:Int)+1)) < (IntKind.i64.wrap (i8+1)) then (IntKind.i64.wrap ((s1.size:Int)+1)) else (IntKind.i64.wrap (i8+1)))∧(if (IntKind.i64.wrap ((s1.size:Int)+1)) < (IntKind.i64.wrap (i8+1)) then (IntKind.i64.wrap ((s1.size:Int)+1)) else (IntKind.i64.wrap (i8+1)))≤(if (IntKind.i64.wrap ((s1.size:Int)+1)) < (IntKind.i64.wrap (i8+1)) then (IntKind.i64.wrap ((s1.size:Int)+1)) else (IntKind.i64.wrap (i8+1)))∧(if (IntKind.i64.wrap ((s1.size:Int)+1)) < (IntKind.i64.wrap (i8+1)) then (IntKind.i64.wrap ((s1.size:Int)+1)) else (IntKind.i64.wrap (i8+1)))*16≤bound∧(if (IntKind.i64.wrap ((s1.size:Int)+1)) < (IntKind.i64.wrap (i8+1)) then (IntKind.i64.wrap ((s1.size:Int)+1)) else (IntKind.i64.wrap (i8+1)))≤bound then (qnw k m m s1 s2 i3 (IntKind.i64.wrap ((if (IntKind.i64.wrap ((s1.size:Int)+1)) < (IntKind.i64.wrap (i8+1)) then (IntKind.i64.wrap ((s1.size:Int)+1)) else (IntKind.i64.wrap (i8+1))) - 1)) ((.vs 0 1 0 (if (IntKind.i64.wrap ((s1.size:Int)+1)) < (IntKind.i64.wrap (i8+1)) then (IntKind.i64.wrap ((s1.size:Int)+1)) else (IntKind.i64.wrap (i8+1))).toNat 0)) 0 [Entry.mk 1 (qdd (if (IntKind.i64.wrap ((s1.size:Int)+1)) < (IntKind.i64.wrap (i8+1)) then (IntKind.i64.wrap ((s1.size:Int)+1)) else (IntKind.i64.wrap (i8+1))).toNat [Cell.str (bs [])]) 0 false]) else none) none) (if 0≤(if (IntKind.i64.wrap ((s1.size:Int)+1)) < i4 then (IntKind.i64.wrap ((s1.size:Int)+1)) else i4)∧(if (IntKind.i64.wrap ((s1.size:Int)+1)) < i4 then (IntKind.i64.wrap ((s1.size:Int)+1)) else i4)≤(if (IntKind.i64.wrap ((s1.size:Int)+1)) < i4 then (IntKind.i64.wrap ((s1.size:Int)+1)) else i4)∧(if (IntKind.i64.wrap ((s1.size:Int)+1)) < i4 then (IntKind.i64.wrap ((s1.size:Int)+1)) else i4)*16≤bound∧(if (IntKind.i64.wrap ((s1.size:Int)+1)) < i4 then (IntKind.i64.wrap ((s1.size:Int)+1)) else i4)≤bound then (qnw k m m s1 s2 i3 (IntKind.i64.wrap ((if (IntKind.i64.wrap ((s1.size:Int)+1)) < i4 then (IntKind.i64.wrap ((s1.size:Int)+1)) else i4) - 1)) ((.vs 0 1 0 (if (IntKind.i64.wrap ((s1.size:Int)+1)) < i4 then (IntKind.i64.wrap ((s1.size:Int)+1)) else i4).toNat 0)) 0 [Entry.mk 1 (qdd (if (IntKind.i64.wrap ((s1.size:Int)+1)) < i4 then (IntKind.i64.wrap ((s1.size:Int)+1)) else i4).toNat [Cell.str (bs [])]) 0 false]) else none)))
abbrev qgqc (k m:Nat):TB:=evC qubb qpc (evF qubb (k+1)) m (sub [1,1,1,1,1,1,1,1,0,2,3] qpc.code) none
abbrev qrfc (k m:Nat):TK:=qaw 0 (seqK (evC qubb qpc (evF qubb (k+1)) m (sub [1,1,1,1,1,1,1,1,1] qpc.code) none) (retK qubb qpc))
theorem qtob (k m:Nat):∀ (n:Nat) (s9 s10:ByteArray) (i11 i12:Int) (c13:Cell) (i14:Int) (H15:List Entry),qbj (some [0,1,2,3,9,10]) (qgqc k m) (qrfc k m) n ⟨fT 66 0 [(0,.av (.one (Cell.str s9))),(1,.av (.one (Cell.str s10))),(2,.av (.one (Cell.int i11))),(3,.av (.one (Cell.int i12))),(9,.av (.one (c13))),(10,.av (.one (Cell.int i14)))],fX 66 0 [],H15⟩=qnw (k+1) m n s9 s10 i11 i12 c13 i14 H15:=by
 intro n
 induction n with
 | zero=>intros;rfl
 | succ n ih=>intros;simp only[qnw,← ih];kernel_rfl
theorem qpvc (k m:Nat)(s1 s2:ByteArray)(i3 i4:Int):evC qubb qpc (evF qubb (k+1)) m qpc.code none (retK qubb qpc) (enter qpc [.one (Cell.str s1),.one (Cell.str s2),.one (Cell.int i3),.one (Cell.int i4)] [])=fel (k+1) m s1 s2 i3 i4:=by
 simp only[fel,← qtob k m]
 kernel_rfl
theorem qud {s1 s2:ByteArray}{i3 i4:Int}{r:Res}(k:Nat)(h:fel (k+1) (k+1) s1 s2 i3 i4=some r):qoj [.one (Cell.str s1),.one (Cell.str s2),.one (Cell.int i3),.one (Cell.int i4)] []=some r:=qap (k:=k+2) (Eq.trans (Eq.trans (by kernel_rfl) (qpvc k (k+1) s1 s2 i3 i4)) h)
def qwjc:List (Nat×Run):=[(qfdb,qoj)]
def qdod:Ctx:=ctx qbi qbh qwjc
def qfu:Run:=lim qdod qqd
theorem qvtb:FnOk Tryz.prog OkT qqd qfu:=qao (l:=qwjc) qac tyTab_ok qad okT (.cons ok_fel .nil) qqd
def fei (k m:Nat)(s1 s2:ByteArray):Option Res:=(qfd qoj [.one (Cell.str s1),.one (Cell.str s2),.one (Cell.int 0),.one (Cell.int (-1))] []).bind fun r3=>cond (qab qzzc r3.1) ((cC (qaa r3.1 0) 0).bind fun c4=>some ([.one (c4)],r3.2)) none
theorem qjxc (k m:Nat)(s1 s2:ByteArray):evC qdod qhub (evF qdod (k+1)) m qhub.code none (retK qdod qhub) (enter qhub [.one (Cell.str s1),.one (Cell.str s2)] [])=fei (k+1) m s1 s2:=by
 kernel_rfl
theorem qvg {s1 s2:ByteArray}{r:Res}(k:Nat)(h:fei (k+1) (k+1) s1 s2=some r):qfu [.one (Cell.str s1),.one (Cell.str s2)] []=some r:=qap (k:=k+2) (Eq.trans (Eq.trans (by kernel_rfl) (qjxc k (k+1) s1 s2)) h)
def qunc:List (Nat×Run):=[]
def G_fbv:Ctx:=ctx qbi qbh qunc
def qejc:Run:=lim G_fbv qdpb
theorem ok_fbv:FnOk Tryz.prog OkT qdpb qejc:=qao (l:=qunc) qac tyTab_ok qad okT .nil qdpb
def qsvc:List (Nat×Run):=[]
def G_fbx:Ctx:=ctx qbi qbh qsvc
def qfjc:Run:=lim G_fbx qepb
theorem ok_fbx:FnOk Tryz.prog OkT qepb qfjc:=qao (l:=qsvc) qac tyTab_ok qad okT .nil qepb
def qzjc:List (Nat×Run):=[(qepb,qfjc)]
def G_fbw:Ctx:=ctx qbi qbh qzjc
def qfmc:Run:=lim G_fbw qfcb
theorem ok_fbw:FnOk Tryz.prog OkT qfcb qfmc:=qao (l:=qzjc) qac tyTab_ok qad okT (.cons ok_fbx .nil) qfcb
end
end Go.Ev
