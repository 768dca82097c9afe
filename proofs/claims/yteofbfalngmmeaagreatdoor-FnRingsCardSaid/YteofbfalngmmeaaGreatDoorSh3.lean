/- What the evaluator says of the functions, each as a Lean function over cells. Printed by a program of this claim. Conditions: none. -/
import Derived.Test.YteofbfalngmmeaaGreatDoorSh2
import Derived.KernelRfl
namespace Go.Ev
open Go Go.Proofs
noncomputable section
set_option maxRecDepth 100000
set_option linter.unusedVariables false
set_option linter.unusedSimpArgs false
def qyuc:List (Nat×Run):=[]
def qvvb:Ctx:=ctx qbi qbh qyuc
def qld:Run:=lim qvvb qexb
theorem ok_fdw:FnOk Tryz.prog OkT qexb qld:=qao (l:=qyuc) qac tyTab_ok qad okT .nil qexb
def qarb (k m:Nat):Nat→Int→ByteArray→Cell→Cell→Cell→ByteArray→Cell→Cell→Cell→List Entry→Option Res | 0,_,_,_,_,_,_,_,_,_,_=>none | n+1,i9,s10,c11,c12,c13,s14,c15,c16,c17,H18=>(lenC c13).bind fun n19=>cond (decide (i9 < (n19:Int))) ((idxA 2 (c13) i9).bind fun c20=>(fldA c20 0).bind fun c21=>(deref [] (c21)).bind fun p22=>(cS p22.1 p22.2).bind fun s23=>(idxA 2 (c13) i9).bind fun c24=>(fldA c24 1).bind fun c25=>(deref H18 (c25)).bind fun p26=>(cC p26.1 p26.2).bind fun c27=>(qah H18 1 c27).bind fun r28=>(app H18 1 16 (.lst true 1 []) r28).bind fun p29=>(qah (p29.2++[Entry.mk 2 [[Cell.str s23,p29.1]] 0 false]) 2 (.vs p29.2.length 2 0 1 0)).bind fun r30=>(app (p29.2++[Entry.mk 2 [[Cell.str s23,p29.1]] 0 false]) 2 40 (c17) r30).bind fun p31=>qarb k m n (IntKind.i64.wrap (i9+1)) s10 (c11) (c12) (c13) s14 (c15) (c16) (p31.1) p31.2) (some ([.agg [Cell.str s14,c15,c16,c17]],H18))
def fdw (k m:Nat)(s1:ByteArray)(c2 c3 c4:Cell):Option Res:=(qah [] 1 c2).bind fun r5=>(app [] 1 16 (.lst true 1 []) r5).bind fun p6=>(qah p6.2 2 c3).bind fun r7=>(app p6.2 2 32 (.lst true 2 []) r7).bind fun p8=>qarb k m m 0 s1 (c2) (c3) (c4) s1 (p6.1) (p8.1) (.lst true 2 []) p8.2
abbrev qkjc (k m:Nat):TB:=evC qvvb qny (evF qvvb (k+1)) m (sub [1,1,0,1,2,3] qny.code) none
abbrev qlhc (k m:Nat):TK:=qaw 0 (seqK (evC qvvb qny (evF qvvb (k+1)) m (sub [1,1,1] qny.code) none) (retK qvvb qny))
theorem qamc (k m:Nat):∀ (n:Nat) (i9:Int) (s10:ByteArray) (c11 c12 c13:Cell) (s14:ByteArray) (c15 c16 c17:Cell) (H18:List Entry),qbj (some [1,2,3,4]) (qkjc k m) (qlhc k m) n ⟨fT 44 0 [(1,.loc 1 0),(2,.loc 2 0),(3,.loc 3 0),(4,.av (.one (Cell.int i9)))],fX 44 0 [(1,[Cell.str s10,c11,c12,c13]),(2,[Cell.str (bs []),.lst true 1 [],.lst true 2 [],.lst true 2 []]),(3,[Cell.str s14,c15,c16,c17])],H18⟩=qarb (k+1) m n i9 s10 c11 c12 c13 s14 c15 c16 c17 H18:=by
 intro n
 induction n with
 | zero=>intros;rfl
 | succ n ih=>intros;simp only[qarb,← ih];kernel_rfl
theorem qhuc (k m:Nat)(s1:ByteArray)(c2 c3 c4:Cell):evC qvvb qny (evF qvvb (k+1)) m qny.code none (retK qvvb qny) (enter qny [.agg [Cell.str s1,c2,c3,c4]] [])=fdw (k+1) m s1 c2 c3 c4:=by
 simp only[fdw,← qamc k m]
 kernel_rfl
theorem qlzb {s1:ByteArray}{c2 c3 c4:Cell}{r:Res}(k:Nat)(h:fdw (k+1) (k+1) s1 c2 c3 c4=some r):qld [.agg [Cell.str s1,c2,c3,c4]] []=some r:=qap (k:=k+2) (Eq.trans (Eq.trans (by kernel_rfl) (qhuc k (k+1) s1 c2 c3 c4)) h)
def qyzc:List (Nat×Run):=[(qjk,qcp)]
def qdwd:Ctx:=ctx qbi qbh qyzc
def qvy:Run:=lim qdwd qhab
theorem ok_fds:FnOk Tryz.prog OkT qhab qvy:=qao (l:=qyzc) qac tyTab_ok qad okT (.cons qkqb .nil) qhab
def fds (k m:Nat)(c1:Cell)(H:List Entry):Option Res:=(qcp [.one (c1),.one (.lst true 1 [[Cell.str (bs [])],[Cell.str (bs [97])],[Cell.str (bs [98])],[Cell.str (bs [97,98])],[Cell.str (bs [97,45,98])],[Cell.str (bs [65,98])],[Cell.str (bs [120,49])],[Cell.str (bs [101,108,101,118,101,110,98,121,116,101,115])],[Cell.str (bs [116,101,110,45,98,121,116,101,115,49])],[Cell.str (bs [97,32,98])],[Cell.str (bs [9])],[Cell.str (bs [127])],[Cell.str (bs [49,97])],[Cell.str (bs [45,97])],[Cell.str (bs [122])],[Cell.str (bs [104,101,108,108,111])]])] H).bind fun r2=>cond (qab qjl r2.1) ((cS (qaa r2.1 0) 0).bind fun s3=>some ([.one (Cell.str s3)],r2.2)) none
theorem qpbc (k m:Nat)(c1:Cell)(H:List Entry):evC qdwd qjsb (evF qdwd (k+1)) m qjsb.code none (retK qdwd qjsb) (enter qjsb [.one (c1)] H)=fds (k+1) m c1 H:=by
 kernel_rfl
theorem qrfb {c1:Cell}{H:List Entry}{r:Res}(k:Nat)(h:fds (k+1) (k+1) c1 H=some r):qvy [.one (c1)] H=some r:=qap (k:=k+2) (Eq.trans (Eq.trans (by kernel_rfl) (qpbc k (k+1) c1 H)) h)
def qtwc:List (Nat×Run):=[(qgv,qdc),(qhab,qvy)]
def qbdc:Ctx:=ctx qbi qbh qtwc
def qyd:Run:=lim qbdc qczb
theorem ok_fdo:FnOk Tryz.prog OkT qczb qyd:=qao (l:=qtwc) qac tyTab_ok qad okT (.cons qzr (.cons ok_fds .nil)) qczb
def qcab (k m:Nat):Nat→Cell→Cell→Int→List Entry→Option Res | 0,_,_,_,_=>none | n+1,c4,c5,i6,H7=>cond (decide (i6 > 0)) ((qvy [.one (c4)] H7).bind fun r8=>cond (qab qvgc r8.1) ((cS (qaa r8.1 0) 0).bind fun s9=>(app r8.2 1 16 (c5) [[Cell.str s9]]).bind fun p10=>qcab k m n (c4) (p10.1) (IntKind.i64.wrap (i6 - 1)) p10.2) none) (some ([.one (c5)],H7))
def fdo (k m:Nat)(c1:Cell)(H:List Entry):Option Res:=(qdc [.one (c1),.one (Cell.int 6)] H).bind fun r2=>cond (qab qql r2.1) ((cI .i64 (qaa r2.1 0) 0).bind fun i3=>qcab k m m (c1) (.lst true 1 []) i3 r2.2) none
abbrev qkvc (k m:Nat):TB:=evC qbdc qnv (evF qbdc (k+1)) m (sub [1,1,0,1,2,3] qnv.code) none
abbrev qhzc (k m:Nat):TK:=qaw 0 (seqK (evC qbdc qnv (evF qbdc (k+1)) m (sub [1,1,1] qnv.code) none) (retK qbdc qnv))
theorem qcuc (k m:Nat):∀ (n:Nat) (c4 c5:Cell) (i6:Int) (H7:List Entry),qbj (some [0,3,4]) (qkvc k m) (qhzc k m) n ⟨fT 18 0 [(0,.av (.one (c4))),(3,.av (.one (c5))),(4,.av (.one (Cell.int i6)))],fX 18 0 [],H7⟩=qcab (k+1) m n c4 c5 i6 H7:=by
 intro n
 induction n with
 | zero=>intros;rfl
 | succ n ih=>intros;simp only[qcab,← ih];kernel_rfl
theorem qhdc (k m:Nat)(c1:Cell)(H:List Entry):evC qbdc qnv (evF qbdc (k+1)) m qnv.code none (retK qbdc qnv) (enter qnv [.one (c1)] H)=fdo (k+1) m c1 H:=by
 simp only[fdo,← qcuc k m]
 kernel_rfl
theorem qoyb {c1:Cell}{H:List Entry}{r:Res}(k:Nat)(h:fdo (k+1) (k+1) c1 H=some r):qyd [.one (c1)] H=some r:=qap (k:=k+2) (Eq.trans (Eq.trans (by kernel_rfl) (qhdc k (k+1) c1 H)) h)
def qtmc:List (Nat×Run):=[(qjk,qcp),(qgv,qdc),(qxj,qmk),(qexb,qld),(qczb,qyd)]
def qedd:Ctx:=ctx qbi qbh qtmc
def qrf:Run:=lim qedd qgvb
theorem ok_fdu:FnOk Tryz.prog OkT qgvb qrf:=qao (l:=qtmc) qac tyTab_ok qad okT (.cons qkqb (.cons qzr (.cons qufc (.cons ok_fdw (.cons ok_fdo .nil))))) qgvb
def fdu (k m:Nat)(c1:Cell)(H:List Entry):Option Res:=(qcp [.one (c1),.one (.lst true 1 [[Cell.str (bs [97])],[Cell.str (bs [98])]])] H).bind fun r2=>cond (qab qjl r2.1) ((cS (qaa r2.1 0) 0).bind fun s3=>(qmk [.one (c1),.one (Cell.str s3)] r2.2).bind fun r4=>cond (qab qlac r4.1) ((cS (qaa r4.1 0) 0).bind fun s5=>(cC (qaa r4.1 0) 1).bind fun c6=>(cC (qaa r4.1 0) 2).bind fun c7=>(cC (qaa r4.1 0) 3).bind fun c8=>(qdc [.one (c1),.one (Cell.int 4)] r4.2).bind fun r9=>cond (qab qql r9.1) ((cI .i64 (qaa r9.1 0) 0).bind fun i10=>(slcC 1 (.lst true 1 [[Cell.str (bs [97])],[Cell.str (bs [98])],[Cell.str (bs [99])]]) 0 (some i10) none).bind fun c11=>(qfd qld [.agg [Cell.str s5,c11,c7,c8]] r9.2).bind fun r12=>cond (qab qwxc r12.1) ((cS (qaa r12.1 0) 0).bind fun s13=>(cC (qaa r12.1 0) 1).bind fun c14=>(cC (qaa r12.1 0) 2).bind fun c15=>(cC (qaa r12.1 0) 3).bind fun c16=>(qdc [.one (c1),.one (Cell.int 12)] r12.2).bind fun r17=>cond (qab qql r17.1) ((cI .i64 (qaa r17.1 0) 0).bind fun i18=>cond (i18==0) ((qcp [.one (c1),.one (.lst true 1 [[Cell.str (bs [])],[Cell.str (bs [65])],[Cell.str (bs [101,108,101,118,101,110,98,121,116,101,115])]])] r17.2).bind fun r19=>cond (qab qjl r19.1) ((cS (qaa r19.1 0) 0).bind fun s20=>some ([.agg [Cell.str s20,c14,c15,c16]],r19.2)) none) (cond (i18==1) ((qcp [.one (c1),.one (.lst true 1 [[Cell.str (bs [97])],[Cell.str (bs [122])],[Cell.str (bs [65])]])] r17.2).bind fun r21=>cond (qab qjl r21.1) ((cS (qaa r21.1 0) 0).bind fun s22=>(qah (r21.2++[Entry.mk 1 [[Cell.str s22]] 0 false]) 1 (.vs r21.2.length 1 0 1 0)).bind fun r23=>(app (r21.2++[Entry.mk 1 [[Cell.str s22]] 0 false]) 1 16 (c14) r23).bind fun p24=>some ([.agg [Cell.str s13,p24.1,c15,c16]],p24.2)) none) (cond (i18==2) ((qcp [.one (c1),.one (.lst true 1 [[Cell.str (bs [97])],[Cell.str (bs [122,122])]])] r17.2).bind fun r25=>cond (qab qjl r25.1) ((cS (qaa r25.1 0) 0).bind fun s26=>(qcp [.one (c1),.one (.lst true 1 [[Cell.str (bs [120])],[Cell.str (bs [42])],[Cell.str (bs [])],[Cell.str (bs [62,61,49,46,48,46,48,32,60,50,46,48,46,48,32,124,124,32,51,46,120])]])] r25.2).bind fun r27=>cond (qab qjl r27.1) ((cS (qaa r27.1 0) 0).bind fun s28=>(qah (r27.2++[Entry.mk 2 [[Cell.str s26,Cell.str s28]] 0 false]) 2 (.vs r27.2.length 2 0 1 0)).bind fun r29=>(app (r27.2++[Entry.mk 2 [[Cell.str s26,Cell.str s28]] 0 false]) 2 32 (c15) r29).bind fun p30=>some ([.agg [Cell.str s13,c14,p30.1,c16]],p30.2)) none) none) (cond (i18==3) ((qcp [.one (c1),.one (.lst true 1 [[Cell.str (bs [97])],[Cell.str (bs [122,122])]])] r17.2).bind fun r31=>cond (qab qjl r31.1) ((cS (qaa r31.1 0) 0).bind fun s32=>(qyd [.one (c1)] r31.2).bind fun r33=>cond (qab qwic r33.1) ((cC (qaa r33.1 0) 0).bind fun c34=>(qah (r33.2++[Entry.mk 2 [[Cell.str s32,c34]] 0 false]) 2 (.vs r33.2.length 2 0 1 0)).bind fun r35=>(app (r33.2++[Entry.mk 2 [[Cell.str s32,c34]] 0 false]) 2 40 (c16) r35).bind fun p36=>some ([.agg [Cell.str s13,c14,c15,p36.1]],p36.2)) none) none) (cond (i18==4) ((idxA 2 (c16) 0).bind fun c37=>(fldA c37 1).bind fun c38=>(deref r17.2 (c38)).bind fun p39=>(cC p39.1 p39.2).bind fun c40=>(qcp [.one (c1),.one (.lst true 1 [[Cell.str (bs [10])],[Cell.str (bs [97,32,116,101,120,116,32,111,102,32,109,111,114,101,32,116,104,97,110,32,102,111,114,116,121,32,98,121,116,101,115,44,32,97,115,32,105,116,32,115,101,101,109,115])]])] r17.2).bind fun r41=>cond (qab qjl r41.1) ((cS (qaa r41.1 0) 0).bind fun s42=>(qah (r41.2++[Entry.mk 1 [[Cell.str s42]] 0 false]) 1 (.vs r41.2.length 1 0 1 0)).bind fun r43=>(app (r41.2++[Entry.mk 1 [[Cell.str s42]] 0 false]) 1 16 (c40) r43).bind fun p44=>(idxA 2 (c16) 0).bind fun c45=>(fldA c45 1).bind fun c46=>(qbu p44.2 (c46) [p44.1]).bind fun h47=>(deref (r41.2++[Entry.mk 1 [[Cell.str s42]] 0 false]) (c38)).bind fun p48=>(cC p48.1 p48.2).bind fun c49=>cond (eqC c40 c49) ((deref r41.2 (c38)).bind fun p50=>(cC p50.1 p50.2).bind fun c51=>cond (eqC c40 c51) (some ([.agg [Cell.str s13,c14,c15,c16]],h47)) (none)) (none)) none) (some ([.agg [Cell.str s13,c14,c15,c16]],r17.2))))))) none) none) none) none) none
theorem qqyc (k m:Nat)(c1:Cell)(H:List Entry):evC qedd qjwb (evF qedd (k+1)) m qjwb.code none (retK qedd qjwb) (enter qjwb [.one (c1)] H)=fdu (k+1) m c1 H:=by
 kernel_rfl
theorem qff {c1:Cell}{H:List Entry}{r:Res}(k:Nat)(h:fdu (k+1) (k+1) c1 H=some r):qrf [.one (c1)] H=some r:=qap (k:=k+2) (Eq.trans (Eq.trans (by kernel_rfl) (qqyc k (k+1) c1 H)) h)
def qamd:List (Nat×Run):=[(qnu,qfl),(qgv,qdc),(qxj,qmk)]
def qayb:Ctx:=ctx qbi qbh qamd
def qpl:Run:=lim qayb qxe
theorem qvlc:FnOk Tryz.prog OkT qxe qpl:=qao (l:=qamd) qac tyTab_ok qad okT (.cons qzib (.cons qzr (.cons qufc .nil))) qxe
def qin (k m:Nat)(b_l0:Cell→Bool→Cell→Cell→Int→List Entry→Option Res):Nat→Cell→Bool→Cell→Cell→Int→Int→ByteArray→Cell→Cell→Cell→List Entry→Option Res | 0,_,_,_,_,_,_,_,_,_,_,_=>none | n+1,c21,b22,c23,c24,i25,i26,s27,c28,c29,c30,H31=>(lenC c23).bind fun n32=>cond (decide (i26 < (n32:Int))) (cond (decide (i26 < i25)) ((qfl [.one (c21),.one (Cell.int 2)] H31).bind fun r33=>cond (qab qcbb r33.1) ((cB (qaa r33.1 0) 0).bind fun b34=>cond b34 ((idxA 1 (c23) i26).bind fun c35=>(deref r33.2 (c35)).bind fun p36=>(cS p36.1 p36.2).bind fun s37=>(qah (r33.2++[Entry.mk 1 [[Cell.str s37]] 0 false]) 1 (.vs r33.2.length 1 0 1 0)).bind fun r38=>(app (r33.2++[Entry.mk 1 [[Cell.str s37]] 0 false]) 1 16 (c28) r38).bind fun p39=>qin k m b_l0 n (c21) b22 (c23) (c24) i25 (IntKind.i64.wrap (i26+1)) s27 (p39.1) (c29) (c30) p39.2) (qin k m b_l0 n (c21) b22 (c23) (c24) i25 (IntKind.i64.wrap (i26+1)) s27 (c28) (c29) (c30) r33.2)) none) (cond b22 (cond (decide (i26 > i25)) ((qfl [.one (c21),.one (Cell.int 3)] H31).bind fun r40=>cond (qab qcbb r40.1) ((cB (qaa r40.1 0) 0).bind fun b41=>cond b41 ((qfl [.one (c21),.one (Cell.int 2)] r40.2).bind fun r42=>cond (qab qcbb r42.1) ((cB (qaa r42.1 0) 0).bind fun b43=>cond b43 ((idxA 1 (c23) i26).bind fun c44=>(deref r42.2 (c44)).bind fun p45=>(cS p45.1 p45.2).bind fun s46=>(qah (r42.2++[Entry.mk 1 [[Cell.str s46]] 0 false]) 1 (.vs r42.2.length 1 0 1 0)).bind fun r47=>(app (r42.2++[Entry.mk 1 [[Cell.str s46]] 0 false]) 1 16 (c28) r47).bind fun p48=>qin k m b_l0 n (c21) b22 (c23) (c24) i25 (IntKind.i64.wrap (i26+1)) s27 (p48.1) (c29) (c30) p48.2) (qin k m b_l0 n (c21) b22 (c23) (c24) i25 (IntKind.i64.wrap (i26+1)) s27 (c28) (c29) (c30) r42.2)) none) (qin k m b_l0 n (c21) b22 (c23) (c24) i25 (IntKind.i64.wrap (i26+1)) s27 (c28) (c29) (c30) r40.2)) none) (qin k m b_l0 n (c21) b22 (c23) (c24) i25 (IntKind.i64.wrap (i26+1)) s27 (c28) (c29) (c30) H31)) (qin k m b_l0 n (c21) b22 (c23) (c24) i25 (IntKind.i64.wrap (i26+1)) s27 (c28) (c29) (c30) H31))) ((qah (H31++[Entry.mk 4 [[Cell.str s27,c28,c29,c30]] 0 false]) 4 (.vs H31.length 4 0 1 0)).bind fun r49=>(app (H31++[Entry.mk 4 [[Cell.str s27,c28,c29,c30]] 0 false]) 4 88 (c24) r49).bind fun p50=>b_l0 (c21) b22 (c23) (p50.1) (IntKind.i64.wrap (i25+1)) p50.2)
def qyq (k m:Nat):Nat→Cell→Bool→Cell→Cell→Int→List Entry→Option Res | 0,_,_,_,_,_,_=>none | n+1,c6,b7,c8,c9,i10,H11=>(lenC c8).bind fun n12=>cond (decide (i10 < (n12:Int))) ((idxA 1 (c8) i10).bind fun c13=>(deref H11 (c13)).bind fun p14=>(cS p14.1 p14.2).bind fun s15=>(qmk [.one (c6),.one (Cell.str s15)] H11).bind fun r16=>cond (qab qlac r16.1) ((cS (qaa r16.1 0) 0).bind fun s17=>(cC (qaa r16.1 0) 1).bind fun c18=>(cC (qaa r16.1 0) 2).bind fun c19=>(cC (qaa r16.1 0) 3).bind fun c20=>qin k m (qyq k m n) m (c6) b7 (c8) (c9) i10 0 s17 (c18) (c19) (c20) r16.2) none) (some ([.one (c9)],H11))
def fea (k m:Nat)(c1:Cell)(b2:Bool)(H:List Entry):Option Res:=(qdc [.one (c1),.one (Cell.int 4)] H).bind fun r3=>cond (qab qql r3.1) ((cI .i64 (qaa r3.1 0) 0).bind fun i4=>(slcC 1 (.lst true 1 [[Cell.str (bs [97])],[Cell.str (bs [98])],[Cell.str (bs [99])],[Cell.str (bs [100])]]) 0 (some (IntKind.i64.wrap (1+i4))) none).bind fun c5=>qyq k m m (c1) b2 (c5) ((.vs r3.2.length 4 0 0 0)) 0 (r3.2++[Entry.mk 4 [] 0 false])) none
abbrev qbkb (k m:Nat):TB:=evC qayb qgz (evF qayb (k+1)) m (sub [1,1,1,0,1,2,3] qgz.code) none
abbrev qty (k m:Nat):TK:=qaw 0 (seqK (evC qayb qgz (evF qayb (k+1)) m (sub [1,1,1,1] qgz.code) none) (retK qayb qgz))
abbrev qjec (k m:Nat):TB:=evC qayb qgz (evF qayb (k+1)) m (sub [1,1,1,0,1,2,3,1,0,2,1,0,1,2,3] qgz.code) none
abbrev qkbc (k m:Nat)(n_l0:Nat):TK:=qaw 2 (seqK (evC qayb qgz (evF qayb (k+1)) m (sub [1,1,1,0,1,2,3,1,0,2,1,1] qgz.code) none) (qaw 1 (seqK (evC qayb qgz (evF qayb (k+1)) m (sub [1,1,1,0,1,2,3,1,1] qgz.code) none) (qetb (fun s=>qbj (some [0,1,5,6,7]) (qbkb k m) (qty k m) n_l0 (qmf (some [0,1,5,6,7]) s)) (qty k m)))))
theorem qxmb (k m:Nat)(b_l0:Cell→Bool→Cell→Cell→Int→List Entry→Option Res)(n_l0:Nat)(h_l0:∀ (c6:Cell) (b7:Bool) (c8 c9:Cell) (i10:Int) (H11:List Entry),qbj (some [0,1,5,6,7]) (qbkb k m) (qty k m) n_l0 ⟨fT 67 0 [(0,.av (.one (c6))),(1,.av (.one (Cell.bool b7))),(5,.av (.one (c8))),(6,.av (.one (c9))),(7,.av (.one (Cell.int i10)))],fX 67 0 [],H11⟩=b_l0 c6 b7 c8 c9 i10 H11):∀ (n:Nat) (c21:Cell) (b22:Bool) (c23 c24:Cell) (i25 i26:Int) (s27:ByteArray) (c28 c29 c30:Cell) (H31:List Entry),qbj (some [0,1,5,6,7,8,9]) (qjec k m) (qkbc k m n_l0) n ⟨fT 67 0 [(0,.av (.one (c21))),(1,.av (.one (Cell.bool b22))),(5,.av (.one (c23))),(6,.av (.one (c24))),(7,.av (.one (Cell.int i25))),(8,.loc 8 0),(9,.av (.one (Cell.int i26)))],fX 67 0 [(8,[Cell.str s27,c28,c29,c30])],H31⟩=qin (k+1) m b_l0 n c21 b22 c23 c24 i25 i26 s27 c28 c29 c30 H31:=by
 intro n
 induction n with
 | zero=>intros;rfl
 | succ n ih=>intros;simp only[qin,← h_l0,← ih];kernel_rfl
theorem qycb (k m:Nat):∀ (n:Nat) (c6:Cell) (b7:Bool) (c8 c9:Cell) (i10:Int) (H11:List Entry),qbj (some [0,1,5,6,7]) (qbkb k m) (qty k m) n ⟨fT 67 0 [(0,.av (.one (c6))),(1,.av (.one (Cell.bool b7))),(5,.av (.one (c8))),(6,.av (.one (c9))),(7,.av (.one (Cell.int i10)))],fX 67 0 [],H11⟩=qyq (k+1) m n c6 b7 c8 c9 i10 H11:=by
 intro n
 induction n with
 | zero=>intros;rfl
 | succ n ih=>intros;simp only[qyq,← qxmb k m _ _ (ih)];kernel_rfl
theorem qrgc (k m:Nat)(c1:Cell)(b2:Bool)(H:List Entry):evC qayb qgz (evF qayb (k+1)) m qgz.code none (retK qayb qgz) (enter qgz [.one (c1),.one (Cell.bool b2)] H)=fea (k+1) m c1 b2 H:=by
 simp only[fea,← qycb k m]
 kernel_rfl
theorem qmib {c1:Cell}{b2:Bool}{H:List Entry}{r:Res}(k:Nat)(h:fea (k+1) (k+1) c1 b2 H=some r):qpl [.one (c1),.one (Cell.bool b2)] H=some r:=qap (k:=k+2) (Eq.trans (Eq.trans (by kernel_rfl) (qrgc k (k+1) c1 b2 H)) h)
def qxbc:List (Nat×Run):=[]
def qvcb:Ctx:=ctx qbi qbh qxbc
def qxq:Run:=lim qvcb qdhb
theorem ok_fcw:FnOk Tryz.prog OkT qdhb qxq:=qao (l:=qxbc) qac tyTab_ok qad okT .nil qdhb
def qjrb (k m:Nat):Nat→Int→ByteArray→Option Res | 0,_,_=>none | n+1,i5,s6=>cond (decide (i5 > 9)) ((bytesOf [] (.lst true 1 [[.sc (.int .u8 (IntKind.u8.wrap (IntKind.i64.wrap (48+((IntKind.i64.wrap (i5.tdiv 10)).tmod 10)))))]])).bind fun s7=>(catS s7 s6).bind fun s8=>qjrb k m n (IntKind.i64.wrap (i5.tdiv 10)) s8) (some ([.one (Cell.str s6)],[]))
def qiuc (k m:Nat):Nat→ByteArray→Option Res | 0,_=>none | n+1,s3=>some ([.one (Cell.str s3)],[])
def fcw (k m:Nat)(i1:Int):Option Res:=cond (decide (i1 < 0)) ((bytesOf [] (.lst true 1 [[.sc (.int .u8 (IntKind.u8.wrap (IntKind.i64.wrap (48+((0:Int).tmod 10)))))]])).bind fun s2=>qiuc k m m s2) ((bytesOf [] (.lst true 1 [[.sc (.int .u8 (IntKind.u8.wrap (IntKind.i64.wrap (48+(i1.tmod 10)))))]])).bind fun s4=>qjrb k m m i1 s4)
abbrev qrqb (k m:Nat):TB:=evC qvcb qmn (evF qvcb (k+1)) m (sub [1,1,1,0,2,3] qmn.code) none
abbrev qscb (k m:Nat):TK:=qaw 0 (seqK (evC qvcb qmn (evF qvcb (k+1)) m (sub [1,1,1,1] qmn.code) none) (retK qvcb qmn))
theorem qzqb (k m:Nat):∀ (n:Nat) (i5:Int) (s6:ByteArray),qbj (some [0,3]) (qrqb k m) (qscb k m) n ⟨fT 25 0 [(0,.av (.one (Cell.int i5))),(3,.av (.one (Cell.str s6)))],fX 25 0 [],[]⟩=qjrb (k+1) m n i5 s6:=by
 intro n
 induction n with
 | zero=>intros;rfl
 | succ n ih=>intros;simp only[qjrb,← ih];kernel_rfl
theorem qcdc (k m:Nat):∀ (n:Nat) (s3:ByteArray),qbj (some [0,3]) (qrqb k m) (qscb k m) n ⟨fT 25 0 [(0,.av (.one (Cell.int 0))),(3,.av (.one (Cell.str s3)))],fX 25 0 [],[]⟩=qiuc (k+1) m n s3:=by
 intro n
 induction n with
 | zero=>intros;rfl
 | succ n ih=>intros;simp only[qiuc];kernel_rfl
theorem qrvc (k m:Nat)(i1:Int):evC qvcb qmn (evF qvcb (k+1)) m qmn.code none (retK qvcb qmn) (enter qmn [.one (Cell.int i1)] [])=fcw (k+1) m i1:=by
 simp only[fcw,← qcdc k m,← qzqb k m]
 kernel_rfl
theorem qqab {i1:Int}{r:Res}(k:Nat)(h:fcw (k+1) (k+1) i1=some r):qxq [.one (Cell.int i1)] []=some r:=qap (k:=k+2) (Eq.trans (Eq.trans (by kernel_rfl) (qrvc k (k+1) i1)) h)
def qykc:List (Nat×Run):=[(qgvb,qrf),(qxe,qpl),(qnu,qfl),(qgv,qdc),(qdhb,qxq)]
def qcsc:Ctx:=ctx qbi qbh qykc
def qnx:Run:=lim qcsc qvl
theorem qxxc:FnOk Tryz.prog OkT qvl qnx:=qao (l:=qykc) qac tyTab_ok qad okT (.cons ok_fdu (.cons qvlc (.cons qzib (.cons qzr (.cons ok_fcw .nil))))) qvl
def qbcb (k m:Nat):Nat→Cell→Int→List Entry→Option Res | 0,_,_,_=>none | n+1,c22,i23,H24=>cond (decide (i23 < 5)) ((qbc qxq [.one (Cell.int i23)] H24).bind fun r25=>cond (qab qbnd r25) ((cS (qaa r25 0) 0).bind fun s26=>(catS (bs [122]) s26).bind fun s27=>(qah (H24++[Entry.mk 4 [[Cell.str s27,.lst true 1 [],.lst true 2 [],.lst true 2 []]] 0 false]) 4 (.vs H24.length 4 0 1 0)).bind fun r28=>(app (H24++[Entry.mk 4 [[Cell.str s27,.lst true 1 [],.lst true 2 [],.lst true 2 []]] 0 false]) 4 88 (c22) r28).bind fun p29=>qbcb k m n (p29.1) (IntKind.i64.wrap (i23+1)) p29.2) none) (some ([.one (c22)],H24))
def feb (k m:Nat)(c1:Cell)(H:List Entry):Option Res:=(qfl [.one (c1),.one (Cell.int 3)] H).bind fun r2=>cond (qab qcbb r2.1) ((cB (qaa r2.1 0) 0).bind fun b3=>(qpl [.one (c1),.one (Cell.bool b3)] r2.2).bind fun r4=>cond (qab qpgc r4.1) ((cC (qaa r4.1 0) 0).bind fun c5=>(qdc [.one (c1),.one (Cell.int 8)] r4.2).bind fun r6=>cond (qab qql r6.1) ((cI .i64 (qaa r6.1 0) 0).bind fun i7=>cond (i7==0) ((qrf [.one (c1)] r6.2).bind fun r8=>cond (qab qkqc r8.1) ((cS (qaa r8.1 0) 0).bind fun s9=>(cC (qaa r8.1 0) 1).bind fun c10=>(cC (qaa r8.1 0) 2).bind fun c11=>(cC (qaa r8.1 0) 3).bind fun c12=>(qah (r8.2++[Entry.mk 4 [[Cell.str s9,c10,c11,c12]] 0 false]) 4 (.vs r8.2.length 4 0 1 0)).bind fun r13=>(app (r8.2++[Entry.mk 4 [[Cell.str s9,c10,c11,c12]] 0 false]) 4 88 (c5) r13).bind fun p14=>some ([.one (p14.1)],p14.2)) none) (cond (i7==1) ((qrf [.one (c1)] r6.2).bind fun r15=>cond (qab qkqc r15.1) ((cS (qaa r15.1 0) 0).bind fun s16=>(cC (qaa r15.1 0) 1).bind fun c17=>(cC (qaa r15.1 0) 2).bind fun c18=>(cC (qaa r15.1 0) 3).bind fun c19=>(idxA 4 (c5) 0).bind fun c20=>(qbu r15.2 (c20) [Cell.str s16,c17,c18,c19]).bind fun h21=>some ([.one (c5)],h21)) none) (cond (i7==2) (qbcb k m m (c5) 0 r6.2) (some ([.one (c5)],r6.2))))) none) none) none
abbrev qhpc (k m:Nat):TB:=evC qcsc qns (evF qcsc (k+1)) m (sub [1,1,0,1,2,1,5,1,5,1,4,1,2,3] qns.code) none
abbrev qgtc (k m:Nat):TK:=qaw 1 (qaw 0 (seqK (evC qcsc qns (evF qcsc (k+1)) m (sub [1,1,1] qns.code) none) (retK qcsc qns)))
theorem qyyb (k m:Nat):∀ (n:Nat) (c22:Cell) (i23:Int) (H24:List Entry),qbj (some [3,4]) (qhpc k m) (qgtc k m) n ⟨fT 38 0 [(3,.av (.one (c22))),(4,.av (.one (Cell.int i23)))],fX 38 0 [],H24⟩=qbcb (k+1) m n c22 i23 H24:=by
 intro n
 induction n with
 | zero=>intros;rfl
 | succ n ih=>intros;simp only[qbcb,← ih];kernel_rfl
theorem qqjc (k m:Nat)(c1:Cell)(H:List Entry):evC qcsc qns (evF qcsc (k+1)) m qns.code none (retK qcsc qns) (enter qns [.one (c1)] H)=feb (k+1) m c1 H:=by
 simp only[feb,← qyyb k m]
 kernel_rfl
theorem qjg {c1:Cell}{H:List Entry}{r:Res}(k:Nat)(h:feb (k+1) (k+1) c1 H=some r):qnx [.one (c1)] H=some r:=qap (k:=k+2) (Eq.trans (Eq.trans (by kernel_rfl) (qqjc k (k+1) c1 H)) h)
def qwyc:List (Nat×Run):=[(qxk,qpb),(qvl,qnx),(qxe,qpl),(qnu,qfl)]
def qeyd:Ctx:=ctx qbi qbh qwyc
def qmw:Run:=lim qeyd qzj
theorem qadd:FnOk Tryz.prog OkT qzj qmw:=qao (l:=qwyc) qac tyTab_ok qad okT (.cons quec (.cons qxxc (.cons qvlc (.cons qzib .nil)))) qzj
def fdj (k m:Nat)(c1:Cell):Option Res:=(qpb [.one (c1)] []).bind fun r2=>cond (qab qqsc r2.1) ((cC (qaa r2.1 0) 0).bind fun c3=>(qfl [.one (c3),.one (Cell.int 6)] r2.2).bind fun r4=>cond (qab qcbb r4.1) ((cB (qaa r4.1 0) 0).bind fun b5=>cond b5 ((qnx [.one (c3)] r4.2).bind fun r6=>cond (qab qmhc r6.1) ((cC (qaa r6.1 0) 0).bind fun c7=>some ([.one (c7)],r6.2)) none) ((qpl [.one (c3),.one (Cell.bool true)] r4.2).bind fun r8=>cond (qab qpgc r8.1) ((cC (qaa r8.1 0) 0).bind fun c9=>some ([.one (c9)],r8.2)) none)) none) none
theorem qndc (k m:Nat)(c1:Cell):evC qeyd qkrb (evF qeyd (k+1)) m qkrb.code none (retK qeyd qkrb) (enter qkrb [.one (c1)] [])=fdj (k+1) m c1:=by
 kernel_rfl
theorem qvo {c1:Cell}{r:Res}(k:Nat)(h:fdj (k+1) (k+1) c1=some r):qmw [.one (c1)] []=some r:=qap (k:=k+2) (Eq.trans (Eq.trans (by kernel_rfl) (qndc k (k+1) c1)) h)
def qcjd:List (Nat×Run):=[(qzj,qmw)]
def qetd:Ctx:=ctx qbi qbh qcjd
def qxw:Run:=lim qetd qffb
theorem ok_fcv:FnOk Tryz.prog OkT qffb qxw:=qao (l:=qcjd) qac tyTab_ok qad okT (.cons qadd .nil) qffb
def fcv (k m:Nat)(c1:Cell):Option Res:=(callL qmw [.one (c1)] []).bind fun r2=>cond (qab qnhc r2.1) ((cC (qaa r2.1 0) 0).bind fun c3=>some ([.one (c3)],r2.2)) none
theorem qlfc (k m:Nat)(c1:Cell):evC qetd qjjb (evF qetd (k+1)) m qjjb.code none (retK qetd qjjb) (enter qjjb [.one (c1)] [])=fcv (k+1) m c1:=by
 kernel_rfl
theorem qqeb {c1:Cell}{r:Res}(k:Nat)(h:fcv (k+1) (k+1) c1=some r):qxw [.one (c1)] []=some r:=qap (k:=k+2) (Eq.trans (Eq.trans (by kernel_rfl) (qlfc k (k+1) c1)) h)
def qucc:List (Nat×Run):=[]
def qtrb:Ctx:=ctx qbi qbh qucc
def qfo:Run:=lim qtrb qlf
theorem qptb:FnOk Tryz.prog OkT qlf qfo:=qao (l:=qucc) qac tyTab_ok qad okT .nil qlf
def qcjb (k m:Nat):Nat→Cell→Cell→Int→Int→List Entry→Option Res | 0,_,_,_,_,_=>none | n+1,c3,c4,i5,i6,H7=>cond (decide (i6 < i5)) ((idxA 4 (c4) i6).bind fun c8=>(deref H7 (c8)).bind fun p9=>(cS p9.1 p9.2).bind fun s10=>(cC p9.1 (p9.2+1)).bind fun c11=>(cC p9.1 ((p9.2+1)+1)).bind fun c12=>(cC p9.1 (((p9.2+1)+1)+1)).bind fun c13=>(ptrC c3).bind fun c14=>(fldA c14 0).bind fun c15=>(deref H7 (c15)).bind fun p16=>(cC p16.1 p16.2).bind fun c17=>(app H7 1 16 (c17) [[Cell.str s10]]).bind fun p18=>(ptrC c3).bind fun c19=>(fldA c19 0).bind fun c20=>(qbu p18.2 (c20) [p18.1]).bind fun h21=>(ptrC c3).bind fun c22=>(fldA c22 1).bind fun c23=>(deref h21 (c23)).bind fun p24=>(cC p24.1 p24.2).bind fun c25=>restK [c11] fun d26=>(qah h21 1 (.lst true 1 (chunks 1 1 d26))).bind fun r27=>(app h21 1 24 (c25) r27).bind fun p28=>(ptrC c3).bind fun c29=>(fldA c29 1).bind fun c30=>(qbu p28.2 (c30) [p28.1]).bind fun h31=>qcjb k m n (c3) (c4) i5 (IntKind.i64.wrap (i6+1)) h31) (some ([.one (c3)],H7))
def fay (k m:Nat)(c1:Cell)(H:List Entry):Option Res:=(lenC c1).bind fun n2=>qcjb k m m (.ptr H.length 2 0 0 0) (c1) (n2:Int) 0 (H++[Entry.mk 2 [[.lst true 1 [],.lst true 1 []]] 0 false])
abbrev qozc (k m:Nat):TB:=evC qtrb qpf (evF qtrb (k+1)) m (sub [1,1,0,1,2,3] qpf.code) none
abbrev qouc (k m:Nat):TK:=qaw 0 (seqK (evC qtrb qpf (evF qtrb (k+1)) m (sub [1,1,1] qpf.code) none) (retK qtrb qpf))
theorem qysb (k m:Nat):∀ (n:Nat) (c3 c4:Cell) (i5 i6:Int) (H7:List Entry),qbj (some [3,8,9,10]) (qozc k m) (qouc k m) n ⟨fT 38 0 [(3,.av (.one (c3))),(8,.av (.one (c4))),(9,.av (.one (Cell.int i5))),(10,.av (.one (Cell.int i6)))],fX 38 0 [],H7⟩=qcjb (k+1) m n c3 c4 i5 i6 H7:=by
 intro n
 induction n with
 | zero=>intros;rfl
 | succ n ih=>intros;simp only[qcjb,← ih];kernel_rfl
theorem qjuc (k m:Nat)(c1:Cell)(H:List Entry):evC qtrb qpf (evF qtrb (k+1)) m qpf.code none (retK qtrb qpf) (enter qpf [.one (c1)] H)=fay (k+1) m c1 H:=by
 simp only[fay,← qysb k m]
 kernel_rfl
theorem qnjb {c1:Cell}{H:List Entry}{r:Res}(k:Nat)(h:fay (k+1) (k+1) c1 H=some r):qfo [.one (c1)] H=some r:=qap (k:=k+2) (Eq.trans (Eq.trans (by kernel_rfl) (qjuc k (k+1) c1 H)) h)
def qvnc:List (Nat×Run):=[]
def qvob:Ctx:=ctx qbi qbh qvnc
def qlg:Run:=lim qvob qwz
theorem qyic:FnOk Tryz.prog OkT qwz qlg:=qao (l:=qvnc) qac tyTab_ok qad okT .nil qwz
def qbmb (k m:Nat):Nat→Cell→ByteArray→Int→Int→Option Res | 0,_,_,_,_=>none | n+1,c4,s5,i6,i7=>cond (decide (i7 < i6)) ((idxA 1 (c4) i7).bind fun c8=>(deref [] (c8)).bind fun p9=>(cS p9.1 p9.2).bind fun s10=>cond (s5.toList==s10.toList) (some ([.one (Cell.int i7)],[])) (qbmb k m n (c4) s5 i6 (IntKind.i64.wrap (i7+1)))) (some ([.one (Cell.int (-1))],[]))
def fco (k m:Nat)(c1:Cell)(s2:ByteArray):Option Res:=(lenC c1).bind fun n3=>qbmb k m m (c1) s2 (n3:Int) 0
abbrev qlpc (k m:Nat):TB:=evC qvob qof (evF qvob (k+1)) m (sub [1,0,1,2,3] qof.code) none
abbrev qiqc (k m:Nat):TK:=qaw 0 (seqK (evC qvob qof (evF qvob (k+1)) m (sub [1,1] qof.code) none) (retK qvob qof))
theorem qcyc (k m:Nat):∀ (n:Nat) (c4:Cell) (s5:ByteArray) (i6 i7:Int),qbj (some [0,1,7,8]) (qlpc k m) (qiqc k m) n ⟨fT 19 0 [(0,.av (.one (c4))),(1,.av (.one (Cell.str s5))),(7,.av (.one (Cell.int i6))),(8,.av (.one (Cell.int i7)))],fX 19 0 [],[]⟩=qbmb (k+1) m n c4 s5 i6 i7:=by
 intro n
 induction n with
 | zero=>intros;rfl
 | succ n ih=>intros;simp only[qbmb,← ih];kernel_rfl
theorem qkyc (k m:Nat)(c1:Cell)(s2:ByteArray):evC qvob qof (evF qvob (k+1)) m qof.code none (retK qvob qof) (enter qof [.one (c1),.one (Cell.str s2)] [])=fco (k+1) m c1 s2:=by
 simp only[fco,← qcyc k m]
 kernel_rfl
theorem qsib {c1:Cell}{s2:ByteArray}{r:Res}(k:Nat)(h:fco (k+1) (k+1) c1 s2=some r):qlg [.one (c1),.one (Cell.str s2)] []=some r:=qap (k:=k+2) (Eq.trans (Eq.trans (by kernel_rfl) (qkyc k (k+1) c1 s2)) h)
def qdjd:List (Nat×Run):=[(qwz,qlg)]
def qebd:Ctx:=ctx qbi qbh qdjd
def qev:Run:=lim qebd qdb
theorem qkzb:FnOk Tryz.prog OkT qdb qev:=qao (l:=qdjd) qac tyTab_ok qad okT (.cons qyic .nil) qdb
def fbc (k m:Nat)(c1:Cell)(s2:ByteArray)(H:List Entry):Option Res:=(ptrC c1).bind fun c3=>(fldA c3 0).bind fun c4=>(deref H (c4)).bind fun p5=>(cC p5.1 p5.2).bind fun c6=>(qbc qlg [.one (c6),.one (Cell.str s2)] H).bind fun r7=>cond (qab qrbc r7) ((cI .i64 (qaa r7 0) 0).bind fun i8=>cond (decide (i8 < 0)) (some ([.one (.lst true 1 [])],H)) ((ptrC c1).bind fun c9=>(fldA c9 1).bind fun c10=>(deref H (c10)).bind fun p11=>(cC p11.1 p11.2).bind fun c12=>(idxA 1 (c12) i8).bind fun c13=>(deref H (c13)).bind fun p14=>(cC p14.1 p14.2).bind fun c15=>some ([.one (c15)],H))) none
theorem qirc (k m:Nat)(c1:Cell)(s2:ByteArray)(H:List Entry):evC qebd qihb (evF qebd (k+1)) m qihb.code none (retK qebd qihb) (enter qihb [.one (c1),.one (Cell.str s2)] H)=fbc (k+1) m c1 s2 H:=by
 kernel_rfl
theorem quv {c1:Cell}{s2:ByteArray}{H:List Entry}{r:Res}(k:Nat)(h:fbc (k+1) (k+1) c1 s2 H=some r):qev [.one (c1),.one (Cell.str s2)] H=some r:=qap (k:=k+2) (Eq.trans (Eq.trans (by kernel_rfl) (qirc k (k+1) c1 s2 H)) h)
def qstc:List (Nat×Run):=[(qwz,qlg)]
def qesd:Ctx:=ctx qbi qbh qstc
def qch:Run:=lim qesd qju
theorem qkkb:FnOk Tryz.prog OkT qju qch:=qao (l:=qstc) qac tyTab_ok qad okT (.cons qyic .nil) qju
def fcl (k m:Nat)(c1:Cell)(s2:ByteArray):Option Res:=(qbc qlg [.one (c1),.one (Cell.str s2)] []).bind fun r3=>cond (qab qrbc r3) ((cI .i64 (qaa r3 0) 0).bind fun i4=>some ([.one (Cell.bool (decide (i4≥0)))],[])) none
theorem qfyc (k m:Nat)(c1:Cell)(s2:ByteArray):evC qesd qhvb (evF qesd (k+1)) m qhvb.code none (retK qesd qhvb) (enter qhvb [.one (c1),.one (Cell.str s2)] [])=fcl (k+1) m c1 s2:=by
 kernel_rfl
theorem qnyb {c1:Cell}{s2:ByteArray}{r:Res}(k:Nat)(h:fcl (k+1) (k+1) c1 s2=some r):qch [.one (c1),.one (Cell.str s2)] []=some r:=qap (k:=k+2) (Eq.trans (Eq.trans (by kernel_rfl) (qfyc k (k+1) c1 s2)) h)
def quuc:List (Nat×Run):=[(qju,qch)]
def qxxb:Ctx:=ctx qbi qbh quuc
def qkf:Run:=lim qxxb qej
theorem qhic:FnOk Tryz.prog OkT qej qkf:=qao (l:=quuc) qac tyTab_ok qad okT (.cons qkkb .nil) qej
def qaeb (k m:Nat):Nat→Cell→ByteArray→Cell→Cell→Int→Int→List Entry→Option Res | 0,_,_,_,_,_,_,_=>none | n+1,c8,s9,c10,c11,i12,i13,H14=>cond (decide (i13 < i12)) ((idxA 1 (c11) i13).bind fun c15=>(deref H14 (c15)).bind fun p16=>(cC p16.1 p16.2).bind fun c17=>(qbc qch [.one (c17),.one (Cell.str s9)] H14).bind fun r18=>cond (qab qta r18) ((cB (qaa r18 0) 0).bind fun b19=>cond b19 ((ptrC c8).bind fun c20=>(fldA c20 0).bind fun c21=>(deref H14 (c21)).bind fun p22=>(cC p22.1 p22.2).bind fun c23=>(idxA 1 (c23) i13).bind fun c24=>(deref H14 (c24)).bind fun p25=>(cS p25.1 p25.2).bind fun s26=>(app H14 1 16 (c10) [[Cell.str s26]]).bind fun p27=>qaeb k m n (c8) s9 (p27.1) (c11) i12 (IntKind.i64.wrap (i13+1)) p27.2) (qaeb k m n (c8) s9 (c10) (c11) i12 (IntKind.i64.wrap (i13+1)) H14)) none) (some ([.one (c10)],H14))
def fba (k m:Nat)(c1:Cell)(s2:ByteArray)(H:List Entry):Option Res:=(ptrC c1).bind fun c3=>(fldA c3 1).bind fun c4=>(deref H (c4)).bind fun p5=>(cC p5.1 p5.2).bind fun c6=>(lenC c6).bind fun n7=>qaeb k m m (c1) s2 (.lst true 1 []) (c6) (n7:Int) 0 H
abbrev qgkc (k m:Nat):TB:=evC qxxb qna (evF qxxb (k+1)) m (sub [1,1,0,1,2,3] qna.code) none
abbrev qhec (k m:Nat):TK:=qaw 0 (seqK (evC qxxb qna (evF qxxb (k+1)) m (sub [1,1,1] qna.code) none) (retK qxxb qna))
theorem qweb (k m:Nat):∀ (n:Nat) (c8:Cell) (s9:ByteArray) (c10 c11:Cell) (i12 i13:Int) (H14:List Entry),qbj (some [0,1,5,11,12,13]) (qgkc k m) (qhec k m) n ⟨fT 33 0 [(0,.av (.one (c8))),(1,.av (.one (Cell.str s9))),(5,.av (.one (c10))),(11,.av (.one (c11))),(12,.av (.one (Cell.int i12))),(13,.av (.one (Cell.int i13)))],fX 33 0 [],H14⟩=qaeb (k+1) m n c8 s9 c10 c11 i12 i13 H14:=by
 intro n
 induction n with
 | zero=>intros;rfl
 | succ n ih=>intros;simp only[qaeb,← ih];kernel_rfl
theorem qfqc (k m:Nat)(c1:Cell)(s2:ByteArray)(H:List Entry):evC qxxb qna (evF qxxb (k+1)) m qna.code none (retK qxxb qna) (enter qna [.one (c1),.one (Cell.str s2)] H)=fba (k+1) m c1 s2 H:=by
 simp only[fba,← qweb k m]
 kernel_rfl
theorem qmmb {c1:Cell}{s2:ByteArray}{H:List Entry}{r:Res}(k:Nat)(h:fba (k+1) (k+1) c1 s2 H=some r):qkf [.one (c1),.one (Cell.str s2)] H=some r:=qap (k:=k+2) (Eq.trans (Eq.trans (by kernel_rfl) (qfqc k (k+1) c1 s2 H)) h)
def qdgd:List (Nat×Run):=[]
def qfid:Ctx:=ctx qbi qbh qdgd
def qvv:Run:=lim qfid qgqb
theorem ok_fcj:FnOk Tryz.prog OkT qgqb qvv:=qao (l:=qdgd) qac tyTab_ok qad okT .nil qgqb
def fcj (k m:Nat)(c1:Cell):Option Res:=nilC (c1) (both (some ([.one (.lst true 1 [])],[])) ((qah [] 1 c1).bind fun r2=>(app [] 1 16 (.lst true 1 []) r2).bind fun p3=>some ([.one (p3.1)],p3.2))) ((qah [] 1 c1).bind fun r4=>(app [] 1 16 (.lst true 1 []) r4).bind fun p5=>some ([.one (p5.1)],p5.2))
theorem qqac (k m:Nat)(c1:Cell):evC qfid qjtb (evF qfid (k+1)) m qjtb.code none (retK qfid qjtb) (enter qjtb [.one (c1)] [])=fcj (k+1) m c1:=by
 kernel_rfl
theorem qqkb {c1:Cell}{r:Res}(k:Nat)(h:fcj (k+1) (k+1) c1=some r):qvv [.one (c1)] []=some r:=qap (k:=k+2) (Eq.trans (Eq.trans (by kernel_rfl) (qqac k (k+1) c1)) h)
def qspc:List (Nat×Run):=[]
def qevd:Ctx:=ctx qbi qbh qspc
def qsc:Run:=lim qevd qhgb
theorem ok_fci:FnOk Tryz.prog OkT qhgb qsc:=qao (l:=qspc) qac tyTab_ok qad okT .nil qhgb
def fci (k m:Nat)(c1:Cell)(H:List Entry):Option Res:=(lenC c1).bind fun n2=>(lenC c1).bind fun n3=>(slcC 1 (c1) 0 (some (n2:Int)) (some (n3:Int))).bind fun c4=>some ([.one (c4)],H)
theorem qqpc (k m:Nat)(c1:Cell)(H:List Entry):evC qevd qiwb (evF qevd (k+1)) m qiwb.code none (retK qevd qiwb) (enter qiwb [.one (c1)] H)=fci (k+1) m c1 H:=by
 kernel_rfl
theorem qzn {c1:Cell}{H:List Entry}{r:Res}(k:Nat)(h:fci (k+1) (k+1) c1 H=some r):qsc [.one (c1)] H=some r:=qap (k:=k+2) (Eq.trans (Eq.trans (by kernel_rfl) (qqpc k (k+1) c1 H)) h)
def quac:List (Nat×Run):=[(qgqb,qvv),(qeoc,qyu),(qhgb,qsc),(qezc,qut)]
def qdyd:Ctx:=ctx qbi qbh quac
def qll:Run:=lim qdyd qxu
theorem qync:FnOk Tryz.prog OkT qxu qll:=qao (l:=quac) qac tyTab_ok qad okT (.cons ok_fcj (.cons ok_fcp (.cons ok_fci (.cons ok_fck .nil)))) qxu
def fao (k m:Nat)(c1:Cell):Option Res:=(qfd qvv [.one (c1)] []).bind fun r2=>cond (qab qdid r2.1) ((cC (qaa r2.1 0) 0).bind fun c3=>(qyu [.one (c3)] r2.2).bind fun r4=>cond (qab qaod r4.1) ((qut [.one (c3)] r4.2).bind fun r5=>cond (qab qcmd r5.1) ((cC (qaa r5.1 0) 0).bind fun c6=>(qsc [.one (c6)] r5.2).bind fun r7=>cond (qab qctd r7.1) ((cC (qaa r7.1 0) 0).bind fun c8=>some ([.one (c8)],r7.2)) none) none) none) none
theorem qppc (k m:Nat)(c1:Cell):evC qdyd qipb (evF qdyd (k+1)) m qipb.code none (retK qdyd qipb) (enter qipb [.one (c1)] [])=fao (k+1) m c1:=by
 kernel_rfl
theorem qyn {c1:Cell}{r:Res}(k:Nat)(h:fao (k+1) (k+1) c1=some r):qll [.one (c1)] []=some r:=qap (k:=k+2) (Eq.trans (Eq.trans (by kernel_rfl) (qppc k (k+1) c1)) h)
end
end Go.Ev
