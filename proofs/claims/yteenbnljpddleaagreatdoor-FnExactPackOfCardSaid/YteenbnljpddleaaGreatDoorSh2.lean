/- What the evaluator says of the functions, each as a Lean function over cells. Printed by a program of this claim. Conditions: none. -/
import Derived.Test.YteenbnljpddleaaGreatDoorSh1
import Derived.KernelRfl
namespace Go.Ev
open Go Go.Proofs
noncomputable section
set_option maxRecDepth 100000
set_option linter.unusedVariables false
set_option linter.unusedSimpArgs false
def qwxc:List (Nat×Run):=[]
def qfed:Ctx:=ctx qbh qbg qwxc
def qeo:Run:=lim qfed qgib
theorem ok_fdp:FnOk Tryz.prog OkT qgib qeo:=qaq (l:=qwxc) qac tyTab_ok qad okT .nil qgib
def fdp (k m:Nat)(i1 i2 i3:Int)(c4:Cell):Option Res:=some ([.agg [Cell.int 1,Cell.int i1,Cell.int i2,Cell.int i3,.lst true 1 [[Cell.str (bs [48])]]]],[])
theorem qfjc (k m:Nat)(i1 i2 i3:Int)(c4:Cell):evC qfed qktb (evF qfed (k+1)) m qktb.code none (retK qfed qktb) (enter qktb [.agg [Cell.int i1,Cell.int i2,Cell.int i3,c4]] [])=fdp (k+1) m i1 i2 i3 c4:=by
 kernel_rfl
theorem qnpb {i1 i2 i3:Int}{c4:Cell}{r:Res}(k:Nat)(h:fdp (k+1) (k+1) i1 i2 i3 c4=some r):qeo [.agg [Cell.int i1,Cell.int i2,Cell.int i3,c4]] []=some r:=qas (k:=k+2) (Eq.trans (Eq.trans (by kernel_rfl) (qfjc k (k+1) i1 i2 i3 c4)) h)
def qxkc:List (Nat×Run):=[]
def qgmd:Ctx:=ctx qbh qbg qxkc
def qva:Run:=lim qgmd qgsb
theorem ok_fdq:FnOk Tryz.prog OkT qgsb qva:=qaq (l:=qxkc) qac tyTab_ok qad okT .nil qgsb
def fdq (k m:Nat)(i1 i2 i3:Int)(c4:Cell)(i5:Int)(b6:Bool):Option Res:=cond (i1 != 0) (some ([.agg [Cell.int (IntKind.i64.wrap (i1+1)),Cell.int 0,Cell.int 0,.lst true 1 []]],[])) (cond (i5==1) (some ([.agg [Cell.int (IntKind.i64.wrap (i1+1)),Cell.int 0,Cell.int 0,.lst true 1 []]],[])) (cond (i2 != 0) (some ([.agg [Cell.int 0,Cell.int (IntKind.i64.wrap (i2+1)),Cell.int 0,.lst true 1 []]],[])) (cond (i5==2) (some ([.agg [Cell.int 0,Cell.int (IntKind.i64.wrap (i2+1)),Cell.int 0,.lst true 1 []]],[])) (some ([.agg [Cell.int 0,Cell.int 0,Cell.int (IntKind.i64.wrap (i3+1)),.lst true 1 []]],[])))))
theorem qloc (k m:Nat)(i1 i2 i3:Int)(c4:Cell)(i5:Int)(b6:Bool):evC qgmd qimb (evF qgmd (k+1)) m qimb.code none (retK qgmd qimb) (enter qimb [.agg [Cell.int i1,Cell.int i2,Cell.int i3,c4,Cell.int i5,Cell.bool b6]] [])=fdq (k+1) m i1 i2 i3 c4 i5 b6:=by
 kernel_rfl
theorem qotb {i1 i2 i3:Int}{c4:Cell}{i5:Int}{b6:Bool}{r:Res}(k:Nat)(h:fdq (k+1) (k+1) i1 i2 i3 c4 i5 b6=some r):qva [.agg [Cell.int i1,Cell.int i2,Cell.int i3,c4,Cell.int i5,Cell.bool b6]] []=some r:=qas (k:=k+2) (Eq.trans (Eq.trans (by kernel_rfl) (qloc k (k+1) i1 i2 i3 c4 i5 b6)) h)
def qzdc:List (Nat×Run):=[]
def qggd:Ctx:=ctx qbh qbg qzdc
def qua:Run:=lim qggd qchb
theorem ok_fdy:FnOk Tryz.prog OkT qchb qua:=qaq (l:=qzdc) qac tyTab_ok qad okT .nil qchb
def fdy (k m:Nat)(i1 i2 i3:Int)(c4:Cell)(i5:Int)(b6:Bool):Option Res:=cond (i5==1) (some ([.agg [Cell.int (IntKind.i64.wrap (i1+1)),Cell.int 0,Cell.int 0,.lst true 1 []]],[])) (some ([.agg [Cell.int i1,Cell.int (IntKind.i64.wrap (i2+1)),Cell.int 0,.lst true 1 []]],[]))
theorem qsvc (k m:Nat)(i1 i2 i3:Int)(c4:Cell)(i5:Int)(b6:Bool):evC qggd qjpb (evF qggd (k+1)) m qjpb.code none (retK qggd qjpb) (enter qjpb [.agg [Cell.int i1,Cell.int i2,Cell.int i3,c4,Cell.int i5,Cell.bool b6]] [])=fdy (k+1) m i1 i2 i3 c4 i5 b6:=by
 kernel_rfl
theorem qnwb {i1 i2 i3:Int}{c4:Cell}{i5:Int}{b6:Bool}{r:Res}(k:Nat)(h:fdy (k+1) (k+1) i1 i2 i3 c4 i5 b6=some r):qua [.agg [Cell.int i1,Cell.int i2,Cell.int i3,c4,Cell.int i5,Cell.bool b6]] []=some r:=qas (k:=k+2) (Eq.trans (Eq.trans (by kernel_rfl) (qsvc k (k+1) i1 i2 i3 c4 i5 b6)) h)
def qwic:List (Nat×Run):=[]
def qend:Ctx:=ctx qbh qbg qwic
def qeh:Run:=lim qend qecb
theorem ok_fdv:FnOk Tryz.prog OkT qecb qeh:=qaq (l:=qwic) qac tyTab_ok qad okT .nil qecb
def fdv (k m:Nat)(i1 i2 i3:Int)(c4:Cell)(i5:Int)(b6:Bool):Option Res:=cond (i5==1) (some ([.agg [Cell.int (IntKind.i64.wrap (i1+1)),Cell.int 0,Cell.int 0,.lst true 1 []]],[])) (some ([.agg [Cell.int i1,Cell.int (IntKind.i64.wrap (i2+1)),Cell.int 0,.lst true 1 []]],[]))
theorem qsjc (k m:Nat)(i1 i2 i3:Int)(c4:Cell)(i5:Int)(b6:Bool):evC qend qjkb (evF qend (k+1)) m qjkb.code none (retK qend qjkb) (enter qjkb [.agg [Cell.int i1,Cell.int i2,Cell.int i3,c4,Cell.int i5,Cell.bool b6]] [])=fdv (k+1) m i1 i2 i3 c4 i5 b6:=by
 kernel_rfl
theorem qqtb {i1 i2 i3:Int}{c4:Cell}{i5:Int}{b6:Bool}{r:Res}(k:Nat)(h:fdv (k+1) (k+1) i1 i2 i3 c4 i5 b6=some r):qeh [.agg [Cell.int i1,Cell.int i2,Cell.int i3,c4,Cell.int i5,Cell.bool b6]] []=some r:=qas (k:=k+2) (Eq.trans (Eq.trans (by kernel_rfl) (qsjc k (k+1) i1 i2 i3 c4 i5 b6)) h)
def qard:List (Nat×Run):=[(qfbb,qgj),(qgib,qeo),(qgsb,qva),(qchb,qua),(qecb,qeh)]
def qgdd:Ctx:=ctx qbh qbg qard
def quq:Run:=lim qgdd qegb
theorem ok_fdu:FnOk Tryz.prog OkT qegb quq:=qaq (l:=qard) qac tyTab_ok qad okT (.cons ok_fdr (.cons ok_fdp (.cons ok_fdq (.cons ok_fdy (.cons ok_fdv .nil))))) qegb
def fdu (k m:Nat)(s1:ByteArray)(i2 i3 i4:Int)(c5:Cell)(i6:Int)(b7:Bool):Option Res:=cond (s1.toList==(bs [94]).toList) ((callL qgj [.agg [Cell.int i2,Cell.int i3,Cell.int i4,c5,Cell.int i6,Cell.bool b7]] []).bind fun r8=>cond (qab qyg r8.1) ((cI .i64 (qaa r8.1 0) 0).bind fun i9=>(cI .i64 (qaa r8.1 0) 1).bind fun i10=>(cI .i64 (qaa r8.1 0) 2).bind fun i11=>(cI .i64 (qaa r8.1 0) 3).bind fun i12=>(cC (qaa r8.1 0) 4).bind fun c13=>qkm r8.2 ((callL qva [.agg [Cell.int i2,Cell.int i3,Cell.int i4,c5,Cell.int i6,Cell.bool b7]] []).bind fun r14=>cond (qab qvcc r14.1) ((cI .i64 (qaa r14.1 0) 0).bind fun i15=>(cI .i64 (qaa r14.1 0) 1).bind fun i16=>(cI .i64 (qaa r14.1 0) 2).bind fun i17=>(cC (qaa r14.1 0) 3).bind fun c18=>(callL qeo [.agg [Cell.int i15,Cell.int i16,Cell.int i17,c18]] r14.2).bind fun r19=>cond (qab qns r19.1) ((cI .i64 (qaa r19.1 0) 0).bind fun i20=>(cI .i64 (qaa r19.1 0) 1).bind fun i21=>(cI .i64 (qaa r19.1 0) 2).bind fun i22=>(cI .i64 (qaa r19.1 0) 3).bind fun i23=>(cC (qaa r19.1 0) 4).bind fun c24=>restK [Cell.int i9,Cell.int i10,Cell.int i11,Cell.int i12,c13,Cell.int i20,Cell.int i21,Cell.int i22,Cell.int i23,c24] fun d25=>some ([.one ((.lst true 5 (chunks 5 2 d25)))],r19.2)) none) none)) none) (cond (s1.toList==(bs [126]).toList) ((callL qgj [.agg [Cell.int i2,Cell.int i3,Cell.int i4,c5,Cell.int i6,Cell.bool b7]] []).bind fun r26=>cond (qab qyg r26.1) ((cI .i64 (qaa r26.1 0) 0).bind fun i27=>(cI .i64 (qaa r26.1 0) 1).bind fun i28=>(cI .i64 (qaa r26.1 0) 2).bind fun i29=>(cI .i64 (qaa r26.1 0) 3).bind fun i30=>(cC (qaa r26.1 0) 4).bind fun c31=>qkm r26.2 ((callL qua [.agg [Cell.int i2,Cell.int i3,Cell.int i4,c5,Cell.int i6,Cell.bool b7]] []).bind fun r32=>cond (qab qxic r32.1) ((cI .i64 (qaa r32.1 0) 0).bind fun i33=>(cI .i64 (qaa r32.1 0) 1).bind fun i34=>(cI .i64 (qaa r32.1 0) 2).bind fun i35=>(cC (qaa r32.1 0) 3).bind fun c36=>(callL qeo [.agg [Cell.int i33,Cell.int i34,Cell.int i35,c36]] r32.2).bind fun r37=>cond (qab qns r37.1) ((cI .i64 (qaa r37.1 0) 0).bind fun i38=>(cI .i64 (qaa r37.1 0) 1).bind fun i39=>(cI .i64 (qaa r37.1 0) 2).bind fun i40=>(cI .i64 (qaa r37.1 0) 3).bind fun i41=>(cC (qaa r37.1 0) 4).bind fun c42=>restK [Cell.int i27,Cell.int i28,Cell.int i29,Cell.int i30,c31,Cell.int i38,Cell.int i39,Cell.int i40,Cell.int i41,c42] fun d43=>some ([.one ((.lst true 5 (chunks 5 2 d43)))],r37.2)) none) none)) none) (cond (s1.toList==(bs [62,61]).toList) ((callL qgj [.agg [Cell.int i2,Cell.int i3,Cell.int i4,c5,Cell.int i6,Cell.bool b7]] []).bind fun r44=>cond (qab qyg r44.1) ((cI .i64 (qaa r44.1 0) 0).bind fun i45=>(cI .i64 (qaa r44.1 0) 1).bind fun i46=>(cI .i64 (qaa r44.1 0) 2).bind fun i47=>(cI .i64 (qaa r44.1 0) 3).bind fun i48=>(cC (qaa r44.1 0) 4).bind fun c49=>restK [Cell.int i45,Cell.int i46,Cell.int i47,Cell.int i48,c49] fun d50=>some ([.one ((.lst true 5 (chunks 5 1 d50)))],r44.2)) none) (cond (s1.toList==(bs [60]).toList) (restK [Cell.int 1,Cell.int i2,Cell.int i3,Cell.int i4,c5] fun d51=>some ([.one ((.lst true 5 (chunks 5 1 d51)))],[])) (cond (s1.toList==(bs [62]).toList) (cond (i6==3) (restK [Cell.int 3,Cell.int i2,Cell.int i3,Cell.int i4,c5] fun d52=>some ([.one ((.lst true 5 (chunks 5 1 d52)))],[])) (cond (s1.toList==(bs [62]).toList) ((callL qeh [.agg [Cell.int i2,Cell.int i3,Cell.int i4,c5,Cell.int i6,Cell.bool b7]] []).bind fun r53=>cond (qab qpa r53.1) ((cI .i64 (qaa r53.1 0) 0).bind fun i54=>(cI .i64 (qaa r53.1 0) 1).bind fun i55=>(cI .i64 (qaa r53.1 0) 2).bind fun i56=>(cC (qaa r53.1 0) 3).bind fun c57=>restK [Cell.int 4,Cell.int i54,Cell.int i55,Cell.int i56,c57] fun d58=>some ([.one ((.lst true 5 (chunks 5 1 d58)))],r53.2)) none) (cond (s1.toList==(bs [60,61]).toList) (cond (i6==3) (restK [Cell.int 2,Cell.int i2,Cell.int i3,Cell.int i4,c5] fun d59=>some ([.one ((.lst true 5 (chunks 5 1 d59)))],[])) (cond (s1.toList==(bs [60,61]).toList) ((callL qeh [.agg [Cell.int i2,Cell.int i3,Cell.int i4,c5,Cell.int i6,Cell.bool b7]] []).bind fun r60=>cond (qab qpa r60.1) ((cI .i64 (qaa r60.1 0) 0).bind fun i61=>(cI .i64 (qaa r60.1 0) 1).bind fun i62=>(cI .i64 (qaa r60.1 0) 2).bind fun i63=>(cC (qaa r60.1 0) 3).bind fun c64=>(callL qeo [.agg [Cell.int i61,Cell.int i62,Cell.int i63,c64]] r60.2).bind fun r65=>cond (qab qns r65.1) ((cI .i64 (qaa r65.1 0) 0).bind fun i66=>(cI .i64 (qaa r65.1 0) 1).bind fun i67=>(cI .i64 (qaa r65.1 0) 2).bind fun i68=>(cI .i64 (qaa r65.1 0) 3).bind fun i69=>(cC (qaa r65.1 0) 4).bind fun c70=>restK [Cell.int i66,Cell.int i67,Cell.int i68,Cell.int i69,c70] fun d71=>some ([.one ((.lst true 5 (chunks 5 1 d71)))],r65.2)) none) none) (cond (i6==3) (restK [Cell.int 0,Cell.int i2,Cell.int i3,Cell.int i4,c5] fun d72=>some ([.one ((.lst true 5 (chunks 5 1 d72)))],[])) ((callL qgj [.agg [Cell.int i2,Cell.int i3,Cell.int i4,c5,Cell.int i6,Cell.bool b7]] []).bind fun r73=>cond (qab qyg r73.1) ((cI .i64 (qaa r73.1 0) 0).bind fun i74=>(cI .i64 (qaa r73.1 0) 1).bind fun i75=>(cI .i64 (qaa r73.1 0) 2).bind fun i76=>(cI .i64 (qaa r73.1 0) 3).bind fun i77=>(cC (qaa r73.1 0) 4).bind fun c78=>qkm r73.2 ((callL qeh [.agg [Cell.int i2,Cell.int i3,Cell.int i4,c5,Cell.int i6,Cell.bool b7]] []).bind fun r79=>cond (qab qpa r79.1) ((cI .i64 (qaa r79.1 0) 0).bind fun i80=>(cI .i64 (qaa r79.1 0) 1).bind fun i81=>(cI .i64 (qaa r79.1 0) 2).bind fun i82=>(cC (qaa r79.1 0) 3).bind fun c83=>(callL qeo [.agg [Cell.int i80,Cell.int i81,Cell.int i82,c83]] r79.2).bind fun r84=>cond (qab qns r84.1) ((cI .i64 (qaa r84.1 0) 0).bind fun i85=>(cI .i64 (qaa r84.1 0) 1).bind fun i86=>(cI .i64 (qaa r84.1 0) 2).bind fun i87=>(cI .i64 (qaa r84.1 0) 3).bind fun i88=>(cC (qaa r84.1 0) 4).bind fun c89=>restK [Cell.int i74,Cell.int i75,Cell.int i76,Cell.int i77,c78,Cell.int i85,Cell.int i86,Cell.int i87,Cell.int i88,c89] fun d90=>some ([.one ((.lst true 5 (chunks 5 2 d90)))],r84.2)) none) none)) none)))) (cond (s1.toList==(bs [60,61]).toList) ((callL qeh [.agg [Cell.int i2,Cell.int i3,Cell.int i4,c5,Cell.int i6,Cell.bool b7]] []).bind fun r91=>cond (qab qpa r91.1) ((cI .i64 (qaa r91.1 0) 0).bind fun i92=>(cI .i64 (qaa r91.1 0) 1).bind fun i93=>(cI .i64 (qaa r91.1 0) 2).bind fun i94=>(cC (qaa r91.1 0) 3).bind fun c95=>(callL qeo [.agg [Cell.int i92,Cell.int i93,Cell.int i94,c95]] r91.2).bind fun r96=>cond (qab qns r96.1) ((cI .i64 (qaa r96.1 0) 0).bind fun i97=>(cI .i64 (qaa r96.1 0) 1).bind fun i98=>(cI .i64 (qaa r96.1 0) 2).bind fun i99=>(cI .i64 (qaa r96.1 0) 3).bind fun i100=>(cC (qaa r96.1 0) 4).bind fun c101=>restK [Cell.int i97,Cell.int i98,Cell.int i99,Cell.int i100,c101] fun d102=>some ([.one ((.lst true 5 (chunks 5 1 d102)))],r96.2)) none) none) (cond (i6==3) (restK [Cell.int 0,Cell.int i2,Cell.int i3,Cell.int i4,c5] fun d103=>some ([.one ((.lst true 5 (chunks 5 1 d103)))],[])) ((callL qgj [.agg [Cell.int i2,Cell.int i3,Cell.int i4,c5,Cell.int i6,Cell.bool b7]] []).bind fun r104=>cond (qab qyg r104.1) ((cI .i64 (qaa r104.1 0) 0).bind fun i105=>(cI .i64 (qaa r104.1 0) 1).bind fun i106=>(cI .i64 (qaa r104.1 0) 2).bind fun i107=>(cI .i64 (qaa r104.1 0) 3).bind fun i108=>(cC (qaa r104.1 0) 4).bind fun c109=>qkm r104.2 ((callL qeh [.agg [Cell.int i2,Cell.int i3,Cell.int i4,c5,Cell.int i6,Cell.bool b7]] []).bind fun r110=>cond (qab qpa r110.1) ((cI .i64 (qaa r110.1 0) 0).bind fun i111=>(cI .i64 (qaa r110.1 0) 1).bind fun i112=>(cI .i64 (qaa r110.1 0) 2).bind fun i113=>(cC (qaa r110.1 0) 3).bind fun c114=>(callL qeo [.agg [Cell.int i111,Cell.int i112,Cell.int i113,c114]] r110.2).bind fun r115=>cond (qab qns r115.1) ((cI .i64 (qaa r115.1 0) 0).bind fun i116=>(cI .i64 (qaa r115.1 0) 1).bind fun i117=>(cI .i64 (qaa r115.1 0) 2).bind fun i118=>(cI .i64 (qaa r115.1 0) 3).bind fun i119=>(cC (qaa r115.1 0) 4).bind fun c120=>restK [Cell.int i105,Cell.int i106,Cell.int i107,Cell.int i108,c109,Cell.int i116,Cell.int i117,Cell.int i118,Cell.int i119,c120] fun d121=>some ([.one ((.lst true 5 (chunks 5 2 d121)))],r115.2)) none) none)) none)))))) (cond (s1.toList==(bs [62]).toList) ((callL qeh [.agg [Cell.int i2,Cell.int i3,Cell.int i4,c5,Cell.int i6,Cell.bool b7]] []).bind fun r122=>cond (qab qpa r122.1) ((cI .i64 (qaa r122.1 0) 0).bind fun i123=>(cI .i64 (qaa r122.1 0) 1).bind fun i124=>(cI .i64 (qaa r122.1 0) 2).bind fun i125=>(cC (qaa r122.1 0) 3).bind fun c126=>restK [Cell.int 4,Cell.int i123,Cell.int i124,Cell.int i125,c126] fun d127=>some ([.one ((.lst true 5 (chunks 5 1 d127)))],r122.2)) none) (cond (s1.toList==(bs [60,61]).toList) (cond (i6==3) (restK [Cell.int 2,Cell.int i2,Cell.int i3,Cell.int i4,c5] fun d128=>some ([.one ((.lst true 5 (chunks 5 1 d128)))],[])) (cond (s1.toList==(bs [60,61]).toList) ((callL qeh [.agg [Cell.int i2,Cell.int i3,Cell.int i4,c5,Cell.int i6,Cell.bool b7]] []).bind fun r129=>cond (qab qpa r129.1) ((cI .i64 (qaa r129.1 0) 0).bind fun i130=>(cI .i64 (qaa r129.1 0) 1).bind fun i131=>(cI .i64 (qaa r129.1 0) 2).bind fun i132=>(cC (qaa r129.1 0) 3).bind fun c133=>(callL qeo [.agg [Cell.int i130,Cell.int i131,Cell.int i132,c133]] r129.2).bind fun r134=>cond (qab qns r134.1) ((cI .i64 (qaa r134.1 0) 0).bind fun i135=>(cI .i64 (qaa r134.1 0) 1).bind fun i136=>(cI .i64 (qaa r134.1 0) 2).bind fun i137=>(cI .i64 (qaa r134.1 0) 3).bind fun i138=>(cC (qaa r134.1 0) 4).bind fun c139=>restK [Cell.int i135,Cell.int i136,Cell.int i137,Cell.int i138,c139] fun d140=>some ([.one ((.lst true 5 (chunks 5 1 d140)))],r134.2)) none) none) (cond (i6==3) (restK [Cell.int 0,Cell.int i2,Cell.int i3,Cell.int i4,c5] fun d141=>some ([.one ((.lst true 5 (chunks 5 1 d141)))],[])) ((callL qgj [.agg [Cell.int i2,Cell.int i3,Cell.int i4,c5,Cell.int i6,Cell.bool b7]] []).bind fun r142=>cond (qab qyg r142.1) ((cI .i64 (qaa r142.1 0) 0).bind fun i143=>(cI .i64 (qaa r142.1 0) 1).bind fun i144=>(cI .i64 (qaa r142.1 0) 2).bind fun i145=>(cI .i64 (qaa r142.1 0) 3).bind fun i146=>(cC (qaa r142.1 0) 4).bind fun c147=>qkm r142.2 ((callL qeh [.agg [Cell.int i2,Cell.int i3,Cell.int i4,c5,Cell.int i6,Cell.bool b7]] []).bind fun r148=>cond (qab qpa r148.1) ((cI .i64 (qaa r148.1 0) 0).bind fun i149=>(cI .i64 (qaa r148.1 0) 1).bind fun i150=>(cI .i64 (qaa r148.1 0) 2).bind fun i151=>(cC (qaa r148.1 0) 3).bind fun c152=>(callL qeo [.agg [Cell.int i149,Cell.int i150,Cell.int i151,c152]] r148.2).bind fun r153=>cond (qab qns r153.1) ((cI .i64 (qaa r153.1 0) 0).bind fun i154=>(cI .i64 (qaa r153.1 0) 1).bind fun i155=>(cI .i64 (qaa r153.1 0) 2).bind fun i156=>(cI .i64 (qaa r153.1 0) 3).bind fun i157=>(cC (qaa r153.1 0) 4).bind fun c158=>restK [Cell.int i143,Cell.int i144,Cell.int i145,Cell.int i146,c147,Cell.int i154,Cell.int i155,Cell.int i156,Cell.int i157,c158] fun d159=>some ([.one ((.lst true 5 (chunks 5 2 d159)))],r153.2)) none) none)) none)))) (cond (s1.toList==(bs [60,61]).toList) ((callL qeh [.agg [Cell.int i2,Cell.int i3,Cell.int i4,c5,Cell.int i6,Cell.bool b7]] []).bind fun r160=>cond (qab qpa r160.1) ((cI .i64 (qaa r160.1 0) 0).bind fun i161=>(cI .i64 (qaa r160.1 0) 1).bind fun i162=>(cI .i64 (qaa r160.1 0) 2).bind fun i163=>(cC (qaa r160.1 0) 3).bind fun c164=>(callL qeo [.agg [Cell.int i161,Cell.int i162,Cell.int i163,c164]] r160.2).bind fun r165=>cond (qab qns r165.1) ((cI .i64 (qaa r165.1 0) 0).bind fun i166=>(cI .i64 (qaa r165.1 0) 1).bind fun i167=>(cI .i64 (qaa r165.1 0) 2).bind fun i168=>(cI .i64 (qaa r165.1 0) 3).bind fun i169=>(cC (qaa r165.1 0) 4).bind fun c170=>restK [Cell.int i166,Cell.int i167,Cell.int i168,Cell.int i169,c170] fun d171=>some ([.one ((.lst true 5 (chunks 5 1 d171)))],r165.2)) none) none) (cond (i6==3) (restK [Cell.int 0,Cell.int i2,Cell.int i3,Cell.int i4,c5] fun d172=>some ([.one ((.lst true 5 (chunks 5 1 d172)))],[])) ((callL qgj [.agg [Cell.int i2,Cell.int i3,Cell.int i4,c5,Cell.int i6,Cell.bool b7]] []).bind fun r173=>cond (qab qyg r173.1) ((cI .i64 (qaa r173.1 0) 0).bind fun i174=>(cI .i64 (qaa r173.1 0) 1).bind fun i175=>(cI .i64 (qaa r173.1 0) 2).bind fun i176=>(cI .i64 (qaa r173.1 0) 3).bind fun i177=>(cC (qaa r173.1 0) 4).bind fun c178=>qkm r173.2 ((callL qeh [.agg [Cell.int i2,Cell.int i3,Cell.int i4,c5,Cell.int i6,Cell.bool b7]] []).bind fun r179=>cond (qab qpa r179.1) ((cI .i64 (qaa r179.1 0) 0).bind fun i180=>(cI .i64 (qaa r179.1 0) 1).bind fun i181=>(cI .i64 (qaa r179.1 0) 2).bind fun i182=>(cC (qaa r179.1 0) 3).bind fun c183=>(callL qeo [.agg [Cell.int i180,Cell.int i181,Cell.int i182,c183]] r179.2).bind fun r184=>cond (qab qns r184.1) ((cI .i64 (qaa r184.1 0) 0).bind fun i185=>(cI .i64 (qaa r184.1 0) 1).bind fun i186=>(cI .i64 (qaa r184.1 0) 2).bind fun i187=>(cI .i64 (qaa r184.1 0) 3).bind fun i188=>(cC (qaa r184.1 0) 4).bind fun c189=>restK [Cell.int i174,Cell.int i175,Cell.int i176,Cell.int i177,c178,Cell.int i185,Cell.int i186,Cell.int i187,Cell.int i188,c189] fun d190=>some ([.one ((.lst true 5 (chunks 5 2 d190)))],r184.2)) none) none)) none)))))))))
theorem qqec (k m:Nat)(s1:ByteArray)(i2 i3 i4:Int)(c5:Cell)(i6:Int)(b7:Bool):evC qgdd qhsb (evF qgdd (k+1)) m qhsb.code none (retK qgdd qhsb) (enter qhsb [.one (Cell.str s1),.agg [Cell.int i2,Cell.int i3,Cell.int i4,c5,Cell.int i6,Cell.bool b7]] [])=fdu (k+1) m s1 i2 i3 i4 c5 i6 b7:=by
 kernel_rfl
theorem qmdb {s1:ByteArray}{i2 i3 i4:Int}{c5:Cell}{i6:Int}{b7:Bool}{r:Res}(k:Nat)(h:fdu (k+1) (k+1) s1 i2 i3 i4 c5 i6 b7=some r):quq [.one (Cell.str s1),.agg [Cell.int i2,Cell.int i3,Cell.int i4,c5,Cell.int i6,Cell.bool b7]] []=some r:=qas (k:=k+2) (Eq.trans (Eq.trans (by kernel_rfl) (qqec k (k+1) s1 i2 i3 i4 c5 i6 b7)) h)
def qbkd:List (Nat×Run):=[(qfcb,qyb),(qegb,quq)]
def qbec:Ctx:=ctx qbh qbg qbkd
def qvn:Run:=lim qbec qftb
theorem ok_fea:FnOk Tryz.prog OkT qftb qvn:=qaq (l:=qbkd) qac tyTab_ok qad okT (.cons ok_fdw (.cons ok_fdu .nil)) qftb
def qsi (k m:Nat):Nat→ByteArray→Int→Option Res | 0,_,_=>none | n+1,s2,i3=>cond (decide (i3 < 8)) ((idxA 1 (.lst true 1 [[Cell.str (bs [94])],[Cell.str (bs [126])],[Cell.str (bs [62,61])],[Cell.str (bs [62])],[Cell.str (bs [60,61])],[Cell.str (bs [60])],[Cell.str (bs [61])],[Cell.str (bs [])]]) i3).bind fun c4=>(deref [] (c4)).bind fun p5=>(cS p5.1 p5.2).bind fun s6=>cond (decide ((s2.size:Int)≥(s6.size:Int))) ((subS s2 0 (s6.size:Int)).bind fun s7=>(idxA 1 (.lst true 1 [[Cell.str (bs [94])],[Cell.str (bs [126])],[Cell.str (bs [62,61])],[Cell.str (bs [62])],[Cell.str (bs [60,61])],[Cell.str (bs [60])],[Cell.str (bs [61])],[Cell.str (bs [])]]) i3).bind fun c8=>(deref [] (c8)).bind fun p9=>(cS p9.1 p9.2).bind fun s10=>cond (s7.toList==s10.toList) ((subS s2 (s6.size:Int) (s2.size:Int)).bind fun s11=>(callL qyb [.one (Cell.str s11)] []).bind fun r12=>cond (qab qxoc r12.1) ((cI .i64 (qaa r12.1 0) 0).bind fun i13=>(cI .i64 (qaa r12.1 0) 1).bind fun i14=>(cI .i64 (qaa r12.1 0) 2).bind fun i15=>(cC (qaa r12.1 0) 3).bind fun c16=>(cI .i64 (qaa r12.1 0) 4).bind fun i17=>(cB (qaa r12.1 0) 5).bind fun b18=>cond (!b18) (some ([.one (.lst true 5 []),.one (Cell.bool false)],r12.2)) ((idxA 1 (.lst true 1 [[Cell.str (bs [94])],[Cell.str (bs [126])],[Cell.str (bs [62,61])],[Cell.str (bs [62])],[Cell.str (bs [60,61])],[Cell.str (bs [60])],[Cell.str (bs [61])],[Cell.str (bs [])]]) i3).bind fun c19=>(deref r12.2 (c19)).bind fun p20=>(cS p20.1 p20.2).bind fun s21=>(callL quq [.one (Cell.str s21),.agg [Cell.int i13,Cell.int i14,Cell.int i15,c16,Cell.int i17,Cell.bool b18]] r12.2).bind fun r22=>cond (qab quic r22.1) ((cC (qaa r22.1 0) 0).bind fun c23=>some ([.one (c23),.one (Cell.bool true)],r22.2)) none)) none) (qsi k m n s2 (IntKind.i64.wrap (i3+1)))) (qsi k m n s2 (IntKind.i64.wrap (i3+1)))) (some ([.one (.lst true 5 []),.one (Cell.bool false)],[]))
def fea (k m:Nat)(s1:ByteArray):Option Res:=cond (s1.toList==(bs [42]).toList) (some ([.one (.lst true 5 [[Cell.int 4,Cell.int 0,Cell.int 0,Cell.int 0,.lst true 1 []]]),.one (Cell.bool true)],[])) (qsi k m m s1 0)
abbrev qfyc (k m:Nat):TB:=evC qbec qlv (evF qbec (k+1)) m (sub [1,1,1,0,1,2,3] qlv.code) none
abbrev qhmc (k m:Nat):TK:=qay 0 (seqK (evC qbec qlv (evF qbec (k+1)) m (sub [1,1,1,1] qlv.code) none) (retK qbec qlv))
theorem qdhc (k m:Nat):∀ (n:Nat) (s2:ByteArray) (i3:Int),qca (some [0,4,5]) (qfyc k m) (qhmc k m) n ⟨fT 53 0 [(0,.av (.one (Cell.str s2))),(4,.av (.one (.lst true 1 [[Cell.str (bs [94])],[Cell.str (bs [126])],[Cell.str (bs [62,61])],[Cell.str (bs [62])],[Cell.str (bs [60,61])],[Cell.str (bs [60])],[Cell.str (bs [61])],[Cell.str (bs [])]]))),(5,.av (.one (Cell.int i3)))],fX 53 0 [],[]⟩=qsi (k+1) m n s2 i3:=by
 intro n
 induction n with
 | zero=>intros;rfl
 | succ n ih=>intros;simp only[qsi,← ih];kernel_rfl
theorem qhpc (k m:Nat)(s1:ByteArray):evC qbec qlv (evF qbec (k+1)) m qlv.code none (retK qbec qlv) (enter qlv [.one (Cell.str s1)] [])=fea (k+1) m s1:=by
 simp only[fea,← qdhc k m]
 kernel_rfl
theorem qyc {s1:ByteArray}{r:Res}(k:Nat)(h:fea (k+1) (k+1) s1=some r):qvn [.one (Cell.str s1)] []=some r:=qas (k:=k+2) (Eq.trans (Eq.trans (by kernel_rfl) (qhpc k (k+1) s1)) h)
def qzoc:List (Nat×Run):=[(qui,qkj),(qftb,qvn)]
def qyxb:Ctx:=ctx qbh qbg qzoc
def qyl:Run:=lim qyxb qdpb
theorem ok_fdt:FnOk Tryz.prog OkT qdpb qyl:=qaq (l:=qzoc) qac tyTab_ok qad okT (.cons qdad (.cons ok_fea .nil)) qdpb
def qys (k m:Nat):Nat→Cell→Cell→Int→List Entry→Option Res | 0,_,_,_,_=>none | n+1,c25,c26,i27,H28=>(lenC c25).bind fun n29=>cond (decide (i27 < (n29:Int))) ((idxA 1 (c25) i27).bind fun c30=>(deref H28 (c30)).bind fun p31=>(cS p31.1 p31.2).bind fun s32=>(callL qvn [.one (Cell.str s32)] H28).bind fun r33=>cond (qab qwsc r33.1) ((cC (qaa r33.1 0) 0).bind fun c34=>(cB (qaa r33.1 1) 0).bind fun b35=>cond (!b35) (some ([.one (c26),.one (Cell.bool false)],r33.2)) ((qcy r33.2 5 c34).bind fun r36=>(app r33.2 5 56 (c26) r36).bind fun p37=>qys k m n (c25) (p37.1) (IntKind.i64.wrap (i27+1)) p37.2)) none) ((lenC c26).bind fun n38=>some ([.one (c26),.one (Cell.bool (decide ((n38:Int)≤4)))],H28))
def fdt (k m:Nat)(c1:Cell):Option Res:=(lenC c1).bind fun n2=>cond ((n2:Int)==3) ((idxA 1 (c1) 1).bind fun c3=>(deref [] (c3)).bind fun p4=>(cS p4.1 p4.2).bind fun s5=>cond (s5.toList==(bs [45]).toList) ((idxA 1 (c1) 0).bind fun c6=>(deref [] (c6)).bind fun p7=>(cS p7.1 p7.2).bind fun s8=>(callL qkj [.one (Cell.str s8)] []).bind fun r9=>cond (qab qbuc r9.1) ((cI .i64 (qaa r9.1 0) 0).bind fun i10=>(cI .i64 (qaa r9.1 0) 1).bind fun i11=>(cI .i64 (qaa r9.1 0) 2).bind fun i12=>(cC (qaa r9.1 0) 3).bind fun c13=>(cB (qaa r9.1 1) 0).bind fun b14=>(idxA 1 (c1) 2).bind fun c15=>(deref r9.2 (c15)).bind fun p16=>(cS p16.1 p16.2).bind fun s17=>(callL qkj [.one (Cell.str s17)] r9.2).bind fun r18=>cond (qab qbuc r18.1) ((cI .i64 (qaa r18.1 0) 0).bind fun i19=>(cI .i64 (qaa r18.1 0) 1).bind fun i20=>(cI .i64 (qaa r18.1 0) 2).bind fun i21=>(cC (qaa r18.1 0) 3).bind fun c22=>(cB (qaa r18.1 1) 0).bind fun b23=>restK [Cell.int 4,Cell.int i10,Cell.int i11,Cell.int i12,c13,Cell.int 2,Cell.int i19,Cell.int i20,Cell.int i21,c22] fun d24=>cond b14 (some ([.one ((.lst true 5 (chunks 5 2 d24))),.one (Cell.bool b23)],r18.2)) (some ([.one ((.lst true 5 (chunks 5 2 d24))),.one (Cell.bool false)],r18.2))) none) none) (qys k m m (c1) (.lst true 5 []) 0 [])) (qys k m m (c1) (.lst true 5 []) 0 [])
abbrev qoec (k m:Nat):TB:=evC qyxb qor (evF qyxb (k+1)) m (sub [1,1,1,0,1,2,3] qor.code) none
abbrev qmsc (k m:Nat):TK:=qay 0 (seqK (evC qyxb qor (evF qyxb (k+1)) m (sub [1,1,1,1] qor.code) none) (retK qyxb qor))
theorem qsjb (k m:Nat):∀ (n:Nat) (c25 c26:Cell) (i27:Int) (H28:List Entry),qca (some [0,4,9]) (qoec k m) (qmsc k m) n ⟨fT 69 0 [(0,.av (.one (c25))),(4,.av (.one (c26))),(9,.av (.one (Cell.int i27)))],fX 69 0 [],H28⟩=qys (k+1) m n c25 c26 i27 H28:=by
 intro n
 induction n with
 | zero=>intros;rfl
 | succ n ih=>intros;simp only[qys,← ih];kernel_rfl
theorem qmtc (k m:Nat)(c1:Cell):evC qyxb qor (evF qyxb (k+1)) m qor.code none (retK qyxb qor) (enter qor [.one (c1)] [])=fdt (k+1) m c1:=by
 simp only[fdt,← qsjb k m]
 kernel_rfl
theorem qtq {c1:Cell}{r:Res}(k:Nat)(h:fdt (k+1) (k+1) c1=some r):qyl [.one (c1)] []=some r:=qas (k:=k+2) (Eq.trans (Eq.trans (by kernel_rfl) (qmtc k (k+1) c1)) h)
def qcld:List (Nat×Run):=[]
def qetb:Ctx:=ctx qbh qbg qcld
def qxm:Run:=lim qetb qgpb
theorem ok_fdz:FnOk Tryz.prog OkT qgpb qxm:=qaq (l:=qcld) qac tyTab_ok qad okT .nil qgpb
def qze (k m:Nat):Nat→ByteArray→Option Res | 0,_=>none | n+1,s5=>cond (decide ((s5.size:Int) > 0)) ((bytS s5 (IntKind.i64.wrap ((s5.size:Int) - 1))).bind fun i6=>cond (i6==32) ((subS s5 0 (IntKind.i64.wrap ((s5.size:Int) - 1))).bind fun s7=>qze k m n s7) (some ([.one (Cell.str s5)],[]))) (some ([.one (Cell.str s5)],[]))
def qzx (k m:Nat):Nat→ByteArray→Option Res | 0,_=>none | n+1,s2=>cond (decide ((s2.size:Int) > 0)) ((bytS s2 0).bind fun i3=>cond (i3==32) ((subS s2 1 (s2.size:Int)).bind fun s4=>qzx k m n s4) (qze k m m s2)) (qze k m m s2)
def fdz (k m:Nat)(s1:ByteArray):Option Res:=qzx k m m s1
abbrev qlfc (k m:Nat):TB:=evC qetb qhe (evF qetb (k+1)) m (sub [1,0,2,3] qhe.code) none
abbrev qfuc (k m:Nat):TK:=qay 0 (seqK (evC qetb qhe (evF qetb (k+1)) m (sub [1,1] qhe.code) none) (retK qetb qhe))
abbrev qfmc (k m:Nat):TB:=evC qetb qhe (evF qetb (k+1)) m (sub [1,1,0,2,3] qhe.code) none
abbrev qrac (k m:Nat):TK:=qay 2 (seqK (evC qetb qhe (evF qetb (k+1)) m (sub [1,1,1] qhe.code) none) (retK qetb qhe))
theorem qbvc (k m:Nat):∀ (n:Nat) (s5:ByteArray),qca (some [0]) (qfmc k m) (qrac k m) n ⟨fT 30 0 [(0,.av (.one (Cell.str s5)))],fX 30 0 [],[]⟩=qze (k+1) m n s5:=by
 intro n
 induction n with
 | zero=>intros;rfl
 | succ n ih=>intros;simp only[qze,← ih];kernel_rfl
theorem qvxb (k m:Nat):∀ (n:Nat) (s2:ByteArray),qca (some [0]) (qlfc k m) (qfuc k m) n ⟨fT 30 0 [(0,.av (.one (Cell.str s2)))],fX 30 0 [],[]⟩=qzx (k+1) m n s2:=by
 intro n
 induction n with
 | zero=>intros;rfl
 | succ n ih=>intros;simp only[qzx,← qbvc k m,← ih];kernel_rfl
theorem qjgc (k m:Nat)(s1:ByteArray):evC qetb qhe (evF qetb (k+1)) m qhe.code none (retK qetb qhe) (enter qhe [.one (Cell.str s1)] [])=fdz (k+1) m s1:=by
 simp only[fdz,← qvxb k m]
 kernel_rfl
theorem qpjb {s1:ByteArray}{r:Res}(k:Nat)(h:fdz (k+1) (k+1) s1=some r):qxm [.one (Cell.str s1)] []=some r:=qas (k:=k+2) (Eq.trans (Eq.trans (by kernel_rfl) (qjgc k (k+1) s1)) h)
def qvrc:List (Nat×Run):=[(qxq,qfu)]
def qwwb:Ctx:=ctx qbh qbg qvrc
def quj:Run:=lim qwwb qgzb
theorem ok_fds:FnOk Tryz.prog OkT qgzb quj:=qaq (l:=qvrc) qac tyTab_ok qad okT (.cons qyzc .nil) qgzb
def qaxb (k m:Nat):Nat→Cell→Int→Option Res | 0,_,_=>none | n+1,c2,i3=>(lenC c2).bind fun n4=>cond (decide (i3 < (n4:Int))) ((idxA 5 (c2) i3).bind fun c5=>(fldA c5 1).bind fun c6=>(deref [] (c6)).bind fun p7=>(cI .i64 p7.1 p7.2).bind fun i8=>(cI .i64 p7.1 (p7.2+1)).bind fun i9=>(cI .i64 p7.1 ((p7.2+1)+1)).bind fun i10=>(cC p7.1 (((p7.2+1)+1)+1)).bind fun c11=>(qak qfu [.agg [Cell.int i8,Cell.int i9,Cell.int i10,c11]] []).bind fun r12=>cond (qab qjab r12) ((cB (qaa r12 0) 0).bind fun b13=>cond (!b13) (some ([.one (Cell.bool false)],[])) (qaxb k m n (c2) (IntKind.i64.wrap (i3+1)))) none) (some ([.one (Cell.bool true)],[]))
def fds (k m:Nat)(c1:Cell):Option Res:=qaxb k m m (c1) 0
abbrev qhoc (k m:Nat):TB:=evC qwwb qld (evF qwwb (k+1)) m (sub [1,0,1,2,3] qld.code) none
abbrev qnhc (k m:Nat):TK:=qay 0 (seqK (evC qwwb qld (evF qwwb (k+1)) m (sub [1,1] qld.code) none) (retK qwwb qld))
theorem quub (k m:Nat):∀ (n:Nat) (c2:Cell) (i3:Int),qca (some [0,3]) (qhoc k m) (qnhc k m) n ⟨fT 17 0 [(0,.av (.one (c2))),(3,.av (.one (Cell.int i3)))],fX 17 0 [],[]⟩=qaxb (k+1) m n c2 i3:=by
 intro n
 induction n with
 | zero=>intros;rfl
 | succ n ih=>intros;simp only[qaxb,← ih];kernel_rfl
theorem qpmc (k m:Nat)(c1:Cell):evC qwwb qld (evF qwwb (k+1)) m qld.code none (retK qwwb qld) (enter qld [.one (c1)] [])=fds (k+1) m c1:=by
 simp only[fds,← quub k m]
 kernel_rfl
theorem qnyb {c1:Cell}{r:Res}(k:Nat)(h:fds (k+1) (k+1) c1=some r):quj [.one (c1)] []=some r:=qas (k:=k+2) (Eq.trans (Eq.trans (by kernel_rfl) (qpmc k (k+1) c1)) h)
def qvec:List (Nat×Run):=[(qqr,qdm),(qcnb,qxu),(qdpb,qyl),(qgpb,qxm),(qgzb,quj)]
def qyvb:Ctx:=ctx qbh qbg qvec
def qvr:Run:=lim qyvb qctb
theorem ok_fdb:FnOk Tryz.prog OkT qctb qvr:=qaq (l:=qvec) qac tyTab_ok qad okT (.cons qroc (.cons ok_fdx (.cons ok_fdt (.cons ok_fdz (.cons ok_fds .nil))))) qctb
def qacb (k m:Nat):Nat→Cell→Cell→Int→List Entry→Option Res | 0,_,_,_,_=>none | n+1,c4,c5,i6,H7=>(lenC c5).bind fun n8=>cond (decide (i6 < (n8:Int))) ((idxA 1 (c5) i6).bind fun c9=>(deref H7 (c9)).bind fun p10=>(cS p10.1 p10.2).bind fun s11=>(qak qxm [.one (Cell.str s11)] H7).bind fun r12=>cond (qab qbqd r12) ((cS (qaa r12 0) 0).bind fun s13=>(callL qdm [.one (Cell.str s13),.one (.sc (.int .u8 32))] H7).bind fun r14=>cond (qab qtj r14.1) ((cC (qaa r14.1 0) 0).bind fun c15=>(callL qyl [.one (c15)] r14.2).bind fun r16=>cond (qab qdwd r16.1) ((cC (qaa r16.1 0) 0).bind fun c17=>(cB (qaa r16.1 1) 0).bind fun b18=>cond (!b18) (some ([.one (.lst true 1 []),.one (Cell.bool false)],r16.2)) ((qak quj [.one (c17)] r16.2).bind fun r19=>cond (qab qekd r19) ((cB (qaa r19 0) 0).bind fun b20=>cond (!b20) (some ([.one (.lst true 1 []),.one (Cell.bool false)],r16.2)) (restK [c17] fun d21=>(qcy r16.2 1 (.lst true 1 (chunks 1 1 d21))).bind fun r22=>(app r16.2 1 24 (c4) r22).bind fun p23=>qacb k m n (p23.1) (c5) (IntKind.i64.wrap (i6+1)) p23.2)) none)) none) none) none) ((lenC c4).bind fun n24=>cond (decide ((n24:Int) > 4)) (some ([.one (.lst true 1 []),.one (Cell.bool false)],H7)) (some ([.one (c4),.one (Cell.bool true)],H7)))
def fdb (k m:Nat)(s1:ByteArray):Option Res:=(callL qxu [.one (Cell.str s1)] []).bind fun r2=>cond (qab qabd r2.1) ((cC (qaa r2.1 0) 0).bind fun c3=>qacb k m m (.lst true 1 []) (c3) 0 r2.2) none
abbrev qpwc (k m:Nat):TB:=evC qyvb qln (evF qyvb (k+1)) m (sub [1,1,1,0,1,2,3] qln.code) none
abbrev qmic (k m:Nat):TK:=qay 0 (seqK (evC qyvb qln (evF qyvb (k+1)) m (sub [1,1,1,1] qln.code) none) (retK qyvb qln))
theorem qxbb (k m:Nat):∀ (n:Nat) (c4 c5:Cell) (i6:Int) (H7:List Entry),qca (some [4,5,6]) (qpwc k m) (qmic k m) n ⟨fT 45 0 [(4,.av (.one (c4))),(5,.av (.one (c5))),(6,.av (.one (Cell.int i6)))],fX 45 0 [],H7⟩=qacb (k+1) m n c4 c5 i6 H7:=by
 intro n
 induction n with
 | zero=>intros;rfl
 | succ n ih=>intros;simp only[qacb,← ih];kernel_rfl
theorem qmjc (k m:Nat)(s1:ByteArray):evC qyvb qln (evF qyvb (k+1)) m qln.code none (retK qyvb qln) (enter qln [.one (Cell.str s1)] [])=fdb (k+1) m s1:=by
 simp only[fdb,← qxbb k m]
 kernel_rfl
theorem qmbb {s1:ByteArray}{r:Res}(k:Nat)(h:fdb (k+1) (k+1) s1=some r):qvr [.one (Cell.str s1)] []=some r:=qas (k:=k+2) (Eq.trans (Eq.trans (by kernel_rfl) (qmjc k (k+1) s1)) h)
def qxnc:List (Nat×Run):=[(qma,qfx),(qctb,qvr)]
def qfkd:Ctx:=ctx qbh qbg qxnc
def qyn:Run:=lim qfkd qfgb
theorem ok_fee:FnOk Tryz.prog OkT qfgb qyn:=qaq (l:=qxnc) qac tyTab_ok qad okT (.cons qxrb (.cons ok_fdb .nil)) qfgb
def fee (k m:Nat)(s1 s2:ByteArray):Option Res:=(callL qvr [.one (Cell.str s2)] []).bind fun r3=>cond (qab qxuc r3.1) ((cC (qaa r3.1 0) 0).bind fun c4=>(cB (qaa r3.1 1) 0).bind fun b5=>(qak qfx [.one (Cell.str s1)] r3.2).bind fun r6=>cond (qab qryb r6) ((cB (qaa r6 0) 0).bind fun b7=>cond b7 (cond (decide ((s2.size:Int)≤20)) (some ([.one (Cell.bool b5)],r3.2)) (some ([.one (Cell.bool false)],r3.2))) (some ([.one (Cell.bool false)],r3.2))) none) none
theorem qlsc (k m:Nat)(s1 s2:ByteArray):evC qfkd qhwb (evF qfkd (k+1)) m qhwb.code none (retK qfkd qhwb) (enter qhwb [.agg [Cell.str s1,Cell.str s2]] [])=fee (k+1) m s1 s2:=by
 kernel_rfl
theorem qrob {s1 s2:ByteArray}{r:Res}(k:Nat)(h:fee (k+1) (k+1) s1 s2=some r):qyn [.agg [Cell.str s1,Cell.str s2]] []=some r:=qas (k:=k+2) (Eq.trans (Eq.trans (by kernel_rfl) (qlsc k (k+1) s1 s2)) h)
def qzac:List (Nat×Run):=[(qfgb,qyn)]
def qczc:Ctx:=ctx qbh qbg qzac
def qxn:Run:=lim qczc qdrb
theorem ok_fef:FnOk Tryz.prog OkT qdrb qxn:=qaq (l:=qzac) qac tyTab_ok qad okT (.cons ok_fee .nil) qdrb
def qxt (k m:Nat):Nat→Cell→Int→Option Res | 0,_,_=>none | n+1,c2,i3=>(lenC c2).bind fun n4=>cond (decide (i3 < (n4:Int))) ((idxA 2 (c2) i3).bind fun c5=>(deref [] (c5)).bind fun p6=>(cS p6.1 p6.2).bind fun s7=>(cS p6.1 (p6.2+1)).bind fun s8=>(qak qyn [.agg [Cell.str s7,Cell.str s8]] []).bind fun r9=>cond (qab qyvc r9) ((cB (qaa r9 0) 0).bind fun b10=>cond (!b10) (some ([.one (Cell.bool false)],[])) (cond (decide (i3 > 0)) ((idxA 2 (c2) (IntKind.i64.wrap (i3 - 1))).bind fun c11=>(fldA c11 0).bind fun c12=>(deref [] (c12)).bind fun p13=>(cS p13.1 p13.2).bind fun s14=>(idxA 2 (c2) i3).bind fun c15=>(fldA c15 0).bind fun c16=>(deref [] (c16)).bind fun p17=>(cS p17.1 p17.2).bind fun s18=>cond (!Op.bytesLess s14.toList s18.toList) (some ([.one (Cell.bool false)],[])) (qxt k m n (c2) (IntKind.i64.wrap (i3+1)))) (qxt k m n (c2) (IntKind.i64.wrap (i3+1))))) none) ((lenC c2).bind fun n19=>some ([.one (Cell.bool (decide ((n19:Int)≤4)))],[]))
def fef (k m:Nat)(c1:Cell):Option Res:=qxt k m m (c1) 0
abbrev qnvc (k m:Nat):TB:=evC qczc qoa (evF qczc (k+1)) m (sub [1,0,1,2,3] qoa.code) none
abbrev qnac (k m:Nat):TK:=qay 0 (seqK (evC qczc qoa (evF qczc (k+1)) m (sub [1,1] qoa.code) none) (retK qczc qoa))
theorem qdqc (k m:Nat):∀ (n:Nat) (c2:Cell) (i3:Int),qca (some [0,3]) (qnvc k m) (qnac k m) n ⟨fT 37 0 [(0,.av (.one (c2))),(3,.av (.one (Cell.int i3)))],fX 37 0 [],[]⟩=qxt (k+1) m n c2 i3:=by
 intro n
 induction n with
 | zero=>intros;rfl
 | succ n ih=>intros;simp only[qxt,← ih];kernel_rfl
theorem qjlc (k m:Nat)(c1:Cell):evC qczc qoa (evF qczc (k+1)) m qoa.code none (retK qczc qoa) (enter qoa [.one (c1)] [])=fef (k+1) m c1:=by
 simp only[fef,← qdqc k m]
 kernel_rfl
theorem qqyb {c1:Cell}{r:Res}(k:Nat)(h:fef (k+1) (k+1) c1=some r):qxn [.one (c1)] []=some r:=qas (k:=k+2) (Eq.trans (Eq.trans (by kernel_rfl) (qjlc k (k+1) c1)) h)
def qdbd:List (Nat×Run):=[(qen,qaj)]
def qcnc:Ctx:=ctx qbh qbg qdbd
def qrs:Run:=lim qcnc qepb
theorem ok_fdd:FnOk Tryz.prog OkT qepb qrs:=qaq (l:=qdbd) qac tyTab_ok qad okT (.cons qlq .nil) qepb
def qawb (k m:Nat):Nat→ByteArray→Int→Int→Option Res | 0,_,_,_=>none | n+1,s3,i4,i5=>cond (decide (i5 < (s3.size:Int))) ((bytS s3 i5).bind fun i6=>(qak qaj [.one (Cell.int (IntKind.i64.wrap i6)),.one (Cell.int 32),.one (Cell.int 126)] []).bind fun r7=>cond (qab qav r7) ((cB (qaa r7 0) 0).bind fun b8=>cond (!b8) (some ([.one (Cell.bool false)],[])) (qawb k m n s3 i4 (IntKind.i64.wrap (i5+1)))) none) (some ([.one (Cell.bool (decide ((s3.size:Int)≤i4)))],[]))
def fdd (k m:Nat)(s1:ByteArray)(i2:Int):Option Res:=qawb k m m s1 i2 0
abbrev qnzc (k m:Nat):TB:=evC qcnc qlc (evF qcnc (k+1)) m (sub [1,0,1,2,3] qlc.code) none
abbrev qngc (k m:Nat):TK:=qay 0 (seqK (evC qcnc qlc (evF qcnc (k+1)) m (sub [1,1] qlc.code) none) (retK qcnc qlc))
theorem qvab (k m:Nat):∀ (n:Nat) (s3:ByteArray) (i4 i5:Int),qca (some [0,1,5]) (qnzc k m) (qngc k m) n ⟨fT 22 0 [(0,.av (.one (Cell.str s3))),(1,.av (.one (Cell.int i4))),(5,.av (.one (Cell.int i5)))],fX 22 0 [],[]⟩=qawb (k+1) m n s3 i4 i5:=by
 intro n
 induction n with
 | zero=>intros;rfl
 | succ n ih=>intros;simp only[qawb,← ih];kernel_rfl
theorem qirc (k m:Nat)(s1:ByteArray)(i2:Int):evC qcnc qlc (evF qcnc (k+1)) m qlc.code none (retK qcnc qlc) (enter qlc [.one (Cell.str s1),.one (Cell.int i2)] [])=fdd (k+1) m s1 i2:=by
 simp only[fdd,← qvab k m]
 kernel_rfl
theorem qnub {s1:ByteArray}{i2:Int}{r:Res}(k:Nat)(h:fdd (k+1) (k+1) s1 i2=some r):qrs [.one (Cell.str s1),.one (Cell.int i2)] []=some r:=qas (k:=k+2) (Eq.trans (Eq.trans (by kernel_rfl) (qirc k (k+1) s1 i2)) h)
def qykc:List (Nat×Run):=[(qma,qfx),(qen,qaj),(qepb,qrs)]
def qhtb:Ctx:=ctx qbh qbg qykc
def qwf:Run:=lim qhtb qgob
theorem ok_fec:FnOk Tryz.prog OkT qgob qwf:=qaq (l:=qykc) qac tyTab_ok qad okT (.cons qxrb (.cons qlq (.cons ok_fdd .nil))) qgob
def qsc (k m:Nat)(b_l0:Cell→Int→Option Res):Nat→Cell→Int→Int→Option Res | 0,_,_,_=>none | n+1,c26,i27,i28=>(idxA 2 (c26) i27).bind fun c29=>(fldA c29 1).bind fun c30=>(deref [] (c30)).bind fun p31=>(cC p31.1 p31.2).bind fun c32=>(lenC c32).bind fun n33=>cond (decide (i28 < (n33:Int))) ((idxA 2 (c26) i27).bind fun c34=>(fldA c34 1).bind fun c35=>(deref [] (c35)).bind fun p36=>(cC p36.1 p36.2).bind fun c37=>(idxA 1 (c37) i28).bind fun c38=>(deref [] (c38)).bind fun p39=>(cS p39.1 p39.2).bind fun s40=>(qak qrs [.one (Cell.str s40),.one (Cell.int 40)] []).bind fun r41=>cond (qab qdkd r41) ((cB (qaa r41 0) 0).bind fun b42=>cond (!b42) (some ([.one (Cell.bool false)],[])) (qsc k m b_l0 n (c26) i27 (IntKind.i64.wrap (i28+1)))) none) (b_l0 (c26) (IntKind.i64.wrap (i27+1)))
def qyp (k m:Nat):Nat→Cell→Int→Option Res | 0,_,_=>none | n+1,c2,i3=>(lenC c2).bind fun n4=>cond (decide (i3 < (n4:Int))) ((idxA 2 (c2) i3).bind fun c5=>(fldA c5 0).bind fun c6=>(deref [] (c6)).bind fun p7=>(cS p7.1 p7.2).bind fun s8=>(qak qfx [.one (Cell.str s8)] []).bind fun r9=>cond (qab qryb r9) ((cB (qaa r9 0) 0).bind fun b10=>cond (!b10) (some ([.one (Cell.bool false)],[])) ((idxA 2 (c2) i3).bind fun c11=>(fldA c11 1).bind fun c12=>(deref [] (c12)).bind fun p13=>(cC p13.1 p13.2).bind fun c14=>(lenC c14).bind fun n15=>(qak qaj [.one (Cell.int (n15:Int)),.one (Cell.int 1),.one (Cell.int 5)] []).bind fun r16=>cond (qab qav r16) ((cB (qaa r16 0) 0).bind fun b17=>cond (!b17) (some ([.one (Cell.bool false)],[])) (cond (decide (i3 > 0)) ((idxA 2 (c2) (IntKind.i64.wrap (i3 - 1))).bind fun c18=>(fldA c18 0).bind fun c19=>(deref [] (c19)).bind fun p20=>(cS p20.1 p20.2).bind fun s21=>(idxA 2 (c2) i3).bind fun c22=>(fldA c22 0).bind fun c23=>(deref [] (c23)).bind fun p24=>(cS p24.1 p24.2).bind fun s25=>cond (!Op.bytesLess s21.toList s25.toList) (some ([.one (Cell.bool false)],[])) (qsc k m (qyp k m n) m (c2) i3 0)) (qsc k m (qyp k m n) m (c2) i3 0))) none)) none) ((lenC c2).bind fun n43=>some ([.one (Cell.bool (decide ((n43:Int)≤4)))],[]))
def fec (k m:Nat)(c1:Cell):Option Res:=qyp k m m (c1) 0
abbrev qbeb (k m:Nat):TB:=evC qhtb qhq (evF qhtb (k+1)) m (sub [1,0,1,2,3] qhq.code) none
abbrev qsd (k m:Nat):TK:=qay 0 (seqK (evC qhtb qhq (evF qhtb (k+1)) m (sub [1,1] qhq.code) none) (retK qhtb qhq))
abbrev qhsc (k m:Nat):TB:=evC qhtb qhq (evF qhtb (k+1)) m (sub [1,0,1,2,3,1,0,2,1,1,2,3] qhq.code) none
abbrev qgfc (k m:Nat)(n_l0:Nat):TK:=qay 2 (qay 1 (seqK (evC qhtb qhq (evF qhtb (k+1)) m (sub [1,0,1,2,3,1,1] qhq.code) none) (loopE (fun s=>qca (some [0,3]) (qbeb k m) (qsd k m) n_l0 (qkzb (some [0,3]) s)) (qsd k m))))
theorem qzkb (k m:Nat)(b_l0:Cell→Int→Option Res)(n_l0:Nat)(h_l0:∀ (c2:Cell) (i3:Int),qca (some [0,3]) (qbeb k m) (qsd k m) n_l0 ⟨fT 69 0 [(0,.av (.one (c2))),(3,.av (.one (Cell.int i3)))],fX 69 0 [],[]⟩=b_l0 c2 i3):∀ (n:Nat) (c26:Cell) (i27 i28:Int),qca (some [0,3,4]) (qhsc k m) (qgfc k m n_l0) n ⟨fT 69 0 [(0,.av (.one (c26))),(3,.av (.one (Cell.int i27))),(4,.av (.one (Cell.int i28)))],fX 69 0 [],[]⟩=qsc (k+1) m b_l0 n c26 i27 i28:=by
 intro n
 induction n with
 | zero=>intros;rfl
 | succ n ih=>intros;simp only[qsc,← h_l0,← ih];kernel_rfl
theorem qtyb (k m:Nat):∀ (n:Nat) (c2:Cell) (i3:Int),qca (some [0,3]) (qbeb k m) (qsd k m) n ⟨fT 69 0 [(0,.av (.one (c2))),(3,.av (.one (Cell.int i3)))],fX 69 0 [],[]⟩=qyp (k+1) m n c2 i3:=by
 intro n
 induction n with
 | zero=>intros;rfl
 | succ n ih=>intros;simp only[qyp,← qzkb k m _ _ (ih)];kernel_rfl
theorem qflc (k m:Nat)(c1:Cell):evC qhtb qhq (evF qhtb (k+1)) m qhq.code none (retK qhtb qhq) (enter qhq [.one (c1)] [])=fec (k+1) m c1:=by
 simp only[fec,← qtyb k m]
 kernel_rfl
theorem qmjb {c1:Cell}{r:Res}(k:Nat)(h:fec (k+1) (k+1) c1=some r):qwf [.one (c1)] []=some r:=qas (k:=k+2) (Eq.trans (Eq.trans (by kernel_rfl) (qflc k (k+1) c1)) h)
def qcid:List (Nat×Run):=[(qma,qfx),(qfhb,qza),(qfxb,qvm),(qdrb,qxn),(qgob,qwf)]
def qgid:Ctx:=ctx qbh qbg qcid
def qrf:Run:=lim qgid qghb
theorem ok_fcz:FnOk Tryz.prog OkT qghb qrf:=qaq (l:=qcid) qac tyTab_ok qad okT (.cons qxrb (.cons ok_fed (.cons ok_feb (.cons ok_fef (.cons ok_fec .nil))))) qghb
def fcz (k m:Nat)(s1:ByteArray)(c2 c3 c4:Cell):Option Res:=(qak qfx [.one (Cell.str s1)] []).bind fun r5=>cond (qab qryb r5) ((cB (qaa r5 0) 0).bind fun b6=>cond b6 ((lenC c2).bind fun n7=>cond (decide ((n7:Int)≤4)) ((qak qza [.one (c2)] []).bind fun r8=>cond (qab qavd r8) ((cB (qaa r8 0) 0).bind fun b9=>cond b9 ((qak qvm [.one (c2)] []).bind fun r10=>cond (qab qysc r10) ((cB (qaa r10 0) 0).bind fun b11=>cond b11 ((qak qxn [.one (c3)] []).bind fun r12=>cond (qab qdod r12) ((cB (qaa r12 0) 0).bind fun b13=>cond b13 ((qak qwf [.one (c4)] []).bind fun r14=>cond (qab qvgc r14) ((cB (qaa r14 0) 0).bind fun b15=>some ([.one (Cell.bool b15)],[])) none) (some ([.one (Cell.bool false)],[]))) none) (some ([.one (Cell.bool false)],[]))) none) (some ([.one (Cell.bool false)],[]))) none) (some ([.one (Cell.bool false)],[]))) (some ([.one (Cell.bool false)],[]))) none
theorem qmuc (k m:Nat)(s1:ByteArray)(c2 c3 c4:Cell):evC qgid qjhb (evF qgid (k+1)) m qjhb.code none (retK qgid qjhb) (enter qjhb [.agg [Cell.str s1,c2,c3,c4]] [])=fcz (k+1) m s1 c2 c3 c4:=by
 kernel_rfl
theorem qrfb {s1:ByteArray}{c2 c3 c4:Cell}{r:Res}(k:Nat)(h:fcz (k+1) (k+1) s1 c2 c3 c4=some r):qrf [.agg [Cell.str s1,c2,c3,c4]] []=some r:=qas (k:=k+2) (Eq.trans (Eq.trans (by kernel_rfl) (qmuc k (k+1) s1 c2 c3 c4)) h)
end
end Go.Ev
