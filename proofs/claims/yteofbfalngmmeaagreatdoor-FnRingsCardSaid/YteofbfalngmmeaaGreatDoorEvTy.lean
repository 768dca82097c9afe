/- The types of the program that the functions here use, and that they are as the table says. Conditions: none. -/
import Derived.Test.YteofbfalngmmeaaGreatDoorEvY
import Derived.Test.YteofbfalngmmeaaGreatDoorProg
set_option linter.unusedVariables false
set_option linter.unusedSimpArgs false
namespace Go.Ev
open Go Go.Proofs
def ty2:Ty:=⟨.int .i64,1,8,[.int .i64],[.sc (.int .i64 0)]⟩
theorem ty2_ok:TyOk Tryz.prog 2 ty2:=qau (z:=.int .i64 0) ((by kernel_rfl:Tryz.prog.underlying 2=some (.int .i64))) (by kernel_rfl) (.cons (.sc _ rfl) (.nil)) rfl rfl (by decide) (fun _=>rfl)
def ty3:Ty:=⟨.int .i64,1,8,[.int .i64],[.sc (.int .i64 0)]⟩
theorem ty3_ok:TyOk Tryz.prog 3 ty3:=qau (z:=.int .i64 0) ((by kernel_rfl:Tryz.prog.underlying 3=some (.int .i64))) (by kernel_rfl) (.cons (.sc _ rfl) (.nil)) rfl rfl (by decide) (fun _=>rfl)
def ty4:Ty:=⟨.bool,1,1,[.bool],[.sc (.bool false)]⟩
theorem ty4_ok:TyOk Tryz.prog 4 ty4:=qau (z:=.bool false) ((by kernel_rfl:Tryz.prog.underlying 4=some .bool)) (by kernel_rfl) (.cons (.sc _ rfl) (.nil)) rfl rfl (by decide) (fun _=>rfl)
def ty5:Ty:=⟨.int .u8,1,1,[.int .u8],[.sc (.int .u8 0)]⟩
theorem ty5_ok:TyOk Tryz.prog 5 ty5:=qau (z:=.int .u8 0) ((by kernel_rfl:Tryz.prog.underlying 5=some (.int .u8))) (by kernel_rfl) (.cons (.sc _ rfl) (.nil)) rfl rfl (by decide) (fun _=>rfl)
def ty6:Ty:=⟨.int .u8,1,1,[.int .u8],[.sc (.int .u8 0)]⟩
theorem ty6_ok:TyOk Tryz.prog 6 ty6:=qau (z:=.int .u8 0) ((by kernel_rfl:Tryz.prog.underlying 6=some (.int .u8))) (by kernel_rfl) (.cons (.sc _ rfl) (.nil)) rfl rfl (by decide) (fun _=>rfl)
def ty9:Ty:=⟨.str,1,16,[.str],[.sc (.string ⟨#[]⟩)]⟩
theorem ty9_ok:TyOk Tryz.prog 9 ty9:=qau (z:=.string ⟨#[]⟩) ((by kernel_rfl:Tryz.prog.underlying 9=some .string)) (by kernel_rfl) (.cons (.sc _ rfl) (.nil)) rfl rfl (by decide) (fun _=>rfl)
def ty10:Ty:=⟨.str,1,16,[.str],[.sc (.string ⟨#[]⟩)]⟩
theorem qsjc:TyOk Tryz.prog 10 ty10:=qau (z:=.string ⟨#[]⟩) ((by kernel_rfl:Tryz.prog.underlying 10=some .string)) (by kernel_rfl) (.cons (.sc _ rfl) (.nil)) rfl rfl (by decide) (fun _=>rfl)
def ty11:Ty:=⟨.str,1,16,[.str],[.sc (.string ⟨#[]⟩)]⟩
theorem qvac:TyOk Tryz.prog 11 ty11:=qau (z:=.string ⟨#[]⟩) ((by kernel_rfl:Tryz.prog.underlying 11=some .string)) (by kernel_rfl) (.cons (.sc _ rfl) (.nil)) rfl rfl (by decide) (fun _=>rfl)
def ty12:Ty:=⟨.int .u64,1,8,[.int .u64],[.sc (.int .u64 0)]⟩
theorem qbud:TyOk Tryz.prog 12 ty12:=qau (z:=.int .u64 0) ((by kernel_rfl:Tryz.prog.underlying 12=some (.int .u64))) (by kernel_rfl) (.cons (.sc _ rfl) (.nil)) rfl rfl (by decide) (fun _=>rfl)
def ty15:Ty:=⟨.ptr 219,1,8,[.ptr 219],[.sc (.pointer none)]⟩
theorem qasd:TyOk Tryz.prog 15 ty15:=qau (z:=.pointer none) ((by kernel_rfl:Tryz.prog.underlying 15=some (.pointer 219))) (by kernel_rfl) (.cons (.sc _ rfl) (.nil)) rfl rfl (by decide) (fun _=>rfl)
def ty16:Ty:=⟨.ptr 222,1,8,[.ptr 222],[.sc (.pointer none)]⟩
theorem qald:TyOk Tryz.prog 16 ty16:=qau (z:=.pointer none) ((by kernel_rfl:Tryz.prog.underlying 16=some (.pointer 222))) (by kernel_rfl) (.cons (.sc _ rfl) (.nil)) rfl rfl (by decide) (fun _=>rfl)
def ty17:Ty:=⟨.ptr 230,1,8,[.ptr 230],[.sc (.pointer none)]⟩
theorem qvzc:TyOk Tryz.prog 17 ty17:=qau (z:=.pointer none) ((by kernel_rfl:Tryz.prog.underlying 17=some (.pointer 230))) (by kernel_rfl) (.cons (.sc _ rfl) (.nil)) rfl rfl (by decide) (fun _=>rfl)
def ty21:Ty:=⟨.int .i32,1,4,[.int .i32],[.sc (.int .i32 0)]⟩
theorem qbmd:TyOk Tryz.prog 21 ty21:=qau (z:=.int .i32 0) ((by kernel_rfl:Tryz.prog.underlying 21=some (.int .i32))) (by kernel_rfl) (.cons (.sc _ rfl) (.nil)) rfl rfl (by decide) (fun _=>rfl)
def ty22:Ty:=⟨.slice 5,1,24,[.slice 5],[.lst true 1 []]⟩
theorem qdcd:TyOk Tryz.prog 22 ty22:=qau (z:=.slice none 0 0) ((by kernel_rfl:Tryz.prog.underlying 22=some (.slice 5))) (by kernel_rfl) (.cons (.nil _) (.nil)) rfl rfl (by decide) (fun _=>rfl)
def ty24:Ty:=⟨.slice 32,1,24,[.slice 32],[.lst true 4 []]⟩
theorem qzbc:TyOk Tryz.prog 24 ty24:=qau (z:=.slice none 0 0) ((by kernel_rfl:Tryz.prog.underlying 24=some (.slice 32))) (by kernel_rfl) (.cons (.nil _) (.nil)) rfl rfl (by decide) (fun _=>rfl)
def ty28:Ty:=⟨.slice 9,1,24,[.slice 9],[.lst true 1 []]⟩
theorem qwnc:TyOk Tryz.prog 28 ty28:=qau (z:=.slice none 0 0) ((by kernel_rfl:Tryz.prog.underlying 28=some (.slice 9))) (by kernel_rfl) (.cons (.nil _) (.nil)) rfl rfl (by decide) (fun _=>rfl)
def ty29:Ty:=⟨.slice 60,1,24,[.slice 60],[.lst true 2 []]⟩
theorem qbkd:TyOk Tryz.prog 29 ty29:=qau (z:=.slice none 0 0) ((by kernel_rfl:Tryz.prog.underlying 29=some (.slice 60))) (by kernel_rfl) (.cons (.nil _) (.nil)) rfl rfl (by decide) (fun _=>rfl)
def ty30:Ty:=⟨.slice 53,1,24,[.slice 53],[.lst true 2 []]⟩
theorem qyac:TyOk Tryz.prog 30 ty30:=qau (z:=.slice none 0 0) ((by kernel_rfl:Tryz.prog.underlying 30=some (.slice 53))) (by kernel_rfl) (.cons (.nil _) (.nil)) rfl rfl (by decide) (fun _=>rfl)
def ty31:Ty:=⟨.struct [(0,9),(1,28),(2,29),(3,30)],4,88,[.str,.slice 9,.slice 60,.slice 53],[.sc (.string ⟨#[]⟩),.lst true 1 [],.lst true 2 [],.lst true 2 []]⟩
theorem qwoc:TyOk Tryz.prog 31 ty31:=qau (z:=.agg #[(.string ⟨#[]⟩),(.slice none 0 0),(.slice none 0 0),(.slice none 0 0)]) (qbr (by kernel_rfl) (by kernel_rfl) (by kernel_rfl)) (by kernel_rfl) (.cons (.sc _ rfl) (.cons (.nil _) (.cons (.nil _) (.cons (.nil _) (.nil))))) rfl rfl (by decide) (fun h=>by simp[Ty.isAgg,ty31] at h)
def ty32:Ty:=⟨.struct [(0,9),(1,28),(2,29),(3,30)],4,88,[.str,.slice 9,.slice 60,.slice 53],[.sc (.string ⟨#[]⟩),.lst true 1 [],.lst true 2 [],.lst true 2 []]⟩
theorem qccd:TyOk Tryz.prog 32 ty32:=qau (z:=.agg #[(.string ⟨#[]⟩),(.slice none 0 0),(.slice none 0 0),(.slice none 0 0)]) (qbr (by kernel_rfl) (by kernel_rfl) (by kernel_rfl)) (by kernel_rfl) (.cons (.sc _ rfl) (.cons (.nil _) (.cons (.nil _) (.cons (.nil _) (.nil))))) rfl rfl (by decide) (fun h=>by simp[Ty.isAgg,ty32] at h)
def ty46:Ty:=⟨.ptr 77,1,8,[.ptr 77],[.sc (.pointer none)]⟩
theorem qvyc:TyOk Tryz.prog 46 ty46:=qau (z:=.pointer none) ((by kernel_rfl:Tryz.prog.underlying 46=some (.pointer 77))) (by kernel_rfl) (.cons (.sc _ rfl) (.nil)) rfl rfl (by decide) (fun _=>rfl)
def ty52:Ty:=⟨.struct [(0,9),(1,28)],2,40,[.str,.slice 9],[.sc (.string ⟨#[]⟩),.lst true 1 []]⟩
theorem qbhd:TyOk Tryz.prog 52 ty52:=qau (z:=.agg #[(.string ⟨#[]⟩),(.slice none 0 0)]) (qbr (by kernel_rfl) (by kernel_rfl) (by kernel_rfl)) (by kernel_rfl) (.cons (.sc _ rfl) (.cons (.nil _) (.nil))) rfl rfl (by decide) (fun h=>by simp[Ty.isAgg,ty52] at h)
def ty53:Ty:=⟨.struct [(0,9),(1,28)],2,40,[.str,.slice 9],[.sc (.string ⟨#[]⟩),.lst true 1 []]⟩
theorem quhc:TyOk Tryz.prog 53 ty53:=qau (z:=.agg #[(.string ⟨#[]⟩),(.slice none 0 0)]) (qbr (by kernel_rfl) (by kernel_rfl) (by kernel_rfl)) (by kernel_rfl) (.cons (.sc _ rfl) (.cons (.nil _) (.nil))) rfl rfl (by decide) (fun h=>by simp[Ty.isAgg,ty53] at h)
def ty59:Ty:=⟨.struct [(0,9),(1,9)],2,32,[.str,.str],[.sc (.string ⟨#[]⟩),.sc (.string ⟨#[]⟩)]⟩
theorem qsrc:TyOk Tryz.prog 59 ty59:=qau (z:=.agg #[(.string ⟨#[]⟩),(.string ⟨#[]⟩)]) (qbr (by kernel_rfl) (by kernel_rfl) (by kernel_rfl)) (by kernel_rfl) (.cons (.sc _ rfl) (.cons (.sc _ rfl) (.nil))) rfl rfl (by decide) (fun h=>by simp[Ty.isAgg,ty59] at h)
def ty60:Ty:=⟨.struct [(0,9),(1,9)],2,32,[.str,.str],[.sc (.string ⟨#[]⟩),.sc (.string ⟨#[]⟩)]⟩
theorem qvqc:TyOk Tryz.prog 60 ty60:=qau (z:=.agg #[(.string ⟨#[]⟩),(.string ⟨#[]⟩)]) (qbr (by kernel_rfl) (by kernel_rfl) (by kernel_rfl)) (by kernel_rfl) (.cons (.sc _ rfl) (.cons (.sc _ rfl) (.nil))) rfl rfl (by decide) (fun h=>by simp[Ty.isAgg,ty60] at h)
def ty61:Ty:=⟨.ptr 90,1,8,[.ptr 90],[.sc (.pointer none)]⟩
theorem qzvc:TyOk Tryz.prog 61 ty61:=qau (z:=.pointer none) ((by kernel_rfl:Tryz.prog.underlying 61=some (.pointer 90))) (by kernel_rfl) (.cons (.sc _ rfl) (.nil)) rfl rfl (by decide) (fun _=>rfl)
def ty66:Ty:=⟨.slice 28,1,24,[.slice 28],[.lst true 1 []]⟩
theorem qwrc:TyOk Tryz.prog 66 ty66:=qau (z:=.slice none 0 0) ((by kernel_rfl:Tryz.prog.underlying 66=some (.slice 28))) (by kernel_rfl) (.cons (.nil _) (.nil)) rfl rfl (by decide) (fun _=>rfl)
def ty67:Ty:=⟨.struct [(0,28),(1,66)],2,48,[.slice 9,.slice 28],[.lst true 1 [],.lst true 1 []]⟩
theorem qafd:TyOk Tryz.prog 67 ty67:=qau (z:=.agg #[(.slice none 0 0),(.slice none 0 0)]) (qbr (by kernel_rfl) (by kernel_rfl) (by kernel_rfl)) (by kernel_rfl) (.cons (.nil _) (.cons (.nil _) (.nil))) rfl rfl (by decide) (fun h=>by simp[Ty.isAgg,ty67] at h)
def ty68:Ty:=⟨.struct [(0,28),(1,66)],2,48,[.slice 9,.slice 28],[.lst true 1 [],.lst true 1 []]⟩
theorem qttc:TyOk Tryz.prog 68 ty68:=qau (z:=.agg #[(.slice none 0 0),(.slice none 0 0)]) (qbr (by kernel_rfl) (by kernel_rfl) (by kernel_rfl)) (by kernel_rfl) (.cons (.nil _) (.cons (.nil _) (.nil))) rfl rfl (by decide) (fun h=>by simp[Ty.isAgg,ty68] at h)
def ty76:Ty:=⟨.struct [(0,22),(1,3),(2,3)],3,40,[.slice 5,.int .i64,.int .i64],[.lst true 1 [],.sc (.int .i64 0),.sc (.int .i64 0)]⟩
theorem qcad:TyOk Tryz.prog 76 ty76:=qau (z:=.agg #[(.slice none 0 0),(.int .i64 0),(.int .i64 0)]) (qbr (by kernel_rfl) (by kernel_rfl) (by kernel_rfl)) (by kernel_rfl) (.cons (.nil _) (.cons (.sc _ rfl) (.cons (.sc _ rfl) (.nil)))) rfl rfl (by decide) (fun h=>by simp[Ty.isAgg,ty76] at h)
def ty77:Ty:=⟨.struct [(0,22),(1,3),(2,3)],3,40,[.slice 5,.int .i64,.int .i64],[.lst true 1 [],.sc (.int .i64 0),.sc (.int .i64 0)]⟩
theorem qtyc:TyOk Tryz.prog 77 ty77:=qau (z:=.agg #[(.slice none 0 0),(.int .i64 0),(.int .i64 0)]) (qbr (by kernel_rfl) (by kernel_rfl) (by kernel_rfl)) (by kernel_rfl) (.cons (.nil _) (.cons (.sc _ rfl) (.cons (.sc _ rfl) (.nil)))) rfl rfl (by decide) (fun h=>by simp[Ty.isAgg,ty77] at h)
def ty89:Ty:=⟨.struct [(0,28),(1,66)],2,48,[.slice 9,.slice 28],[.lst true 1 [],.lst true 1 []]⟩
theorem qaed:TyOk Tryz.prog 89 ty89:=qau (z:=.agg #[(.slice none 0 0),(.slice none 0 0)]) (qbr (by kernel_rfl) (by kernel_rfl) (by kernel_rfl)) (by kernel_rfl) (.cons (.nil _) (.cons (.nil _) (.nil))) rfl rfl (by decide) (fun h=>by simp[Ty.isAgg,ty89] at h)
def ty90:Ty:=⟨.struct [(0,28),(1,66)],2,48,[.slice 9,.slice 28],[.lst true 1 [],.lst true 1 []]⟩
theorem qwec:TyOk Tryz.prog 90 ty90:=qau (z:=.agg #[(.slice none 0 0),(.slice none 0 0)]) (qbr (by kernel_rfl) (by kernel_rfl) (by kernel_rfl)) (by kernel_rfl) (.cons (.nil _) (.cons (.nil _) (.nil))) rfl rfl (by decide) (fun h=>by simp[Ty.isAgg,ty90] at h)
def ty101:Ty:=⟨.slice 111,1,24,[.slice 111],[.lst true 1 []]⟩
theorem qivc:TyOk Tryz.prog 101 ty101:=qau (z:=.slice none 0 0) ((by kernel_rfl:Tryz.prog.underlying 101=some (.slice 111))) (by kernel_rfl) (.cons (.nil _) (.nil)) rfl rfl (by decide) (fun _=>rfl)
def ty104:Ty:=⟨.map 9 3,1,8,[.map 9 3],[.sc (.map none)]⟩
theorem qjtc:TyOk Tryz.prog 104 ty104:=qau (z:=.map none) ((by kernel_rfl:Tryz.prog.underlying 104=some (.map 9 3))) (by kernel_rfl) (.cons (.sc _ rfl) (.nil)) rfl rfl (by decide) (fun _=>rfl)
def ty108:Ty:=⟨.int .u64,1,8,[.int .u64],[.sc (.int .u64 0)]⟩
theorem qhtc:TyOk Tryz.prog 108 ty108:=qau (z:=.int .u64 0) ((by kernel_rfl:Tryz.prog.underlying 108=some (.int .u64))) (by kernel_rfl) (.cons (.sc _ rfl) (.nil)) rfl rfl (by decide) (fun _=>rfl)
def ty111:Ty:=⟨.slice 138,1,24,[.slice 138],[.lst true 5 []]⟩
theorem qmpc:TyOk Tryz.prog 111 ty111:=qau (z:=.slice none 0 0) ((by kernel_rfl:Tryz.prog.underlying 111=some (.slice 138))) (by kernel_rfl) (.cons (.nil _) (.nil)) rfl rfl (by decide) (fun _=>rfl)
def ty119:Ty:=⟨.int .i64,1,8,[.int .i64],[.sc (.int .i64 0)]⟩
theorem qfsc:TyOk Tryz.prog 119 ty119:=qau (z:=.int .i64 0) ((by kernel_rfl:Tryz.prog.underlying 119=some (.int .i64))) (by kernel_rfl) (.cons (.sc _ rfl) (.nil)) rfl rfl (by decide) (fun _=>rfl)
def ty128:Ty:=⟨.int .u32,1,4,[.int .u32],[.sc (.int .u32 0)]⟩
theorem qmoc:TyOk Tryz.prog 128 ty128:=qau (z:=.int .u32 0) ((by kernel_rfl:Tryz.prog.underlying 128=some (.int .u32))) (by kernel_rfl) (.cons (.sc _ rfl) (.nil)) rfl rfl (by decide) (fun _=>rfl)
def ty130:Ty:=⟨.int .u64,1,8,[.int .u64],[.sc (.int .u64 0)]⟩
theorem qlsc:TyOk Tryz.prog 130 ty130:=qau (z:=.int .u64 0) ((by kernel_rfl:Tryz.prog.underlying 130=some (.int .u64))) (by kernel_rfl) (.cons (.sc _ rfl) (.nil)) rfl rfl (by decide) (fun _=>rfl)
def ty133:Ty:=⟨.struct [(0,3),(1,3),(2,3),(3,28)],4,48,[.int .i64,.int .i64,.int .i64,.slice 9],[.sc (.int .i64 0),.sc (.int .i64 0),.sc (.int .i64 0),.lst true 1 []]⟩
theorem qhlc:TyOk Tryz.prog 133 ty133:=qau (z:=.agg #[(.int .i64 0),(.int .i64 0),(.int .i64 0),(.slice none 0 0)]) (qbr (by kernel_rfl) (by kernel_rfl) (by kernel_rfl)) (by kernel_rfl) (.cons (.sc _ rfl) (.cons (.sc _ rfl) (.cons (.sc _ rfl) (.cons (.nil _) (.nil))))) rfl rfl (by decide) (fun h=>by simp[Ty.isAgg,ty133] at h)
def ty134:Ty:=⟨.struct [(0,3),(1,3),(2,3),(3,28)],4,48,[.int .i64,.int .i64,.int .i64,.slice 9],[.sc (.int .i64 0),.sc (.int .i64 0),.sc (.int .i64 0),.lst true 1 []]⟩
theorem qofc:TyOk Tryz.prog 134 ty134:=qau (z:=.agg #[(.int .i64 0),(.int .i64 0),(.int .i64 0),(.slice none 0 0)]) (qbr (by kernel_rfl) (by kernel_rfl) (by kernel_rfl)) (by kernel_rfl) (.cons (.sc _ rfl) (.cons (.sc _ rfl) (.cons (.sc _ rfl) (.cons (.nil _) (.nil))))) rfl rfl (by decide) (fun h=>by simp[Ty.isAgg,ty134] at h)
def ty137:Ty:=⟨.struct [(0,3),(1,134)],5,56,[.int .i64,.int .i64,.int .i64,.int .i64,.slice 9],[.sc (.int .i64 0),.sc (.int .i64 0),.sc (.int .i64 0),.sc (.int .i64 0),.lst true 1 []]⟩
theorem qntc:TyOk Tryz.prog 137 ty137:=qau (z:=.agg #[(.int .i64 0),(.int .i64 0),(.int .i64 0),(.int .i64 0),(.slice none 0 0)]) (qbr (by kernel_rfl) (by kernel_rfl) (by kernel_rfl)) (by kernel_rfl) (.cons (.sc _ rfl) (.cons (.sc _ rfl) (.cons (.sc _ rfl) (.cons (.sc _ rfl) (.cons (.nil _) (.nil)))))) rfl rfl (by decide) (fun h=>by simp[Ty.isAgg,ty137] at h)
def ty138:Ty:=⟨.struct [(0,3),(1,134)],5,56,[.int .i64,.int .i64,.int .i64,.int .i64,.slice 9],[.sc (.int .i64 0),.sc (.int .i64 0),.sc (.int .i64 0),.sc (.int .i64 0),.lst true 1 []]⟩
theorem qhmc:TyOk Tryz.prog 138 ty138:=qau (z:=.agg #[(.int .i64 0),(.int .i64 0),(.int .i64 0),(.int .i64 0),(.slice none 0 0)]) (qbr (by kernel_rfl) (by kernel_rfl) (by kernel_rfl)) (by kernel_rfl) (.cons (.sc _ rfl) (.cons (.sc _ rfl) (.cons (.sc _ rfl) (.cons (.sc _ rfl) (.cons (.nil _) (.nil)))))) rfl rfl (by decide) (fun h=>by simp[Ty.isAgg,ty138] at h)
def ty140:Ty:=⟨.int .u64,1,8,[.int .u64],[.sc (.int .u64 0)]⟩
theorem qidc:TyOk Tryz.prog 140 ty140:=qau (z:=.int .u64 0) ((by kernel_rfl:Tryz.prog.underlying 140=some (.int .u64))) (by kernel_rfl) (.cons (.sc _ rfl) (.nil)) rfl rfl (by decide) (fun _=>rfl)
def ty144:Ty:=⟨.ptr 3,1,8,[.ptr 3],[.sc (.pointer none)]⟩
theorem qluc:TyOk Tryz.prog 144 ty144:=qau (z:=.pointer none) ((by kernel_rfl:Tryz.prog.underlying 144=some (.pointer 3))) (by kernel_rfl) (.cons (.sc _ rfl) (.nil)) rfl rfl (by decide) (fun _=>rfl)
def ty154:Ty:=⟨.ptr 150,1,8,[.ptr 150],[.sc (.pointer none)]⟩
theorem qnoc:TyOk Tryz.prog 154 ty154:=qau (z:=.pointer none) ((by kernel_rfl:Tryz.prog.underlying 154=some (.pointer 150))) (by kernel_rfl) (.cons (.sc _ rfl) (.nil)) rfl rfl (by decide) (fun _=>rfl)
def ty157:Ty:=⟨.array 3 144,3,24,[.ptr 3,.ptr 3,.ptr 3],[.sc (.pointer none),.sc (.pointer none),.sc (.pointer none)]⟩
theorem qrlc:TyOk Tryz.prog 157 ty157:=qau (z:=.agg #[(.pointer none),(.pointer none),(.pointer none)]) ((by kernel_rfl:Tryz.prog.underlying 157=some (.array 3 144))) (by kernel_rfl) (.cons (.sc _ rfl) (.cons (.sc _ rfl) (.cons (.sc _ rfl) (.nil)))) rfl rfl (by decide) (fun h=>by simp[Ty.isAgg,ty157] at h)
def ty160:Ty:=⟨.array 8 9,8,128,[.str,.str,.str,.str,.str,.str,.str,.str],[.sc (.string ⟨#[]⟩),.sc (.string ⟨#[]⟩),.sc (.string ⟨#[]⟩),.sc (.string ⟨#[]⟩),.sc (.string ⟨#[]⟩),.sc (.string ⟨#[]⟩),.sc (.string ⟨#[]⟩),.sc (.string ⟨#[]⟩)]⟩
theorem qfrc:TyOk Tryz.prog 160 ty160:=qau (z:=.agg #[(.string ⟨#[]⟩),(.string ⟨#[]⟩),(.string ⟨#[]⟩),(.string ⟨#[]⟩),(.string ⟨#[]⟩),(.string ⟨#[]⟩),(.string ⟨#[]⟩),(.string ⟨#[]⟩)]) ((by kernel_rfl:Tryz.prog.underlying 160=some (.array 8 9))) (by kernel_rfl) (.cons (.sc _ rfl) (.cons (.sc _ rfl) (.cons (.sc _ rfl) (.cons (.sc _ rfl) (.cons (.sc _ rfl) (.cons (.sc _ rfl) (.cons (.sc _ rfl) (.cons (.sc _ rfl) (.nil))))))))) rfl rfl (by decide) (fun h=>by simp[Ty.isAgg,ty160] at h)
def ty166:Ty:=⟨.struct [(0,134),(4,3),(5,4)],6,64,[.int .i64,.int .i64,.int .i64,.slice 9,.int .i64,.bool],[.sc (.int .i64 0),.sc (.int .i64 0),.sc (.int .i64 0),.lst true 1 [],.sc (.int .i64 0),.sc (.bool false)]⟩
theorem qjyc:TyOk Tryz.prog 166 ty166:=qau (z:=.agg #[(.int .i64 0),(.int .i64 0),(.int .i64 0),(.slice none 0 0),(.int .i64 0),(.bool false)]) (qbr (by kernel_rfl) (by kernel_rfl) (by kernel_rfl)) (by kernel_rfl) (.cons (.sc _ rfl) (.cons (.sc _ rfl) (.cons (.sc _ rfl) (.cons (.nil _) (.cons (.sc _ rfl) (.cons (.sc _ rfl) (.nil))))))) rfl rfl (by decide) (fun h=>by simp[Ty.isAgg,ty166] at h)
def ty170:Ty:=⟨.ptr 140,1,8,[.ptr 140],[.sc (.pointer none)]⟩
theorem qmnc:TyOk Tryz.prog 170 ty170:=qau (z:=.pointer none) ((by kernel_rfl:Tryz.prog.underlying 170=some (.pointer 140))) (by kernel_rfl) (.cons (.sc _ rfl) (.nil)) rfl rfl (by decide) (fun _=>rfl)
def ty179:Ty:=⟨.array 2 3,2,16,[.int .i64,.int .i64],[.sc (.int .i64 0),.sc (.int .i64 0)]⟩
theorem qpkc:TyOk Tryz.prog 179 ty179:=qau (z:=.agg #[(.int .i64 0),(.int .i64 0)]) ((by kernel_rfl:Tryz.prog.underlying 179=some (.array 2 3))) (by kernel_rfl) (.cons (.sc _ rfl) (.cons (.sc _ rfl) (.nil))) rfl rfl (by decide) (fun h=>by simp[Ty.isAgg,ty179] at h)
def ty187:Ty:=⟨.ptr 189,1,8,[.ptr 189],[.sc (.pointer none)]⟩
theorem qrac:TyOk Tryz.prog 187 ty187:=qau (z:=.pointer none) ((by kernel_rfl:Tryz.prog.underlying 187=some (.pointer 189))) (by kernel_rfl) (.cons (.sc _ rfl) (.nil)) rfl rfl (by decide) (fun _=>rfl)
def ty188:Ty:=⟨.struct [(0,187),(1,22)],2,32,[.ptr 189,.slice 5],[.sc (.pointer none),.lst true 1 []]⟩
theorem qkpc:TyOk Tryz.prog 188 ty188:=qau (z:=.agg #[(.pointer none),(.slice none 0 0)]) (qbr (by kernel_rfl) (by kernel_rfl) (by kernel_rfl)) (by kernel_rfl) (.cons (.sc _ rfl) (.cons (.nil _) (.nil))) rfl rfl (by decide) (fun h=>by simp[Ty.isAgg,ty188] at h)
def ty189:Ty:=⟨.bld 5,2,32,[.ptr 189,.slice 5],[.sc (.pointer none),.lst true 1 []]⟩
theorem qowc:TyOk Tryz.prog 189 ty189:=qau (z:=.agg #[(.pointer none),(.slice none 0 0)]) (kd_bld (n:=2) (m:=32) (by kernel_rfl) (by kernel_rfl)) (by kernel_rfl) (.cons (.sc _ rfl) (.cons (.nil _) (.nil))) rfl rfl (by decide) (fun h=>by simp[Ty.isAgg,ty189] at h)
def ty197:Ty:=⟨.struct [(0,5),(1,5)],2,2,[.int .u8,.int .u8],[.sc (.int .u8 0),.sc (.int .u8 0)]⟩
theorem qjjc:TyOk Tryz.prog 197 ty197:=qau (z:=.agg #[(.int .u8 0),(.int .u8 0)]) (qbr (by kernel_rfl) (by kernel_rfl) (by kernel_rfl)) (by kernel_rfl) (.cons (.sc _ rfl) (.cons (.sc _ rfl) (.nil))) rfl rfl (by decide) (fun h=>by simp[Ty.isAgg,ty197] at h)
def ty198:Ty:=⟨.struct [(0,5),(1,5)],2,2,[.int .u8,.int .u8],[.sc (.int .u8 0),.sc (.int .u8 0)]⟩
theorem qkec:TyOk Tryz.prog 198 ty198:=qau (z:=.agg #[(.int .u8 0),(.int .u8 0)]) (qbr (by kernel_rfl) (by kernel_rfl) (by kernel_rfl)) (by kernel_rfl) (.cons (.sc _ rfl) (.cons (.sc _ rfl) (.nil))) rfl rfl (by decide) (fun h=>by simp[Ty.isAgg,ty198] at h)
def ty199:Ty:=⟨.array 16 198,32,32,[.int .u8,.int .u8,.int .u8,.int .u8,.int .u8,.int .u8,.int .u8,.int .u8,.int .u8,.int .u8,.int .u8,.int .u8,.int .u8,.int .u8,.int .u8,.int .u8,.int .u8,.int .u8,.int .u8,.int .u8,.int .u8,.int .u8,.int .u8,.int .u8,.int .u8,.int .u8,.int .u8,.int .u8,.int .u8,.int .u8,.int .u8,.int .u8],[.sc (.int .u8 0),.sc (.int .u8 0),.sc (.int .u8 0),.sc (.int .u8 0),.sc (.int .u8 0),.sc (.int .u8 0),.sc (.int .u8 0),.sc (.int .u8 0),.sc (.int .u8 0),.sc (.int .u8 0),.sc (.int .u8 0),.sc (.int .u8 0),.sc (.int .u8 0),.sc (.int .u8 0),.sc (.int .u8 0),.sc (.int .u8 0),.sc (.int .u8 0),.sc (.int .u8 0),.sc (.int .u8 0),.sc (.int .u8 0),.sc (.int .u8 0),.sc (.int .u8 0),.sc (.int .u8 0),.sc (.int .u8 0),.sc (.int .u8 0),.sc (.int .u8 0),.sc (.int .u8 0),.sc (.int .u8 0),.sc (.int .u8 0),.sc (.int .u8 0),.sc (.int .u8 0),.sc (.int .u8 0)]⟩
theorem qmgc:TyOk Tryz.prog 199 ty199:=qau (z:=.agg #[(.int .u8 0),(.int .u8 0),(.int .u8 0),(.int .u8 0),(.int .u8 0),(.int .u8 0),(.int .u8 0),(.int .u8 0),(.int .u8 0),(.int .u8 0),(.int .u8 0),(.int .u8 0),(.int .u8 0),(.int .u8 0),(.int .u8 0),(.int .u8 0),(.int .u8 0),(.int .u8 0),(.int .u8 0),(.int .u8 0),(.int .u8 0),(.int .u8 0),(.int .u8 0),(.int .u8 0),(.int .u8 0),(.int .u8 0),(.int .u8 0),(.int .u8 0),(.int .u8 0),(.int .u8 0),(.int .u8 0),(.int .u8 0)]) ((by kernel_rfl:Tryz.prog.underlying 199=some (.array 16 198))) (by kernel_rfl) (.cons (.sc _ rfl) (.cons (.sc _ rfl) (.cons (.sc _ rfl) (.cons (.sc _ rfl) (.cons (.sc _ rfl) (.cons (.sc _ rfl) (.cons (.sc _ rfl) (.cons (.sc _ rfl) (.cons (.sc _ rfl) (.cons (.sc _ rfl) (.cons (.sc _ rfl) (.cons (.sc _ rfl) (.cons (.sc _ rfl) (.cons (.sc _ rfl) (.cons (.sc _ rfl) (.cons (.sc _ rfl) (.cons (.sc _ rfl) (.cons (.sc _ rfl) (.cons (.sc _ rfl) (.cons (.sc _ rfl) (.cons (.sc _ rfl) (.cons (.sc _ rfl) (.cons (.sc _ rfl) (.cons (.sc _ rfl) (.cons (.sc _ rfl) (.cons (.sc _ rfl) (.cons (.sc _ rfl) (.cons (.sc _ rfl) (.cons (.sc _ rfl) (.cons (.sc _ rfl) (.cons (.sc _ rfl) (.cons (.sc _ rfl) (.nil))))))))))))))))))))))))))))))))) rfl rfl (by decide) (fun h=>by simp[Ty.isAgg,ty199] at h)
def ty203:Ty:=⟨.ptr 5,1,8,[.ptr 5],[.sc (.pointer none)]⟩
theorem qrrc:TyOk Tryz.prog 203 ty203:=qau (z:=.pointer none) ((by kernel_rfl:Tryz.prog.underlying 203=some (.pointer 5))) (by kernel_rfl) (.cons (.sc _ rfl) (.nil)) rfl rfl (by decide) (fun _=>rfl)
def ty224:Ty:=⟨.int .u8,1,1,[.int .u8],[.sc (.int .u8 0)]⟩
theorem qpic:TyOk Tryz.prog 224 ty224:=qau (z:=.int .u8 0) ((by kernel_rfl:Tryz.prog.underlying 224=some (.int .u8))) (by kernel_rfl) (.cons (.sc _ rfl) (.nil)) rfl rfl (by decide) (fun _=>rfl)
def ty225:Ty:=⟨.int .u8,1,1,[.int .u8],[.sc (.int .u8 0)]⟩
theorem qquc:TyOk Tryz.prog 225 ty225:=qau (z:=.int .u8 0) ((by kernel_rfl:Tryz.prog.underlying 225=some (.int .u8))) (by kernel_rfl) (.cons (.sc _ rfl) (.nil)) rfl rfl (by decide) (fun _=>rfl)
def ty227:Ty:=⟨.int .i32,1,4,[.int .i32],[.sc (.int .i32 0)]⟩
theorem qhvc:TyOk Tryz.prog 227 ty227:=qau (z:=.int .i32 0) ((by kernel_rfl:Tryz.prog.underlying 227=some (.int .i32))) (by kernel_rfl) (.cons (.sc _ rfl) (.nil)) rfl rfl (by decide) (fun _=>rfl)
def ty228:Ty:=⟨.int .i32,1,4,[.int .i32],[.sc (.int .i32 0)]⟩
theorem qfzc:TyOk Tryz.prog 228 ty228:=qau (z:=.int .i32 0) ((by kernel_rfl:Tryz.prog.underlying 228=some (.int .i32))) (by kernel_rfl) (.cons (.sc _ rfl) (.nil)) rfl rfl (by decide) (fun _=>rfl)
def qbi:Tab Ty:=.node none (.node none (.node (some ty3) (.node none (.node (some ty15) (.node (some ty31) (.leaf) (.leaf)) (.node none (.leaf) (.node (some ty111) (.leaf) (.leaf)))) (.node none (.node none (.node none (.leaf) (.node (some ty199) (.leaf) (.leaf))) (.leaf)) (.node none (.leaf) (.node (some ty119) (.leaf) (.leaf))))) (.node (some ty11) (.node none (.node none (.node (some ty67) (.leaf) (.leaf)) (.node none (.leaf) (.node (some ty227) (.leaf) (.leaf)))) (.node none (.leaf) (.node none (.node (some ty179) (.leaf) (.leaf)) (.leaf)))) (.node none (.node none (.node none (.leaf) (.node (some ty203) (.leaf) (.leaf))) (.leaf)) (.node (some ty59) (.leaf) (.node none (.node (some ty187) (.leaf) (.leaf)) (.leaf)))))) (.node (some ty5) (.node (some ty9) (.node (some ty17) (.node none (.leaf) (.node none (.leaf) (.node (some ty225) (.leaf) (.leaf)))) (.leaf)) (.node none (.node none (.node none (.node (some ty137) (.leaf) (.leaf)) (.leaf)) (.leaf)) (.node none (.node (some ty89) (.leaf) (.leaf)) (.leaf)))) (.node none (.node (some ty21) (.node none (.node none (.node (some ty133) (.leaf) (.leaf)) (.node (some ty197) (.leaf) (.leaf))) (.node (some ty101) (.leaf) (.leaf))) (.node (some ty53) (.leaf) (.leaf))) (.node (some ty29) (.node none (.node (some ty77) (.leaf) (.leaf)) (.leaf)) (.node (some ty61) (.node none (.node (some ty157) (.leaf) (.leaf)) (.leaf)) (.node none (.node (some ty189) (.leaf) (.leaf)) (.leaf))))))) (.node (some ty2) (.node (some ty4) (.node none (.node (some ty16) (.node (some ty32) (.node none (.node (some ty128) (.leaf) (.leaf)) (.leaf)) (.node none (.node (some ty160) (.leaf) (.leaf)) (.node (some ty224) (.leaf) (.leaf)))) (.node none (.node none (.node (some ty144) (.leaf) (.leaf)) (.leaf)) (.leaf))) (.node (some ty24) (.node none (.leaf) (.node (some ty104) (.leaf) (.leaf))) (.leaf))) (.node (some ty12) (.node none (.node none (.node (some ty68) (.leaf) (.leaf)) (.node none (.leaf) (.node (some ty228) (.leaf) (.leaf)))) (.node (some ty52) (.leaf) (.leaf))) (.node (some ty28) (.node none (.node (some ty76) (.node (some ty140) (.leaf) (.leaf)) (.leaf)) (.node (some ty108) (.leaf) (.leaf))) (.node (some ty60) (.leaf) (.node none (.node (some ty188) (.leaf) (.leaf)) (.leaf)))))) (.node (some ty6) (.node (some ty10) (.node none (.node none (.node (some ty66) (.node (some ty130) (.leaf) (.leaf)) (.leaf)) (.leaf)) (.leaf)) (.node none (.node none (.node none (.node (some ty138) (.leaf) (.leaf)) (.leaf)) (.node none (.node (some ty170) (.leaf) (.leaf)) (.leaf))) (.node none (.node (some ty90) (.node (some ty154) (.leaf) (.leaf)) (.leaf)) (.leaf)))) (.node none (.node (some ty22) (.node none (.node none (.node (some ty134) (.leaf) (.leaf)) (.node (some ty198) (.leaf) (.leaf))) (.node none (.node (some ty166) (.leaf) (.leaf)) (.leaf))) (.leaf)) (.node (some ty30) (.node (some ty46) (.leaf) (.leaf)) (.leaf)))))
theorem tyTab_ok:qbi.All (TyOk Tryz.prog) id:=⟨oN,⟨oN,⟨oJ ty3_ok,⟨oN,⟨oJ qasd,⟨oJ qwoc,trivial,trivial⟩,⟨oN,trivial,⟨oJ qmpc,trivial,trivial⟩⟩⟩,⟨oN,⟨oN,⟨oN,trivial,⟨oJ qmgc,trivial,trivial⟩⟩,trivial⟩,⟨oN,trivial,⟨oJ qfsc,trivial,trivial⟩⟩⟩⟩,⟨oJ qvac,⟨oN,⟨oN,⟨oJ qafd,trivial,trivial⟩,⟨oN,trivial,⟨oJ qhvc,trivial,trivial⟩⟩⟩,⟨oN,trivial,⟨oN,⟨oJ qpkc,trivial,trivial⟩,trivial⟩⟩⟩,⟨oN,⟨oN,⟨oN,trivial,⟨oJ qrrc,trivial,trivial⟩⟩,trivial⟩,⟨oJ qsrc,trivial,⟨oN,⟨oJ qrac,trivial,trivial⟩,trivial⟩⟩⟩⟩⟩,⟨oJ ty5_ok,⟨oJ ty9_ok,⟨oJ qvzc,⟨oN,trivial,⟨oN,trivial,⟨oJ qquc,trivial,trivial⟩⟩⟩,trivial⟩,⟨oN,⟨oN,⟨oN,⟨oJ qntc,trivial,trivial⟩,trivial⟩,trivial⟩,⟨oN,⟨oJ qaed,trivial,trivial⟩,trivial⟩⟩⟩,⟨oN,⟨oJ qbmd,⟨oN,⟨oN,⟨oJ qhlc,trivial,trivial⟩,⟨oJ qjjc,trivial,trivial⟩⟩,⟨oJ qivc,trivial,trivial⟩⟩,⟨oJ quhc,trivial,trivial⟩⟩,⟨oJ qbkd,⟨oN,⟨oJ qtyc,trivial,trivial⟩,trivial⟩,⟨oJ qzvc,⟨oN,⟨oJ qrlc,trivial,trivial⟩,trivial⟩,⟨oN,⟨oJ qowc,trivial,trivial⟩,trivial⟩⟩⟩⟩⟩⟩,⟨oJ ty2_ok,⟨oJ ty4_ok,⟨oN,⟨oJ qald,⟨oJ qccd,⟨oN,⟨oJ qmoc,trivial,trivial⟩,trivial⟩,⟨oN,⟨oJ qfrc,trivial,trivial⟩,⟨oJ qpic,trivial,trivial⟩⟩⟩,⟨oN,⟨oN,⟨oJ qluc,trivial,trivial⟩,trivial⟩,trivial⟩⟩,⟨oJ qzbc,⟨oN,trivial,⟨oJ qjtc,trivial,trivial⟩⟩,trivial⟩⟩,⟨oJ qbud,⟨oN,⟨oN,⟨oJ qttc,trivial,trivial⟩,⟨oN,trivial,⟨oJ qfzc,trivial,trivial⟩⟩⟩,⟨oJ qbhd,trivial,trivial⟩⟩,⟨oJ qwnc,⟨oN,⟨oJ qcad,⟨oJ qidc,trivial,trivial⟩,trivial⟩,⟨oJ qhtc,trivial,trivial⟩⟩,⟨oJ qvqc,trivial,⟨oN,⟨oJ qkpc,trivial,trivial⟩,trivial⟩⟩⟩⟩⟩,⟨oJ ty6_ok,⟨oJ qsjc,⟨oN,⟨oN,⟨oJ qwrc,⟨oJ qlsc,trivial,trivial⟩,trivial⟩,trivial⟩,trivial⟩,⟨oN,⟨oN,⟨oN,⟨oJ qhmc,trivial,trivial⟩,trivial⟩,⟨oN,⟨oJ qmnc,trivial,trivial⟩,trivial⟩⟩,⟨oN,⟨oJ qwec,⟨oJ qnoc,trivial,trivial⟩,trivial⟩,trivial⟩⟩⟩,⟨oN,⟨oJ qdcd,⟨oN,⟨oN,⟨oJ qofc,trivial,trivial⟩,⟨oJ qkec,trivial,trivial⟩⟩,⟨oN,⟨oJ qjyc,trivial,trivial⟩,trivial⟩⟩,trivial⟩,⟨oJ qyac,⟨oJ qvyc,trivial,trivial⟩,trivial⟩⟩⟩⟩⟩
end Go.Ev
