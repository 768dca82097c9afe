/- The types of the program that the functions here use, and that they are as the table says. Conditions: none. -/
import Derived.Test.YtfaiahlpefmgmaaEvY
import Derived.Test.YtfaiahlpefmgmaaProg
set_option linter.unusedVariables false
set_option linter.unusedSimpArgs false
namespace Go.Ev
open Go Go.Proofs
def ty2:Ty:=⟨.int .i64,1,8,[.int .i64],[.sc (.int .i64 0)]⟩
theorem ty2_ok:TyOk Try.prog 2 ty2:=qai (z:=.int .i64 0) ((by kernel_rfl:Try.prog.underlying 2=some (.int .i64))) (by kernel_rfl) (.cons (.sc _ rfl) (.nil)) rfl rfl (by decide) (fun _=>rfl)
def ty3:Ty:=⟨.int .i64,1,8,[.int .i64],[.sc (.int .i64 0)]⟩
theorem ty3_ok:TyOk Try.prog 3 ty3:=qai (z:=.int .i64 0) ((by kernel_rfl:Try.prog.underlying 3=some (.int .i64))) (by kernel_rfl) (.cons (.sc _ rfl) (.nil)) rfl rfl (by decide) (fun _=>rfl)
def ty4:Ty:=⟨.bool,1,1,[.bool],[.sc (.bool false)]⟩
theorem ty4_ok:TyOk Try.prog 4 ty4:=qai (z:=.bool false) ((by kernel_rfl:Try.prog.underlying 4=some .bool)) (by kernel_rfl) (.cons (.sc _ rfl) (.nil)) rfl rfl (by decide) (fun _=>rfl)
def ty5:Ty:=⟨.int .u8,1,1,[.int .u8],[.sc (.int .u8 0)]⟩
theorem ty5_ok:TyOk Try.prog 5 ty5:=qai (z:=.int .u8 0) ((by kernel_rfl:Try.prog.underlying 5=some (.int .u8))) (by kernel_rfl) (.cons (.sc _ rfl) (.nil)) rfl rfl (by decide) (fun _=>rfl)
def ty6:Ty:=⟨.int .u8,1,1,[.int .u8],[.sc (.int .u8 0)]⟩
theorem ty6_ok:TyOk Try.prog 6 ty6:=qai (z:=.int .u8 0) ((by kernel_rfl:Try.prog.underlying 6=some (.int .u8))) (by kernel_rfl) (.cons (.sc _ rfl) (.nil)) rfl rfl (by decide) (fun _=>rfl)
def ty9:Ty:=⟨.str,1,16,[.str],[.sc (.string ⟨#[]⟩)]⟩
theorem ty9_ok:TyOk Try.prog 9 ty9:=qai (z:=.string ⟨#[]⟩) ((by kernel_rfl:Try.prog.underlying 9=some .string)) (by kernel_rfl) (.cons (.sc _ rfl) (.nil)) rfl rfl (by decide) (fun _=>rfl)
def ty10:Ty:=⟨.str,1,16,[.str],[.sc (.string ⟨#[]⟩)]⟩
theorem qpbb:TyOk Try.prog 10 ty10:=qai (z:=.string ⟨#[]⟩) ((by kernel_rfl:Try.prog.underlying 10=some .string)) (by kernel_rfl) (.cons (.sc _ rfl) (.nil)) rfl rfl (by decide) (fun _=>rfl)
def ty11:Ty:=⟨.str,1,16,[.str],[.sc (.string ⟨#[]⟩)]⟩
theorem qocb:TyOk Try.prog 11 ty11:=qai (z:=.string ⟨#[]⟩) ((by kernel_rfl:Try.prog.underlying 11=some .string)) (by kernel_rfl) (.cons (.sc _ rfl) (.nil)) rfl rfl (by decide) (fun _=>rfl)
def ty12:Ty:=⟨.int .u64,1,8,[.int .u64],[.sc (.int .u64 0)]⟩
theorem qlpb:TyOk Try.prog 12 ty12:=qai (z:=.int .u64 0) ((by kernel_rfl:Try.prog.underlying 12=some (.int .u64))) (by kernel_rfl) (.cons (.sc _ rfl) (.nil)) rfl rfl (by decide) (fun _=>rfl)
def ty15:Ty:=⟨.ptr 122,1,8,[.ptr 122],[.sc (.pointer none)]⟩
theorem qqlb:TyOk Try.prog 15 ty15:=qai (z:=.pointer none) ((by kernel_rfl:Try.prog.underlying 15=some (.pointer 122))) (by kernel_rfl) (.cons (.sc _ rfl) (.nil)) rfl rfl (by decide) (fun _=>rfl)
def ty16:Ty:=⟨.ptr 125,1,8,[.ptr 125],[.sc (.pointer none)]⟩
theorem qpcb:TyOk Try.prog 16 ty16:=qai (z:=.pointer none) ((by kernel_rfl:Try.prog.underlying 16=some (.pointer 125))) (by kernel_rfl) (.cons (.sc _ rfl) (.nil)) rfl rfl (by decide) (fun _=>rfl)
def ty17:Ty:=⟨.ptr 134,1,8,[.ptr 134],[.sc (.pointer none)]⟩
theorem qmfb:TyOk Try.prog 17 ty17:=qai (z:=.pointer none) ((by kernel_rfl:Try.prog.underlying 17=some (.pointer 134))) (by kernel_rfl) (.cons (.sc _ rfl) (.nil)) rfl rfl (by decide) (fun _=>rfl)
def ty21:Ty:=⟨.int .i32,1,4,[.int .i32],[.sc (.int .i32 0)]⟩
theorem qoub:TyOk Try.prog 21 ty21:=qai (z:=.int .i32 0) ((by kernel_rfl:Try.prog.underlying 21=some (.int .i32))) (by kernel_rfl) (.cons (.sc _ rfl) (.nil)) rfl rfl (by decide) (fun _=>rfl)
def ty22:Ty:=⟨.slice 9,1,24,[.slice 9],[.lst true 1 []]⟩
theorem qmsb:TyOk Try.prog 22 ty22:=qai (z:=.slice none 0 0) ((by kernel_rfl:Try.prog.underlying 22=some (.slice 9))) (by kernel_rfl) (.cons (.nil _) (.nil)) rfl rfl (by decide) (fun _=>rfl)
def ty23:Ty:=⟨.struct [(0,9),(1,22),(2,22),(3,22),(4,4)],5,96,[.str,.slice 9,.slice 9,.slice 9,.bool],[.sc (.string ⟨#[]⟩),.lst true 1 [],.lst true 1 [],.lst true 1 [],.sc (.bool false)]⟩
theorem qlhb:TyOk Try.prog 23 ty23:=qai (z:=.agg #[(.string ⟨#[]⟩),(.slice none 0 0),(.slice none 0 0),(.slice none 0 0),(.bool false)]) (qbk (by kernel_rfl) (by kernel_rfl) (by kernel_rfl)) (by kernel_rfl) (.cons (.sc _ rfl) (.cons (.nil _) (.cons (.nil _) (.cons (.nil _) (.cons (.sc _ rfl) (.nil)))))) rfl rfl (by decide) (fun h=>by simp[Ty.isAgg,ty23] at h)
def ty24:Ty:=⟨.struct [(0,9),(1,22),(2,22),(3,22),(4,4)],5,96,[.str,.slice 9,.slice 9,.slice 9,.bool],[.sc (.string ⟨#[]⟩),.lst true 1 [],.lst true 1 [],.lst true 1 [],.sc (.bool false)]⟩
theorem qnib:TyOk Try.prog 24 ty24:=qai (z:=.agg #[(.string ⟨#[]⟩),(.slice none 0 0),(.slice none 0 0),(.slice none 0 0),(.bool false)]) (qbk (by kernel_rfl) (by kernel_rfl) (by kernel_rfl)) (by kernel_rfl) (.cons (.sc _ rfl) (.cons (.nil _) (.cons (.nil _) (.cons (.nil _) (.cons (.sc _ rfl) (.nil)))))) rfl rfl (by decide) (fun h=>by simp[Ty.isAgg,ty24] at h)
def ty26:Ty:=⟨.slice 28,1,24,[.slice 28],[.lst true 5 []]⟩
theorem qnwb:TyOk Try.prog 26 ty26:=qai (z:=.slice none 0 0) ((by kernel_rfl:Try.prog.underlying 26=some (.slice 28))) (by kernel_rfl) (.cons (.nil _) (.nil)) rfl rfl (by decide) (fun _=>rfl)
def ty27:Ty:=⟨.struct [(0,3),(1,3),(2,9),(3,26),(4,22)],5,80,[.int .i64,.int .i64,.str,.slice 28,.slice 9],[.sc (.int .i64 0),.sc (.int .i64 0),.sc (.string ⟨#[]⟩),.lst true 5 [],.lst true 1 []]⟩
theorem qnrb:TyOk Try.prog 27 ty27:=qai (z:=.agg #[(.int .i64 0),(.int .i64 0),(.string ⟨#[]⟩),(.slice none 0 0),(.slice none 0 0)]) (qbk (by kernel_rfl) (by kernel_rfl) (by kernel_rfl)) (by kernel_rfl) (.cons (.sc _ rfl) (.cons (.sc _ rfl) (.cons (.sc _ rfl) (.cons (.nil _) (.cons (.nil _) (.nil)))))) rfl rfl (by decide) (fun h=>by simp[Ty.isAgg,ty27] at h)
def ty28:Ty:=⟨.struct [(0,3),(1,3),(2,9),(3,26),(4,22)],5,80,[.int .i64,.int .i64,.str,.slice 28,.slice 9],[.sc (.int .i64 0),.sc (.int .i64 0),.sc (.string ⟨#[]⟩),.lst true 5 [],.lst true 1 []]⟩
theorem qpwb:TyOk Try.prog 28 ty28:=qai (z:=.agg #[(.int .i64 0),(.int .i64 0),(.string ⟨#[]⟩),(.slice none 0 0),(.slice none 0 0)]) (qbk (by kernel_rfl) (by kernel_rfl) (by kernel_rfl)) (by kernel_rfl) (.cons (.sc _ rfl) (.cons (.sc _ rfl) (.cons (.sc _ rfl) (.cons (.nil _) (.cons (.nil _) (.nil)))))) rfl rfl (by decide) (fun h=>by simp[Ty.isAgg,ty28] at h)
def ty30:Ty:=⟨.struct [(0,9),(1,22),(2,22),(3,22),(4,4)],5,96,[.str,.slice 9,.slice 9,.slice 9,.bool],[.sc (.string ⟨#[]⟩),.lst true 1 [],.lst true 1 [],.lst true 1 [],.sc (.bool false)]⟩
theorem qogb:TyOk Try.prog 30 ty30:=qai (z:=.agg #[(.string ⟨#[]⟩),(.slice none 0 0),(.slice none 0 0),(.slice none 0 0),(.bool false)]) (qbk (by kernel_rfl) (by kernel_rfl) (by kernel_rfl)) (by kernel_rfl) (.cons (.sc _ rfl) (.cons (.nil _) (.cons (.nil _) (.cons (.nil _) (.cons (.sc _ rfl) (.nil)))))) rfl rfl (by decide) (fun h=>by simp[Ty.isAgg,ty30] at h)
def ty37:Ty:=⟨.slice 5,1,24,[.slice 5],[.lst true 1 []]⟩
theorem qpgb:TyOk Try.prog 37 ty37:=qai (z:=.slice none 0 0) ((by kernel_rfl:Try.prog.underlying 37=some (.slice 5))) (by kernel_rfl) (.cons (.nil _) (.nil)) rfl rfl (by decide) (fun _=>rfl)
def ty39:Ty:=⟨.slice 47,1,24,[.slice 47],[.lst true 4 []]⟩
theorem qnvb:TyOk Try.prog 39 ty39:=qai (z:=.slice none 0 0) ((by kernel_rfl:Try.prog.underlying 39=some (.slice 47))) (by kernel_rfl) (.cons (.nil _) (.nil)) rfl rfl (by decide) (fun _=>rfl)
def ty44:Ty:=⟨.slice 94,1,24,[.slice 94],[.lst true 2 []]⟩
theorem qnyb:TyOk Try.prog 44 ty44:=qai (z:=.slice none 0 0) ((by kernel_rfl:Try.prog.underlying 44=some (.slice 94))) (by kernel_rfl) (.cons (.nil _) (.nil)) rfl rfl (by decide) (fun _=>rfl)
def ty45:Ty:=⟨.slice 87,1,24,[.slice 87],[.lst true 2 []]⟩
theorem qqdb:TyOk Try.prog 45 ty45:=qai (z:=.slice none 0 0) ((by kernel_rfl:Try.prog.underlying 45=some (.slice 87))) (by kernel_rfl) (.cons (.nil _) (.nil)) rfl rfl (by decide) (fun _=>rfl)
def ty46:Ty:=⟨.struct [(0,9),(1,22),(2,44),(3,45)],4,88,[.str,.slice 9,.slice 94,.slice 87],[.sc (.string ⟨#[]⟩),.lst true 1 [],.lst true 2 [],.lst true 2 []]⟩
theorem qqib:TyOk Try.prog 46 ty46:=qai (z:=.agg #[(.string ⟨#[]⟩),(.slice none 0 0),(.slice none 0 0),(.slice none 0 0)]) (qbk (by kernel_rfl) (by kernel_rfl) (by kernel_rfl)) (by kernel_rfl) (.cons (.sc _ rfl) (.cons (.nil _) (.cons (.nil _) (.cons (.nil _) (.nil))))) rfl rfl (by decide) (fun h=>by simp[Ty.isAgg,ty46] at h)
def ty47:Ty:=⟨.struct [(0,9),(1,22),(2,44),(3,45)],4,88,[.str,.slice 9,.slice 94,.slice 87],[.sc (.string ⟨#[]⟩),.lst true 1 [],.lst true 2 [],.lst true 2 []]⟩
theorem qopb:TyOk Try.prog 47 ty47:=qai (z:=.agg #[(.string ⟨#[]⟩),(.slice none 0 0),(.slice none 0 0),(.slice none 0 0)]) (qbk (by kernel_rfl) (by kernel_rfl) (by kernel_rfl)) (by kernel_rfl) (.cons (.sc _ rfl) (.cons (.nil _) (.cons (.nil _) (.cons (.nil _) (.nil))))) rfl rfl (by decide) (fun h=>by simp[Ty.isAgg,ty47] at h)
def ty57:Ty:=⟨.ptr 72,1,8,[.ptr 72],[.sc (.pointer none)]⟩
theorem qmpb:TyOk Try.prog 57 ty57:=qai (z:=.pointer none) ((by kernel_rfl:Try.prog.underlying 57=some (.pointer 72))) (by kernel_rfl) (.cons (.sc _ rfl) (.nil)) rfl rfl (by decide) (fun _=>rfl)
def ty61:Ty:=⟨.ptr 77,1,8,[.ptr 77],[.sc (.pointer none)]⟩
theorem qlib:TyOk Try.prog 61 ty61:=qai (z:=.pointer none) ((by kernel_rfl:Try.prog.underlying 61=some (.pointer 77))) (by kernel_rfl) (.cons (.sc _ rfl) (.nil)) rfl rfl (by decide) (fun _=>rfl)
def ty71:Ty:=⟨.struct [(0,37),(1,3),(2,3)],3,40,[.slice 5,.int .i64,.int .i64],[.lst true 1 [],.sc (.int .i64 0),.sc (.int .i64 0)]⟩
theorem qoqb:TyOk Try.prog 71 ty71:=qai (z:=.agg #[(.slice none 0 0),(.int .i64 0),(.int .i64 0)]) (qbk (by kernel_rfl) (by kernel_rfl) (by kernel_rfl)) (by kernel_rfl) (.cons (.nil _) (.cons (.sc _ rfl) (.cons (.sc _ rfl) (.nil)))) rfl rfl (by decide) (fun h=>by simp[Ty.isAgg,ty71] at h)
def ty72:Ty:=⟨.struct [(0,37),(1,3),(2,3)],3,40,[.slice 5,.int .i64,.int .i64],[.lst true 1 [],.sc (.int .i64 0),.sc (.int .i64 0)]⟩
theorem qnmb:TyOk Try.prog 72 ty72:=qai (z:=.agg #[(.slice none 0 0),(.int .i64 0),(.int .i64 0)]) (qbk (by kernel_rfl) (by kernel_rfl) (by kernel_rfl)) (by kernel_rfl) (.cons (.nil _) (.cons (.sc _ rfl) (.cons (.sc _ rfl) (.nil)))) rfl rfl (by decide) (fun h=>by simp[Ty.isAgg,ty72] at h)
def ty75:Ty:=⟨.slice 22,1,24,[.slice 22],[.lst true 1 []]⟩
theorem qlmb:TyOk Try.prog 75 ty75:=qai (z:=.slice none 0 0) ((by kernel_rfl:Try.prog.underlying 75=some (.slice 22))) (by kernel_rfl) (.cons (.nil _) (.nil)) rfl rfl (by decide) (fun _=>rfl)
def ty76:Ty:=⟨.struct [(0,22),(1,75)],2,48,[.slice 9,.slice 22],[.lst true 1 [],.lst true 1 []]⟩
theorem qmlb:TyOk Try.prog 76 ty76:=qai (z:=.agg #[(.slice none 0 0),(.slice none 0 0)]) (qbk (by kernel_rfl) (by kernel_rfl) (by kernel_rfl)) (by kernel_rfl) (.cons (.nil _) (.cons (.nil _) (.nil))) rfl rfl (by decide) (fun h=>by simp[Ty.isAgg,ty76] at h)
def ty77:Ty:=⟨.struct [(0,22),(1,75)],2,48,[.slice 9,.slice 22],[.lst true 1 [],.lst true 1 []]⟩
theorem qnab:TyOk Try.prog 77 ty77:=qai (z:=.agg #[(.slice none 0 0),(.slice none 0 0)]) (qbk (by kernel_rfl) (by kernel_rfl) (by kernel_rfl)) (by kernel_rfl) (.cons (.nil _) (.cons (.nil _) (.nil))) rfl rfl (by decide) (fun h=>by simp[Ty.isAgg,ty77] at h)
def ty86:Ty:=⟨.struct [(0,9),(1,22)],2,40,[.str,.slice 9],[.sc (.string ⟨#[]⟩),.lst true 1 []]⟩
theorem qqgb:TyOk Try.prog 86 ty86:=qai (z:=.agg #[(.string ⟨#[]⟩),(.slice none 0 0)]) (qbk (by kernel_rfl) (by kernel_rfl) (by kernel_rfl)) (by kernel_rfl) (.cons (.sc _ rfl) (.cons (.nil _) (.nil))) rfl rfl (by decide) (fun h=>by simp[Ty.isAgg,ty86] at h)
def ty87:Ty:=⟨.struct [(0,9),(1,22)],2,40,[.str,.slice 9],[.sc (.string ⟨#[]⟩),.lst true 1 []]⟩
theorem qoyb:TyOk Try.prog 87 ty87:=qai (z:=.agg #[(.string ⟨#[]⟩),(.slice none 0 0)]) (qbk (by kernel_rfl) (by kernel_rfl) (by kernel_rfl)) (by kernel_rfl) (.cons (.sc _ rfl) (.cons (.nil _) (.nil))) rfl rfl (by decide) (fun h=>by simp[Ty.isAgg,ty87] at h)
def ty89:Ty:=⟨.map 9 3,1,8,[.map 9 3],[.sc (.map none)]⟩
theorem qnqb:TyOk Try.prog 89 ty89:=qai (z:=.map none) ((by kernel_rfl:Try.prog.underlying 89=some (.map 9 3))) (by kernel_rfl) (.cons (.sc _ rfl) (.nil)) rfl rfl (by decide) (fun _=>rfl)
def ty92:Ty:=⟨.int .u64,1,8,[.int .u64],[.sc (.int .u64 0)]⟩
theorem qowb:TyOk Try.prog 92 ty92:=qai (z:=.int .u64 0) ((by kernel_rfl:Try.prog.underlying 92=some (.int .u64))) (by kernel_rfl) (.cons (.sc _ rfl) (.nil)) rfl rfl (by decide) (fun _=>rfl)
def ty93:Ty:=⟨.struct [(0,9),(1,9)],2,32,[.str,.str],[.sc (.string ⟨#[]⟩),.sc (.string ⟨#[]⟩)]⟩
theorem qosb:TyOk Try.prog 93 ty93:=qai (z:=.agg #[(.string ⟨#[]⟩),(.string ⟨#[]⟩)]) (qbk (by kernel_rfl) (by kernel_rfl) (by kernel_rfl)) (by kernel_rfl) (.cons (.sc _ rfl) (.cons (.sc _ rfl) (.nil))) rfl rfl (by decide) (fun h=>by simp[Ty.isAgg,ty93] at h)
def ty94:Ty:=⟨.struct [(0,9),(1,9)],2,32,[.str,.str],[.sc (.string ⟨#[]⟩),.sc (.string ⟨#[]⟩)]⟩
theorem qonb:TyOk Try.prog 94 ty94:=qai (z:=.agg #[(.string ⟨#[]⟩),(.string ⟨#[]⟩)]) (qbk (by kernel_rfl) (by kernel_rfl) (by kernel_rfl)) (by kernel_rfl) (.cons (.sc _ rfl) (.cons (.sc _ rfl) (.nil))) rfl rfl (by decide) (fun h=>by simp[Ty.isAgg,ty94] at h)
def ty99:Ty:=⟨.int .i64,1,8,[.int .i64],[.sc (.int .i64 0)]⟩
theorem qqkb:TyOk Try.prog 99 ty99:=qai (z:=.int .i64 0) ((by kernel_rfl:Try.prog.underlying 99=some (.int .i64))) (by kernel_rfl) (.cons (.sc _ rfl) (.nil)) rfl rfl (by decide) (fun _=>rfl)
def ty108:Ty:=⟨.int .u32,1,4,[.int .u32],[.sc (.int .u32 0)]⟩
theorem qkeb:TyOk Try.prog 108 ty108:=qai (z:=.int .u32 0) ((by kernel_rfl:Try.prog.underlying 108=some (.int .u32))) (by kernel_rfl) (.cons (.sc _ rfl) (.nil)) rfl rfl (by decide) (fun _=>rfl)
def ty110:Ty:=⟨.int .u64,1,8,[.int .u64],[.sc (.int .u64 0)]⟩
theorem qkob:TyOk Try.prog 110 ty110:=qai (z:=.int .u64 0) ((by kernel_rfl:Try.prog.underlying 110=some (.int .u64))) (by kernel_rfl) (.cons (.sc _ rfl) (.nil)) rfl rfl (by decide) (fun _=>rfl)
def ty111:Ty:=⟨.int .u64,1,8,[.int .u64],[.sc (.int .u64 0)]⟩
theorem qhwb:TyOk Try.prog 111 ty111:=qai (z:=.int .u64 0) ((by kernel_rfl:Try.prog.underlying 111=some (.int .u64))) (by kernel_rfl) (.cons (.sc _ rfl) (.nil)) rfl rfl (by decide) (fun _=>rfl)
def ty115:Ty:=⟨.ptr 3,1,8,[.ptr 3],[.sc (.pointer none)]⟩
theorem qhqb:TyOk Try.prog 115 ty115:=qai (z:=.pointer none) ((by kernel_rfl:Try.prog.underlying 115=some (.pointer 3))) (by kernel_rfl) (.cons (.sc _ rfl) (.nil)) rfl rfl (by decide) (fun _=>rfl)
def ty117:Ty:=⟨.ptr 111,1,8,[.ptr 111],[.sc (.pointer none)]⟩
theorem qijb:TyOk Try.prog 117 ty117:=qai (z:=.pointer none) ((by kernel_rfl:Try.prog.underlying 117=some (.pointer 111))) (by kernel_rfl) (.cons (.sc _ rfl) (.nil)) rfl rfl (by decide) (fun _=>rfl)
def ty127:Ty:=⟨.int .u8,1,1,[.int .u8],[.sc (.int .u8 0)]⟩
theorem qhpb:TyOk Try.prog 127 ty127:=qai (z:=.int .u8 0) ((by kernel_rfl:Try.prog.underlying 127=some (.int .u8))) (by kernel_rfl) (.cons (.sc _ rfl) (.nil)) rfl rfl (by decide) (fun _=>rfl)
def ty128:Ty:=⟨.int .u8,1,1,[.int .u8],[.sc (.int .u8 0)]⟩
theorem qhfb:TyOk Try.prog 128 ty128:=qai (z:=.int .u8 0) ((by kernel_rfl:Try.prog.underlying 128=some (.int .u8))) (by kernel_rfl) (.cons (.sc _ rfl) (.nil)) rfl rfl (by decide) (fun _=>rfl)
def ty130:Ty:=⟨.ptr 5,1,8,[.ptr 5],[.sc (.pointer none)]⟩
theorem qjjb:TyOk Try.prog 130 ty130:=qai (z:=.pointer none) ((by kernel_rfl:Try.prog.underlying 130=some (.pointer 5))) (by kernel_rfl) (.cons (.sc _ rfl) (.nil)) rfl rfl (by decide) (fun _=>rfl)
def ty131:Ty:=⟨.int .i32,1,4,[.int .i32],[.sc (.int .i32 0)]⟩
theorem qknb:TyOk Try.prog 131 ty131:=qai (z:=.int .i32 0) ((by kernel_rfl:Try.prog.underlying 131=some (.int .i32))) (by kernel_rfl) (.cons (.sc _ rfl) (.nil)) rfl rfl (by decide) (fun _=>rfl)
def ty132:Ty:=⟨.int .i32,1,4,[.int .i32],[.sc (.int .i32 0)]⟩
theorem qghb:TyOk Try.prog 132 ty132:=qai (z:=.int .i32 0) ((by kernel_rfl:Try.prog.underlying 132=some (.int .i32))) (by kernel_rfl) (.cons (.sc _ rfl) (.nil)) rfl rfl (by decide) (fun _=>rfl)
def qdy:Tab Ty:=.node none (.node none (.node (some ty3) (.node none (.node (some ty15) (.node none (.node none (.node (some ty127) (.leaf) (.leaf)) (.leaf)) (.leaf)) (.node (some ty47) (.leaf) (.node (some ty111) (.leaf) (.leaf)))) (.node (some ty23) (.node (some ty39) (.node (some ty71) (.leaf) (.leaf)) (.leaf)) (.node none (.node (some ty87) (.leaf) (.leaf)) (.leaf)))) (.node (some ty11) (.node none (.node none (.node none (.node (some ty131) (.leaf) (.leaf)) (.leaf)) (.node (some ty99) (.leaf) (.leaf))) (.node none (.leaf) (.node (some ty115) (.leaf) (.leaf)))) (.node (some ty27) (.node none (.node (some ty75) (.leaf) (.leaf)) (.leaf)) (.leaf)))) (.node (some ty5) (.node (some ty9) (.node (some ty17) (.leaf) (.leaf)) (.node none (.leaf) (.node (some ty57) (.node (some ty89) (.leaf) (.leaf)) (.leaf)))) (.node none (.node (some ty21) (.node (some ty37) (.leaf) (.leaf)) (.node none (.leaf) (.node (some ty117) (.leaf) (.leaf)))) (.node none (.node (some ty45) (.node (some ty77) (.leaf) (.leaf)) (.leaf)) (.node (some ty61) (.node (some ty93) (.leaf) (.leaf)) (.leaf)))))) (.node (some ty2) (.node (some ty4) (.node none (.node (some ty16) (.node none (.node none (.node (some ty128) (.leaf) (.leaf)) (.leaf)) (.leaf)) (.leaf)) (.node (some ty24) (.node none (.node (some ty72) (.leaf) (.leaf)) (.leaf)) (.leaf))) (.node (some ty12) (.node none (.node none (.node none (.node (some ty132) (.leaf) (.leaf)) (.leaf)) (.leaf)) (.leaf)) (.node (some ty28) (.node (some ty44) (.node (some ty76) (.leaf) (.leaf)) (.node (some ty108) (.leaf) (.leaf))) (.node none (.node (some ty92) (.leaf) (.leaf)) (.leaf))))) (.node (some ty6) (.node (some ty10) (.node none (.node none (.node none (.node (some ty130) (.leaf) (.leaf)) (.leaf)) (.leaf)) (.leaf)) (.node (some ty26) (.leaf) (.leaf))) (.node none (.node (some ty22) (.leaf) (.node none (.node (some ty86) (.leaf) (.leaf)) (.leaf))) (.node (some ty30) (.node (some ty46) (.leaf) (.node (some ty110) (.leaf) (.leaf))) (.node none (.node (some ty94) (.leaf) (.leaf)) (.leaf))))))
theorem tyTab_ok:qdy.All (TyOk Try.prog) id:=⟨oN,⟨oN,⟨oJ ty3_ok,⟨oN,⟨oJ qqlb,⟨oN,⟨oN,⟨oJ qhpb,trivial,trivial⟩,trivial⟩,trivial⟩,⟨oJ qopb,trivial,⟨oJ qhwb,trivial,trivial⟩⟩⟩,⟨oJ qlhb,⟨oJ qnvb,⟨oJ qoqb,trivial,trivial⟩,trivial⟩,⟨oN,⟨oJ qoyb,trivial,trivial⟩,trivial⟩⟩⟩,⟨oJ qocb,⟨oN,⟨oN,⟨oN,⟨oJ qknb,trivial,trivial⟩,trivial⟩,⟨oJ qqkb,trivial,trivial⟩⟩,⟨oN,trivial,⟨oJ qhqb,trivial,trivial⟩⟩⟩,⟨oJ qnrb,⟨oN,⟨oJ qlmb,trivial,trivial⟩,trivial⟩,trivial⟩⟩⟩,⟨oJ ty5_ok,⟨oJ ty9_ok,⟨oJ qmfb,trivial,trivial⟩,⟨oN,trivial,⟨oJ qmpb,⟨oJ qnqb,trivial,trivial⟩,trivial⟩⟩⟩,⟨oN,⟨oJ qoub,⟨oJ qpgb,trivial,trivial⟩,⟨oN,trivial,⟨oJ qijb,trivial,trivial⟩⟩⟩,⟨oN,⟨oJ qqdb,⟨oJ qnab,trivial,trivial⟩,trivial⟩,⟨oJ qlib,⟨oJ qosb,trivial,trivial⟩,trivial⟩⟩⟩⟩⟩,⟨oJ ty2_ok,⟨oJ ty4_ok,⟨oN,⟨oJ qpcb,⟨oN,⟨oN,⟨oJ qhfb,trivial,trivial⟩,trivial⟩,trivial⟩,trivial⟩,⟨oJ qnib,⟨oN,⟨oJ qnmb,trivial,trivial⟩,trivial⟩,trivial⟩⟩,⟨oJ qlpb,⟨oN,⟨oN,⟨oN,⟨oJ qghb,trivial,trivial⟩,trivial⟩,trivial⟩,trivial⟩,⟨oJ qpwb,⟨oJ qnyb,⟨oJ qmlb,trivial,trivial⟩,⟨oJ qkeb,trivial,trivial⟩⟩,⟨oN,⟨oJ qowb,trivial,trivial⟩,trivial⟩⟩⟩⟩,⟨oJ ty6_ok,⟨oJ qpbb,⟨oN,⟨oN,⟨oN,⟨oJ qjjb,trivial,trivial⟩,trivial⟩,trivial⟩,trivial⟩,⟨oJ qnwb,trivial,trivial⟩⟩,⟨oN,⟨oJ qmsb,trivial,⟨oN,⟨oJ qqgb,trivial,trivial⟩,trivial⟩⟩,⟨oJ qogb,⟨oJ qqib,trivial,⟨oJ qkob,trivial,trivial⟩⟩,⟨oN,⟨oJ qonb,trivial,trivial⟩,trivial⟩⟩⟩⟩⟩⟩
end Go.Ev
