/- The types of the program that the functions here use, and that they are as the table says. Conditions: none. -/
import Derived.Test.YtfaiahlpefmgmaaDoorEvY
import Derived.Test.YtfaiahlpefmgmaaDoorProg
set_option linter.unusedVariables false
set_option linter.unusedSimpArgs false
namespace Go.Ev
open Go Go.Proofs
def ty2:Ty:=⟨.int .i64,1,8,[.int .i64],[.sc (.int .i64 0)]⟩
theorem ty2_ok:TyOk Tryd.prog 2 ty2:=qaz (z:=.int .i64 0) ((by kernel_rfl:Tryd.prog.underlying 2=some (.int .i64))) (by kernel_rfl) (.cons (.sc _ rfl) (.nil)) rfl rfl (by decide) (fun _=>rfl)
def ty3:Ty:=⟨.int .i64,1,8,[.int .i64],[.sc (.int .i64 0)]⟩
theorem ty3_ok:TyOk Tryd.prog 3 ty3:=qaz (z:=.int .i64 0) ((by kernel_rfl:Tryd.prog.underlying 3=some (.int .i64))) (by kernel_rfl) (.cons (.sc _ rfl) (.nil)) rfl rfl (by decide) (fun _=>rfl)
def ty4:Ty:=⟨.bool,1,1,[.bool],[.sc (.bool false)]⟩
theorem ty4_ok:TyOk Tryd.prog 4 ty4:=qaz (z:=.bool false) ((by kernel_rfl:Tryd.prog.underlying 4=some .bool)) (by kernel_rfl) (.cons (.sc _ rfl) (.nil)) rfl rfl (by decide) (fun _=>rfl)
def ty5:Ty:=⟨.int .u8,1,1,[.int .u8],[.sc (.int .u8 0)]⟩
theorem ty5_ok:TyOk Tryd.prog 5 ty5:=qaz (z:=.int .u8 0) ((by kernel_rfl:Tryd.prog.underlying 5=some (.int .u8))) (by kernel_rfl) (.cons (.sc _ rfl) (.nil)) rfl rfl (by decide) (fun _=>rfl)
def ty6:Ty:=⟨.int .u8,1,1,[.int .u8],[.sc (.int .u8 0)]⟩
theorem ty6_ok:TyOk Tryd.prog 6 ty6:=qaz (z:=.int .u8 0) ((by kernel_rfl:Tryd.prog.underlying 6=some (.int .u8))) (by kernel_rfl) (.cons (.sc _ rfl) (.nil)) rfl rfl (by decide) (fun _=>rfl)
def ty9:Ty:=⟨.str,1,16,[.str],[.sc (.string ⟨#[]⟩)]⟩
theorem ty9_ok:TyOk Tryd.prog 9 ty9:=qaz (z:=.string ⟨#[]⟩) ((by kernel_rfl:Tryd.prog.underlying 9=some .string)) (by kernel_rfl) (.cons (.sc _ rfl) (.nil)) rfl rfl (by decide) (fun _=>rfl)
def ty10:Ty:=⟨.str,1,16,[.str],[.sc (.string ⟨#[]⟩)]⟩
theorem qwmb:TyOk Tryd.prog 10 ty10:=qaz (z:=.string ⟨#[]⟩) ((by kernel_rfl:Tryd.prog.underlying 10=some .string)) (by kernel_rfl) (.cons (.sc _ rfl) (.nil)) rfl rfl (by decide) (fun _=>rfl)
def ty11:Ty:=⟨.str,1,16,[.str],[.sc (.string ⟨#[]⟩)]⟩
theorem qawc:TyOk Tryd.prog 11 ty11:=qaz (z:=.string ⟨#[]⟩) ((by kernel_rfl:Tryd.prog.underlying 11=some .string)) (by kernel_rfl) (.cons (.sc _ rfl) (.nil)) rfl rfl (by decide) (fun _=>rfl)
def ty12:Ty:=⟨.int .u64,1,8,[.int .u64],[.sc (.int .u64 0)]⟩
theorem qzeb:TyOk Tryd.prog 12 ty12:=qaz (z:=.int .u64 0) ((by kernel_rfl:Tryd.prog.underlying 12=some (.int .u64))) (by kernel_rfl) (.cons (.sc _ rfl) (.nil)) rfl rfl (by decide) (fun _=>rfl)
def ty15:Ty:=⟨.ptr 89,1,8,[.ptr 89],[.sc (.pointer none)]⟩
theorem qzmb:TyOk Tryd.prog 15 ty15:=qaz (z:=.pointer none) ((by kernel_rfl:Tryd.prog.underlying 15=some (.pointer 89))) (by kernel_rfl) (.cons (.sc _ rfl) (.nil)) rfl rfl (by decide) (fun _=>rfl)
def ty16:Ty:=⟨.ptr 92,1,8,[.ptr 92],[.sc (.pointer none)]⟩
theorem qcqc:TyOk Tryd.prog 16 ty16:=qaz (z:=.pointer none) ((by kernel_rfl:Tryd.prog.underlying 16=some (.pointer 92))) (by kernel_rfl) (.cons (.sc _ rfl) (.nil)) rfl rfl (by decide) (fun _=>rfl)
def ty17:Ty:=⟨.ptr 101,1,8,[.ptr 101],[.sc (.pointer none)]⟩
theorem qxnb:TyOk Tryd.prog 17 ty17:=qaz (z:=.pointer none) ((by kernel_rfl:Tryd.prog.underlying 17=some (.pointer 101))) (by kernel_rfl) (.cons (.sc _ rfl) (.nil)) rfl rfl (by decide) (fun _=>rfl)
def ty21:Ty:=⟨.int .i32,1,4,[.int .i32],[.sc (.int .i32 0)]⟩
theorem qygb:TyOk Tryd.prog 21 ty21:=qaz (z:=.int .i32 0) ((by kernel_rfl:Tryd.prog.underlying 21=some (.int .i32))) (by kernel_rfl) (.cons (.sc _ rfl) (.nil)) rfl rfl (by decide) (fun _=>rfl)
def ty22:Ty:=⟨.slice 25,1,24,[.slice 25],[.lst true 5 []]⟩
theorem qacc:TyOk Tryd.prog 22 ty22:=qaz (z:=.slice none 0 0) ((by kernel_rfl:Tryd.prog.underlying 22=some (.slice 25))) (by kernel_rfl) (.cons (.nil _) (.nil)) rfl rfl (by decide) (fun _=>rfl)
def ty23:Ty:=⟨.slice 9,1,24,[.slice 9],[.lst true 1 []]⟩
theorem qcfc:TyOk Tryd.prog 23 ty23:=qaz (z:=.slice none 0 0) ((by kernel_rfl:Tryd.prog.underlying 23=some (.slice 9))) (by kernel_rfl) (.cons (.nil _) (.nil)) rfl rfl (by decide) (fun _=>rfl)
def ty24:Ty:=⟨.struct [(0,3),(1,3),(2,9),(3,22),(4,23)],5,80,[.int .i64,.int .i64,.str,.slice 25,.slice 9],[.sc (.int .i64 0),.sc (.int .i64 0),.sc (.string ⟨#[]⟩),.lst true 5 [],.lst true 1 []]⟩
theorem qasc:TyOk Tryd.prog 24 ty24:=qaz (z:=.agg #[(.int .i64 0),(.int .i64 0),(.string ⟨#[]⟩),(.slice none 0 0),(.slice none 0 0)]) (qdg (by kernel_rfl) (by kernel_rfl) (by kernel_rfl)) (by kernel_rfl) (.cons (.sc _ rfl) (.cons (.sc _ rfl) (.cons (.sc _ rfl) (.cons (.nil _) (.cons (.nil _) (.nil)))))) rfl rfl (by decide) (fun h=>by simp[Ty.isAgg,ty24] at h)
def ty25:Ty:=⟨.struct [(0,3),(1,3),(2,9),(3,22),(4,23)],5,80,[.int .i64,.int .i64,.str,.slice 25,.slice 9],[.sc (.int .i64 0),.sc (.int .i64 0),.sc (.string ⟨#[]⟩),.lst true 5 [],.lst true 1 []]⟩
theorem qwpb:TyOk Tryd.prog 25 ty25:=qaz (z:=.agg #[(.int .i64 0),(.int .i64 0),(.string ⟨#[]⟩),(.slice none 0 0),(.slice none 0 0)]) (qdg (by kernel_rfl) (by kernel_rfl) (by kernel_rfl)) (by kernel_rfl) (.cons (.sc _ rfl) (.cons (.sc _ rfl) (.cons (.sc _ rfl) (.cons (.nil _) (.cons (.nil _) (.nil)))))) rfl rfl (by decide) (fun h=>by simp[Ty.isAgg,ty25] at h)
def ty27:Ty:=⟨.struct [(0,9),(1,23),(2,23),(3,23),(4,4)],5,96,[.str,.slice 9,.slice 9,.slice 9,.bool],[.sc (.string ⟨#[]⟩),.lst true 1 [],.lst true 1 [],.lst true 1 [],.sc (.bool false)]⟩
theorem qxxb:TyOk Tryd.prog 27 ty27:=qaz (z:=.agg #[(.string ⟨#[]⟩),(.slice none 0 0),(.slice none 0 0),(.slice none 0 0),(.bool false)]) (qdg (by kernel_rfl) (by kernel_rfl) (by kernel_rfl)) (by kernel_rfl) (.cons (.sc _ rfl) (.cons (.nil _) (.cons (.nil _) (.cons (.nil _) (.cons (.sc _ rfl) (.nil)))))) rfl rfl (by decide) (fun h=>by simp[Ty.isAgg,ty27] at h)
def ty28:Ty:=⟨.struct [(0,9),(1,23),(2,23),(3,23),(4,4)],5,96,[.str,.slice 9,.slice 9,.slice 9,.bool],[.sc (.string ⟨#[]⟩),.lst true 1 [],.lst true 1 [],.lst true 1 [],.sc (.bool false)]⟩
theorem qzhb:TyOk Tryd.prog 28 ty28:=qaz (z:=.agg #[(.string ⟨#[]⟩),(.slice none 0 0),(.slice none 0 0),(.slice none 0 0),(.bool false)]) (qdg (by kernel_rfl) (by kernel_rfl) (by kernel_rfl)) (by kernel_rfl) (.cons (.sc _ rfl) (.cons (.nil _) (.cons (.nil _) (.cons (.nil _) (.cons (.sc _ rfl) (.nil)))))) rfl rfl (by decide) (fun h=>by simp[Ty.isAgg,ty28] at h)
def ty31:Ty:=⟨.slice 33,1,24,[.slice 33],[.lst true 5 []]⟩
theorem qwzb:TyOk Tryd.prog 31 ty31:=qaz (z:=.slice none 0 0) ((by kernel_rfl:Tryd.prog.underlying 31=some (.slice 33))) (by kernel_rfl) (.cons (.nil _) (.nil)) rfl rfl (by decide) (fun _=>rfl)
def ty32:Ty:=⟨.struct [(0,3),(1,3),(2,9),(3,31),(4,23)],5,80,[.int .i64,.int .i64,.str,.slice 33,.slice 9],[.sc (.int .i64 0),.sc (.int .i64 0),.sc (.string ⟨#[]⟩),.lst true 5 [],.lst true 1 []]⟩
theorem qwib:TyOk Tryd.prog 32 ty32:=qaz (z:=.agg #[(.int .i64 0),(.int .i64 0),(.string ⟨#[]⟩),(.slice none 0 0),(.slice none 0 0)]) (qdg (by kernel_rfl) (by kernel_rfl) (by kernel_rfl)) (by kernel_rfl) (.cons (.sc _ rfl) (.cons (.sc _ rfl) (.cons (.sc _ rfl) (.cons (.nil _) (.cons (.nil _) (.nil)))))) rfl rfl (by decide) (fun h=>by simp[Ty.isAgg,ty32] at h)
def ty33:Ty:=⟨.struct [(0,3),(1,3),(2,9),(3,31),(4,23)],5,80,[.int .i64,.int .i64,.str,.slice 33,.slice 9],[.sc (.int .i64 0),.sc (.int .i64 0),.sc (.string ⟨#[]⟩),.lst true 5 [],.lst true 1 []]⟩
theorem qzcb:TyOk Tryd.prog 33 ty33:=qaz (z:=.agg #[(.int .i64 0),(.int .i64 0),(.string ⟨#[]⟩),(.slice none 0 0),(.slice none 0 0)]) (qdg (by kernel_rfl) (by kernel_rfl) (by kernel_rfl)) (by kernel_rfl) (.cons (.sc _ rfl) (.cons (.sc _ rfl) (.cons (.sc _ rfl) (.cons (.nil _) (.cons (.nil _) (.nil)))))) rfl rfl (by decide) (fun h=>by simp[Ty.isAgg,ty33] at h)
def ty44:Ty:=⟨.ptr 28,1,8,[.ptr 28],[.sc (.pointer none)]⟩
theorem qwlb:TyOk Tryd.prog 44 ty44:=qaz (z:=.pointer none) ((by kernel_rfl:Tryd.prog.underlying 44=some (.pointer 28))) (by kernel_rfl) (.cons (.sc _ rfl) (.nil)) rfl rfl (by decide) (fun _=>rfl)
def ty67:Ty:=⟨.slice 5,1,24,[.slice 5],[.lst true 1 []]⟩
theorem qaac:TyOk Tryd.prog 67 ty67:=qaz (z:=.slice none 0 0) ((by kernel_rfl:Tryd.prog.underlying 67=some (.slice 5))) (by kernel_rfl) (.cons (.nil _) (.nil)) rfl rfl (by decide) (fun _=>rfl)
def ty77:Ty:=⟨.int .u64,1,8,[.int .u64],[.sc (.int .u64 0)]⟩
theorem qytb:TyOk Tryd.prog 77 ty77:=qaz (z:=.int .u64 0) ((by kernel_rfl:Tryd.prog.underlying 77=some (.int .u64))) (by kernel_rfl) (.cons (.sc _ rfl) (.nil)) rfl rfl (by decide) (fun _=>rfl)
def ty80:Ty:=⟨.int .u32,1,4,[.int .u32],[.sc (.int .u32 0)]⟩
theorem qxlb:TyOk Tryd.prog 80 ty80:=qaz (z:=.int .u32 0) ((by kernel_rfl:Tryd.prog.underlying 80=some (.int .u32))) (by kernel_rfl) (.cons (.sc _ rfl) (.nil)) rfl rfl (by decide) (fun _=>rfl)
def ty84:Ty:=⟨.struct [(0,5),(1,5)],2,2,[.int .u8,.int .u8],[.sc (.int .u8 0),.sc (.int .u8 0)]⟩
theorem qxeb:TyOk Tryd.prog 84 ty84:=qaz (z:=.agg #[(.int .u8 0),(.int .u8 0)]) (qdg (by kernel_rfl) (by kernel_rfl) (by kernel_rfl)) (by kernel_rfl) (.cons (.sc _ rfl) (.cons (.sc _ rfl) (.nil))) rfl rfl (by decide) (fun h=>by simp[Ty.isAgg,ty84] at h)
def ty85:Ty:=⟨.struct [(0,5),(1,5)],2,2,[.int .u8,.int .u8],[.sc (.int .u8 0),.sc (.int .u8 0)]⟩
theorem qbfc:TyOk Tryd.prog 85 ty85:=qaz (z:=.agg #[(.int .u8 0),(.int .u8 0)]) (qdg (by kernel_rfl) (by kernel_rfl) (by kernel_rfl)) (by kernel_rfl) (.cons (.sc _ rfl) (.cons (.sc _ rfl) (.nil))) rfl rfl (by decide) (fun h=>by simp[Ty.isAgg,ty85] at h)
def ty86:Ty:=⟨.array 16 85,32,32,[.int .u8,.int .u8,.int .u8,.int .u8,.int .u8,.int .u8,.int .u8,.int .u8,.int .u8,.int .u8,.int .u8,.int .u8,.int .u8,.int .u8,.int .u8,.int .u8,.int .u8,.int .u8,.int .u8,.int .u8,.int .u8,.int .u8,.int .u8,.int .u8,.int .u8,.int .u8,.int .u8,.int .u8,.int .u8,.int .u8,.int .u8,.int .u8],[.sc (.int .u8 0),.sc (.int .u8 0),.sc (.int .u8 0),.sc (.int .u8 0),.sc (.int .u8 0),.sc (.int .u8 0),.sc (.int .u8 0),.sc (.int .u8 0),.sc (.int .u8 0),.sc (.int .u8 0),.sc (.int .u8 0),.sc (.int .u8 0),.sc (.int .u8 0),.sc (.int .u8 0),.sc (.int .u8 0),.sc (.int .u8 0),.sc (.int .u8 0),.sc (.int .u8 0),.sc (.int .u8 0),.sc (.int .u8 0),.sc (.int .u8 0),.sc (.int .u8 0),.sc (.int .u8 0),.sc (.int .u8 0),.sc (.int .u8 0),.sc (.int .u8 0),.sc (.int .u8 0),.sc (.int .u8 0),.sc (.int .u8 0),.sc (.int .u8 0),.sc (.int .u8 0),.sc (.int .u8 0)]⟩
theorem qcic:TyOk Tryd.prog 86 ty86:=qaz (z:=.agg #[(.int .u8 0),(.int .u8 0),(.int .u8 0),(.int .u8 0),(.int .u8 0),(.int .u8 0),(.int .u8 0),(.int .u8 0),(.int .u8 0),(.int .u8 0),(.int .u8 0),(.int .u8 0),(.int .u8 0),(.int .u8 0),(.int .u8 0),(.int .u8 0),(.int .u8 0),(.int .u8 0),(.int .u8 0),(.int .u8 0),(.int .u8 0),(.int .u8 0),(.int .u8 0),(.int .u8 0),(.int .u8 0),(.int .u8 0),(.int .u8 0),(.int .u8 0),(.int .u8 0),(.int .u8 0),(.int .u8 0),(.int .u8 0)]) ((by kernel_rfl:Tryd.prog.underlying 86=some (.array 16 85))) (by kernel_rfl) (.cons (.sc _ rfl) (.cons (.sc _ rfl) (.cons (.sc _ rfl) (.cons (.sc _ rfl) (.cons (.sc _ rfl) (.cons (.sc _ rfl) (.cons (.sc _ rfl) (.cons (.sc _ rfl) (.cons (.sc _ rfl) (.cons (.sc _ rfl) (.cons (.sc _ rfl) (.cons (.sc _ rfl) (.cons (.sc _ rfl) (.cons (.sc _ rfl) (.cons (.sc _ rfl) (.cons (.sc _ rfl) (.cons (.sc _ rfl) (.cons (.sc _ rfl) (.cons (.sc _ rfl) (.cons (.sc _ rfl) (.cons (.sc _ rfl) (.cons (.sc _ rfl) (.cons (.sc _ rfl) (.cons (.sc _ rfl) (.cons (.sc _ rfl) (.cons (.sc _ rfl) (.cons (.sc _ rfl) (.cons (.sc _ rfl) (.cons (.sc _ rfl) (.cons (.sc _ rfl) (.cons (.sc _ rfl) (.cons (.sc _ rfl) (.nil))))))))))))))))))))))))))))))))) rfl rfl (by decide) (fun h=>by simp[Ty.isAgg,ty86] at h)
def ty94:Ty:=⟨.int .u8,1,1,[.int .u8],[.sc (.int .u8 0)]⟩
theorem qxyb:TyOk Tryd.prog 94 ty94:=qaz (z:=.int .u8 0) ((by kernel_rfl:Tryd.prog.underlying 94=some (.int .u8))) (by kernel_rfl) (.cons (.sc _ rfl) (.nil)) rfl rfl (by decide) (fun _=>rfl)
def ty95:Ty:=⟨.int .u8,1,1,[.int .u8],[.sc (.int .u8 0)]⟩
theorem qcnc:TyOk Tryd.prog 95 ty95:=qaz (z:=.int .u8 0) ((by kernel_rfl:Tryd.prog.underlying 95=some (.int .u8))) (by kernel_rfl) (.cons (.sc _ rfl) (.nil)) rfl rfl (by decide) (fun _=>rfl)
def ty97:Ty:=⟨.ptr 5,1,8,[.ptr 5],[.sc (.pointer none)]⟩
theorem qzsb:TyOk Tryd.prog 97 ty97:=qaz (z:=.pointer none) ((by kernel_rfl:Tryd.prog.underlying 97=some (.pointer 5))) (by kernel_rfl) (.cons (.sc _ rfl) (.nil)) rfl rfl (by decide) (fun _=>rfl)
def ty98:Ty:=⟨.int .i32,1,4,[.int .i32],[.sc (.int .i32 0)]⟩
theorem qxhb:TyOk Tryd.prog 98 ty98:=qaz (z:=.int .i32 0) ((by kernel_rfl:Tryd.prog.underlying 98=some (.int .i32))) (by kernel_rfl) (.cons (.sc _ rfl) (.nil)) rfl rfl (by decide) (fun _=>rfl)
def ty99:Ty:=⟨.int .i32,1,4,[.int .i32],[.sc (.int .i32 0)]⟩
theorem qbac:TyOk Tryd.prog 99 ty99:=qaz (z:=.int .i32 0) ((by kernel_rfl:Tryd.prog.underlying 99=some (.int .i32))) (by kernel_rfl) (.cons (.sc _ rfl) (.nil)) rfl rfl (by decide) (fun _=>rfl)
def qbk:Tab Ty:=.node none (.node none (.node (some ty3) (.node none (.node (some ty15) (.node (some ty31) (.leaf) (.node (some ty95) (.leaf) (.leaf))) (.leaf)) (.node (some ty23) (.leaf) (.leaf))) (.node (some ty11) (.node none (.node none (.node (some ty67) (.leaf) (.leaf)) (.node (some ty99) (.leaf) (.leaf))) (.leaf)) (.node (some ty27) (.leaf) (.leaf)))) (.node (some ty5) (.node (some ty9) (.node (some ty17) (.node (some ty33) (.leaf) (.node (some ty97) (.leaf) (.leaf))) (.leaf)) (.node (some ty25) (.leaf) (.leaf))) (.node none (.node (some ty21) (.leaf) (.node none (.node (some ty85) (.leaf) (.leaf)) (.leaf))) (.node none (.node none (.node (some ty77) (.leaf) (.leaf)) (.leaf)) (.leaf))))) (.node (some ty2) (.node (some ty4) (.node none (.node (some ty16) (.node (some ty32) (.leaf) (.leaf)) (.node none (.node (some ty80) (.leaf) (.leaf)) (.leaf))) (.node (some ty24) (.leaf) (.leaf))) (.node (some ty12) (.node none (.leaf) (.node none (.node (some ty84) (.leaf) (.leaf)) (.leaf))) (.node (some ty28) (.node (some ty44) (.leaf) (.leaf)) (.leaf)))) (.node (some ty6) (.node (some ty10) (.node none (.node none (.leaf) (.node (some ty98) (.leaf) (.leaf))) (.leaf)) (.leaf)) (.node none (.node (some ty22) (.leaf) (.node none (.node (some ty86) (.leaf) (.leaf)) (.leaf))) (.node none (.leaf) (.node none (.node (some ty94) (.leaf) (.leaf)) (.leaf))))))
theorem tyTab_ok:qbk.All (TyOk Tryd.prog) id:=⟨oN,⟨oN,⟨oJ ty3_ok,⟨oN,⟨oJ qzmb,⟨oJ qwzb,trivial,⟨oJ qcnc,trivial,trivial⟩⟩,trivial⟩,⟨oJ qcfc,trivial,trivial⟩⟩,⟨oJ qawc,⟨oN,⟨oN,⟨oJ qaac,trivial,trivial⟩,⟨oJ qbac,trivial,trivial⟩⟩,trivial⟩,⟨oJ qxxb,trivial,trivial⟩⟩⟩,⟨oJ ty5_ok,⟨oJ ty9_ok,⟨oJ qxnb,⟨oJ qzcb,trivial,⟨oJ qzsb,trivial,trivial⟩⟩,trivial⟩,⟨oJ qwpb,trivial,trivial⟩⟩,⟨oN,⟨oJ qygb,trivial,⟨oN,⟨oJ qbfc,trivial,trivial⟩,trivial⟩⟩,⟨oN,⟨oN,⟨oJ qytb,trivial,trivial⟩,trivial⟩,trivial⟩⟩⟩⟩,⟨oJ ty2_ok,⟨oJ ty4_ok,⟨oN,⟨oJ qcqc,⟨oJ qwib,trivial,trivial⟩,⟨oN,⟨oJ qxlb,trivial,trivial⟩,trivial⟩⟩,⟨oJ qasc,trivial,trivial⟩⟩,⟨oJ qzeb,⟨oN,trivial,⟨oN,⟨oJ qxeb,trivial,trivial⟩,trivial⟩⟩,⟨oJ qzhb,⟨oJ qwlb,trivial,trivial⟩,trivial⟩⟩⟩,⟨oJ ty6_ok,⟨oJ qwmb,⟨oN,⟨oN,trivial,⟨oJ qxhb,trivial,trivial⟩⟩,trivial⟩,trivial⟩,⟨oN,⟨oJ qacc,trivial,⟨oN,⟨oJ qcic,trivial,trivial⟩,trivial⟩⟩,⟨oN,trivial,⟨oN,⟨oJ qxyb,trivial,trivial⟩,trivial⟩⟩⟩⟩⟩⟩
end Go.Ev
