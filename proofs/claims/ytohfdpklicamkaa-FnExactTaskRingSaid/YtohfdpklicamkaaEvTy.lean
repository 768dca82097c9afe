/- The types of the program that the functions here use, and that they are as the table says. Conditions: none. -/
import Derived.Test.YtohfdpklicamkaaEvY
import Derived.Test.YtohfdpklicamkaaProg
set_option linter.unusedVariables false
set_option linter.unusedSimpArgs false
namespace Go.Ev
open Go Go.Proofs
def ty1 : Ty := ⟨.func, 1, 8, [.func], [.sc .nilFunc]⟩
theorem ty1_ok : TyOk Try.prog 1 ty1 := tyOk_of (z := .nilFunc) (⟨_, _, _, (by kernel_rfl : Try.prog.underlying 1 = some (.func #[] #[] false))⟩) (by kernel_rfl) (.cons (.sc _ rfl) (.nil)) rfl rfl (by decide) (fun _ => rfl)
def ty2 : Ty := ⟨.int .i64, 1, 8, [.int .i64], [.sc (.int .i64 0)]⟩
theorem ty2_ok : TyOk Try.prog 2 ty2 := tyOk_of (z := .int .i64 0) ((by kernel_rfl : Try.prog.underlying 2 = some (.int .i64))) (by kernel_rfl) (.cons (.sc _ rfl) (.nil)) rfl rfl (by decide) (fun _ => rfl)
def ty3 : Ty := ⟨.int .i64, 1, 8, [.int .i64], [.sc (.int .i64 0)]⟩
theorem ty3_ok : TyOk Try.prog 3 ty3 := tyOk_of (z := .int .i64 0) ((by kernel_rfl : Try.prog.underlying 3 = some (.int .i64))) (by kernel_rfl) (.cons (.sc _ rfl) (.nil)) rfl rfl (by decide) (fun _ => rfl)
def ty4 : Ty := ⟨.bool, 1, 1, [.bool], [.sc (.bool false)]⟩
theorem ty4_ok : TyOk Try.prog 4 ty4 := tyOk_of (z := .bool false) ((by kernel_rfl : Try.prog.underlying 4 = some .bool)) (by kernel_rfl) (.cons (.sc _ rfl) (.nil)) rfl rfl (by decide) (fun _ => rfl)
def ty5 : Ty := ⟨.int .u8, 1, 1, [.int .u8], [.sc (.int .u8 0)]⟩
theorem ty5_ok : TyOk Try.prog 5 ty5 := tyOk_of (z := .int .u8 0) ((by kernel_rfl : Try.prog.underlying 5 = some (.int .u8))) (by kernel_rfl) (.cons (.sc _ rfl) (.nil)) rfl rfl (by decide) (fun _ => rfl)
def ty6 : Ty := ⟨.int .u8, 1, 1, [.int .u8], [.sc (.int .u8 0)]⟩
theorem ty6_ok : TyOk Try.prog 6 ty6 := tyOk_of (z := .int .u8 0) ((by kernel_rfl : Try.prog.underlying 6 = some (.int .u8))) (by kernel_rfl) (.cons (.sc _ rfl) (.nil)) rfl rfl (by decide) (fun _ => rfl)
def ty9 : Ty := ⟨.str, 1, 16, [.str], [.sc (.string ⟨#[]⟩)]⟩
theorem ty9_ok : TyOk Try.prog 9 ty9 := tyOk_of (z := .string ⟨#[]⟩) ((by kernel_rfl : Try.prog.underlying 9 = some .string)) (by kernel_rfl) (.cons (.sc _ rfl) (.nil)) rfl rfl (by decide) (fun _ => rfl)
def ty10 : Ty := ⟨.str, 1, 16, [.str], [.sc (.string ⟨#[]⟩)]⟩
theorem ty10_ok : TyOk Try.prog 10 ty10 := tyOk_of (z := .string ⟨#[]⟩) ((by kernel_rfl : Try.prog.underlying 10 = some .string)) (by kernel_rfl) (.cons (.sc _ rfl) (.nil)) rfl rfl (by decide) (fun _ => rfl)
def ty11 : Ty := ⟨.str, 1, 16, [.str], [.sc (.string ⟨#[]⟩)]⟩
theorem ty11_ok : TyOk Try.prog 11 ty11 := tyOk_of (z := .string ⟨#[]⟩) ((by kernel_rfl : Try.prog.underlying 11 = some .string)) (by kernel_rfl) (.cons (.sc _ rfl) (.nil)) rfl rfl (by decide) (fun _ => rfl)
def ty12 : Ty := ⟨.int .u64, 1, 8, [.int .u64], [.sc (.int .u64 0)]⟩
theorem ty12_ok : TyOk Try.prog 12 ty12 := tyOk_of (z := .int .u64 0) ((by kernel_rfl : Try.prog.underlying 12 = some (.int .u64))) (by kernel_rfl) (.cons (.sc _ rfl) (.nil)) rfl rfl (by decide) (fun _ => rfl)
def ty15 : Ty := ⟨.ptr 173, 1, 8, [.ptr 173], [.sc (.pointer none)]⟩
theorem ty15_ok : TyOk Try.prog 15 ty15 := tyOk_of (z := .pointer none) ((by kernel_rfl : Try.prog.underlying 15 = some (.pointer 173))) (by kernel_rfl) (.cons (.sc _ rfl) (.nil)) rfl rfl (by decide) (fun _ => rfl)
def ty16 : Ty := ⟨.ptr 176, 1, 8, [.ptr 176], [.sc (.pointer none)]⟩
theorem ty16_ok : TyOk Try.prog 16 ty16 := tyOk_of (z := .pointer none) ((by kernel_rfl : Try.prog.underlying 16 = some (.pointer 176))) (by kernel_rfl) (.cons (.sc _ rfl) (.nil)) rfl rfl (by decide) (fun _ => rfl)
def ty17 : Ty := ⟨.ptr 185, 1, 8, [.ptr 185], [.sc (.pointer none)]⟩
theorem ty17_ok : TyOk Try.prog 17 ty17 := tyOk_of (z := .pointer none) ((by kernel_rfl : Try.prog.underlying 17 = some (.pointer 185))) (by kernel_rfl) (.cons (.sc _ rfl) (.nil)) rfl rfl (by decide) (fun _ => rfl)
def ty21 : Ty := ⟨.int .i32, 1, 4, [.int .i32], [.sc (.int .i32 0)]⟩
theorem ty21_ok : TyOk Try.prog 21 ty21 := tyOk_of (z := .int .i32 0) ((by kernel_rfl : Try.prog.underlying 21 = some (.int .i32))) (by kernel_rfl) (.cons (.sc _ rfl) (.nil)) rfl rfl (by decide) (fun _ => rfl)
def ty22 : Ty := ⟨.slice 9, 1, 24, [.slice 9], [.lst true 1 []]⟩
theorem ty22_ok : TyOk Try.prog 22 ty22 := tyOk_of (z := .slice none 0 0) ((by kernel_rfl : Try.prog.underlying 22 = some (.slice 9))) (by kernel_rfl) (.cons (.nil _) (.nil)) rfl rfl (by decide) (fun _ => rfl)
def ty23 : Ty := ⟨.struct [(0, 9), (1, 22), (2, 22), (3, 22), (4, 4)], 5, 96, [.str, .slice 9, .slice 9, .slice 9, .bool], [.sc (.string ⟨#[]⟩), .lst true 1 [], .lst true 1 [], .lst true 1 [], .sc (.bool false)]⟩
theorem ty23_ok : TyOk Try.prog 23 ty23 := tyOk_of (z := .agg #[(.string ⟨#[]⟩), (.slice none 0 0), (.slice none 0 0), (.slice none 0 0), (.bool false)]) (kd_struct (by kernel_rfl) (by kernel_rfl) (by kernel_rfl)) (by kernel_rfl) (.cons (.sc _ rfl) (.cons (.nil _) (.cons (.nil _) (.cons (.nil _) (.cons (.sc _ rfl) (.nil)))))) rfl rfl (by decide) (fun h => by simp [Ty.isAgg, ty23] at h)
def ty24 : Ty := ⟨.struct [(0, 9), (1, 22), (2, 22), (3, 22), (4, 4)], 5, 96, [.str, .slice 9, .slice 9, .slice 9, .bool], [.sc (.string ⟨#[]⟩), .lst true 1 [], .lst true 1 [], .lst true 1 [], .sc (.bool false)]⟩
theorem ty24_ok : TyOk Try.prog 24 ty24 := tyOk_of (z := .agg #[(.string ⟨#[]⟩), (.slice none 0 0), (.slice none 0 0), (.slice none 0 0), (.bool false)]) (kd_struct (by kernel_rfl) (by kernel_rfl) (by kernel_rfl)) (by kernel_rfl) (.cons (.sc _ rfl) (.cons (.nil _) (.cons (.nil _) (.cons (.nil _) (.cons (.sc _ rfl) (.nil)))))) rfl rfl (by decide) (fun h => by simp [Ty.isAgg, ty24] at h)
def ty25 : Ty := ⟨.func, 1, 8, [.func], [.sc .nilFunc]⟩
theorem ty25_ok : TyOk Try.prog 25 ty25 := tyOk_of (z := .nilFunc) (⟨_, _, _, (by kernel_rfl : Try.prog.underlying 25 = some (.func #[24, 3] #[3] false))⟩) (by kernel_rfl) (.cons (.sc _ rfl) (.nil)) rfl rfl (by decide) (fun _ => rfl)
def ty26 : Ty := ⟨.slice 28, 1, 24, [.slice 28], [.lst true 5 []]⟩
theorem ty26_ok : TyOk Try.prog 26 ty26 := tyOk_of (z := .slice none 0 0) ((by kernel_rfl : Try.prog.underlying 26 = some (.slice 28))) (by kernel_rfl) (.cons (.nil _) (.nil)) rfl rfl (by decide) (fun _ => rfl)
def ty27 : Ty := ⟨.struct [(0, 3), (1, 3), (2, 9), (3, 26), (4, 22)], 5, 80, [.int .i64, .int .i64, .str, .slice 28, .slice 9], [.sc (.int .i64 0), .sc (.int .i64 0), .sc (.string ⟨#[]⟩), .lst true 5 [], .lst true 1 []]⟩
theorem ty27_ok : TyOk Try.prog 27 ty27 := tyOk_of (z := .agg #[(.int .i64 0), (.int .i64 0), (.string ⟨#[]⟩), (.slice none 0 0), (.slice none 0 0)]) (kd_struct (by kernel_rfl) (by kernel_rfl) (by kernel_rfl)) (by kernel_rfl) (.cons (.sc _ rfl) (.cons (.sc _ rfl) (.cons (.sc _ rfl) (.cons (.nil _) (.cons (.nil _) (.nil)))))) rfl rfl (by decide) (fun h => by simp [Ty.isAgg, ty27] at h)
def ty28 : Ty := ⟨.struct [(0, 3), (1, 3), (2, 9), (3, 26), (4, 22)], 5, 80, [.int .i64, .int .i64, .str, .slice 28, .slice 9], [.sc (.int .i64 0), .sc (.int .i64 0), .sc (.string ⟨#[]⟩), .lst true 5 [], .lst true 1 []]⟩
theorem ty28_ok : TyOk Try.prog 28 ty28 := tyOk_of (z := .agg #[(.int .i64 0), (.int .i64 0), (.string ⟨#[]⟩), (.slice none 0 0), (.slice none 0 0)]) (kd_struct (by kernel_rfl) (by kernel_rfl) (by kernel_rfl)) (by kernel_rfl) (.cons (.sc _ rfl) (.cons (.sc _ rfl) (.cons (.sc _ rfl) (.cons (.nil _) (.cons (.nil _) (.nil)))))) rfl rfl (by decide) (fun h => by simp [Ty.isAgg, ty28] at h)
def ty29 : Ty := ⟨.func, 1, 8, [.func], [.sc .nilFunc]⟩
theorem ty29_ok : TyOk Try.prog 29 ty29 := tyOk_of (z := .nilFunc) (⟨_, _, _, (by kernel_rfl : Try.prog.underlying 29 = some (.func #[30] #[28] false))⟩) (by kernel_rfl) (.cons (.sc _ rfl) (.nil)) rfl rfl (by decide) (fun _ => rfl)
def ty30 : Ty := ⟨.struct [(0, 9), (1, 22), (2, 22), (3, 22), (4, 4)], 5, 96, [.str, .slice 9, .slice 9, .slice 9, .bool], [.sc (.string ⟨#[]⟩), .lst true 1 [], .lst true 1 [], .lst true 1 [], .sc (.bool false)]⟩
theorem ty30_ok : TyOk Try.prog 30 ty30 := tyOk_of (z := .agg #[(.string ⟨#[]⟩), (.slice none 0 0), (.slice none 0 0), (.slice none 0 0), (.bool false)]) (kd_struct (by kernel_rfl) (by kernel_rfl) (by kernel_rfl)) (by kernel_rfl) (.cons (.sc _ rfl) (.cons (.nil _) (.cons (.nil _) (.cons (.nil _) (.cons (.sc _ rfl) (.nil)))))) rfl rfl (by decide) (fun h => by simp [Ty.isAgg, ty30] at h)
def ty31 : Ty := ⟨.func, 1, 8, [.func], [.sc .nilFunc]⟩
theorem ty31_ok : TyOk Try.prog 31 ty31 := tyOk_of (z := .nilFunc) (⟨_, _, _, (by kernel_rfl : Try.prog.underlying 31 = some (.func #[24] #[30] false))⟩) (by kernel_rfl) (.cons (.sc _ rfl) (.nil)) rfl rfl (by decide) (fun _ => rfl)
def ty32 : Ty := ⟨.func, 1, 8, [.func], [.sc .nilFunc]⟩
theorem ty32_ok : TyOk Try.prog 32 ty32 := tyOk_of (z := .nilFunc) (⟨_, _, _, (by kernel_rfl : Try.prog.underlying 32 = some (.func #[28, 28] #[4] false))⟩) (by kernel_rfl) (.cons (.sc _ rfl) (.nil)) rfl rfl (by decide) (fun _ => rfl)
def ty33 : Ty := ⟨.func, 1, 8, [.func], [.sc .nilFunc]⟩
theorem ty33_ok : TyOk Try.prog 33 ty33 := tyOk_of (z := .nilFunc) (⟨_, _, _, (by kernel_rfl : Try.prog.underlying 33 = some (.func #[30, 30] #[4] false))⟩) (by kernel_rfl) (.cons (.sc _ rfl) (.nil)) rfl rfl (by decide) (fun _ => rfl)
def ty34 : Ty := ⟨.func, 1, 8, [.func], [.sc .nilFunc]⟩
theorem ty34_ok : TyOk Try.prog 34 ty34 := tyOk_of (z := .nilFunc) (⟨_, _, _, (by kernel_rfl : Try.prog.underlying 34 = some (.func #[30, 3] #[3] false))⟩) (by kernel_rfl) (.cons (.sc _ rfl) (.nil)) rfl rfl (by decide) (fun _ => rfl)
def ty35 : Ty := ⟨.func, 1, 8, [.func], [.sc .nilFunc]⟩
theorem ty35_ok : TyOk Try.prog 35 ty35 := tyOk_of (z := .nilFunc) (⟨_, _, _, (by kernel_rfl : Try.prog.underlying 35 = some (.func #[28, 3] #[3] false))⟩) (by kernel_rfl) (.cons (.sc _ rfl) (.nil)) rfl rfl (by decide) (fun _ => rfl)
def ty36 : Ty := ⟨.func, 1, 8, [.func], [.sc .nilFunc]⟩
theorem ty36_ok : TyOk Try.prog 36 ty36 := tyOk_of (z := .nilFunc) (⟨_, _, _, (by kernel_rfl : Try.prog.underlying 36 = some (.func #[24] #[4] false))⟩) (by kernel_rfl) (.cons (.sc _ rfl) (.nil)) rfl rfl (by decide) (fun _ => rfl)
def ty37 : Ty := ⟨.slice 5, 1, 24, [.slice 5], [.lst true 1 []]⟩
theorem ty37_ok : TyOk Try.prog 37 ty37 := tyOk_of (z := .slice none 0 0) ((by kernel_rfl : Try.prog.underlying 37 = some (.slice 5))) (by kernel_rfl) (.cons (.nil _) (.nil)) rfl rfl (by decide) (fun _ => rfl)
def ty38 : Ty := ⟨.func, 1, 8, [.func], [.sc .nilFunc]⟩
theorem ty38_ok : TyOk Try.prog 38 ty38 := tyOk_of (z := .nilFunc) (⟨_, _, _, (by kernel_rfl : Try.prog.underlying 38 = some (.func #[37] #[4] false))⟩) (by kernel_rfl) (.cons (.sc _ rfl) (.nil)) rfl rfl (by decide) (fun _ => rfl)
def ty39 : Ty := ⟨.slice 47, 1, 24, [.slice 47], [.lst true 4 []]⟩
theorem ty39_ok : TyOk Try.prog 39 ty39 := tyOk_of (z := .slice none 0 0) ((by kernel_rfl : Try.prog.underlying 39 = some (.slice 47))) (by kernel_rfl) (.cons (.nil _) (.nil)) rfl rfl (by decide) (fun _ => rfl)
def ty40 : Ty := ⟨.func, 1, 8, [.func], [.sc .nilFunc]⟩
theorem ty40_ok : TyOk Try.prog 40 ty40 := tyOk_of (z := .nilFunc) (⟨_, _, _, (by kernel_rfl : Try.prog.underlying 40 = some (.func #[37] #[39] false))⟩) (by kernel_rfl) (.cons (.sc _ rfl) (.nil)) rfl rfl (by decide) (fun _ => rfl)
def ty41 : Ty := ⟨.func, 1, 8, [.func], [.sc .nilFunc]⟩
theorem ty41_ok : TyOk Try.prog 41 ty41 := tyOk_of (z := .nilFunc) (⟨_, _, _, (by kernel_rfl : Try.prog.underlying 41 = some (.func #[39] #[22] false))⟩) (by kernel_rfl) (.cons (.sc _ rfl) (.nil)) rfl rfl (by decide) (fun _ => rfl)
def ty43 : Ty := ⟨.func, 1, 8, [.func], [.sc .nilFunc]⟩
theorem ty43_ok : TyOk Try.prog 43 ty43 := tyOk_of (z := .nilFunc) (⟨_, _, _, (by kernel_rfl : Try.prog.underlying 43 = some (.func #[39] #[22, 4] false))⟩) (by kernel_rfl) (.cons (.sc _ rfl) (.nil)) rfl rfl (by decide) (fun _ => rfl)
def ty44 : Ty := ⟨.slice 126, 1, 24, [.slice 126], [.lst true 2 []]⟩
theorem ty44_ok : TyOk Try.prog 44 ty44 := tyOk_of (z := .slice none 0 0) ((by kernel_rfl : Try.prog.underlying 44 = some (.slice 126))) (by kernel_rfl) (.cons (.nil _) (.nil)) rfl rfl (by decide) (fun _ => rfl)
def ty45 : Ty := ⟨.slice 128, 1, 24, [.slice 128], [.lst true 2 []]⟩
theorem ty45_ok : TyOk Try.prog 45 ty45 := tyOk_of (z := .slice none 0 0) ((by kernel_rfl : Try.prog.underlying 45 = some (.slice 128))) (by kernel_rfl) (.cons (.nil _) (.nil)) rfl rfl (by decide) (fun _ => rfl)
def ty46 : Ty := ⟨.struct [(0, 9), (1, 22), (2, 44), (3, 45)], 4, 88, [.str, .slice 9, .slice 126, .slice 128], [.sc (.string ⟨#[]⟩), .lst true 1 [], .lst true 2 [], .lst true 2 []]⟩
theorem ty46_ok : TyOk Try.prog 46 ty46 := tyOk_of (z := .agg #[(.string ⟨#[]⟩), (.slice none 0 0), (.slice none 0 0), (.slice none 0 0)]) (kd_struct (by kernel_rfl) (by kernel_rfl) (by kernel_rfl)) (by kernel_rfl) (.cons (.sc _ rfl) (.cons (.nil _) (.cons (.nil _) (.cons (.nil _) (.nil))))) rfl rfl (by decide) (fun h => by simp [Ty.isAgg, ty46] at h)
def ty47 : Ty := ⟨.struct [(0, 9), (1, 22), (2, 44), (3, 45)], 4, 88, [.str, .slice 9, .slice 126, .slice 128], [.sc (.string ⟨#[]⟩), .lst true 1 [], .lst true 2 [], .lst true 2 []]⟩
theorem ty47_ok : TyOk Try.prog 47 ty47 := tyOk_of (z := .agg #[(.string ⟨#[]⟩), (.slice none 0 0), (.slice none 0 0), (.slice none 0 0)]) (kd_struct (by kernel_rfl) (by kernel_rfl) (by kernel_rfl)) (by kernel_rfl) (.cons (.sc _ rfl) (.cons (.nil _) (.cons (.nil _) (.cons (.nil _) (.nil))))) rfl rfl (by decide) (fun h => by simp [Ty.isAgg, ty47] at h)
def ty48 : Ty := ⟨.func, 1, 8, [.func], [.sc .nilFunc]⟩
theorem ty48_ok : TyOk Try.prog 48 ty48 := tyOk_of (z := .nilFunc) (⟨_, _, _, (by kernel_rfl : Try.prog.underlying 48 = some (.func #[22, 9] #[4] false))⟩) (by kernel_rfl) (.cons (.sc _ rfl) (.nil)) rfl rfl (by decide) (fun _ => rfl)
def ty49 : Ty := ⟨.func, 1, 8, [.func], [.sc .nilFunc]⟩
theorem ty49_ok : TyOk Try.prog 49 ty49 := tyOk_of (z := .nilFunc) (⟨_, _, _, (by kernel_rfl : Try.prog.underlying 49 = some (.func #[39, 9] #[22] false))⟩) (by kernel_rfl) (.cons (.sc _ rfl) (.nil)) rfl rfl (by decide) (fun _ => rfl)
def ty50 : Ty := ⟨.func, 1, 8, [.func], [.sc .nilFunc]⟩
theorem ty50_ok : TyOk Try.prog 50 ty50 := tyOk_of (z := .nilFunc) (⟨_, _, _, (by kernel_rfl : Try.prog.underlying 50 = some (.func #[39, 9] #[3] false))⟩) (by kernel_rfl) (.cons (.sc _ rfl) (.nil)) rfl rfl (by decide) (fun _ => rfl)
def ty51 : Ty := ⟨.slice 22, 1, 24, [.slice 22], [.lst true 1 []]⟩
theorem ty51_ok : TyOk Try.prog 51 ty51 := tyOk_of (z := .slice none 0 0) ((by kernel_rfl : Try.prog.underlying 51 = some (.slice 22))) (by kernel_rfl) (.cons (.nil _) (.nil)) rfl rfl (by decide) (fun _ => rfl)
def ty52 : Ty := ⟨.struct [(0, 22), (1, 51)], 2, 48, [.slice 9, .slice 22], [.lst true 1 [], .lst true 1 []]⟩
theorem ty52_ok : TyOk Try.prog 52 ty52 := tyOk_of (z := .agg #[(.slice none 0 0), (.slice none 0 0)]) (kd_struct (by kernel_rfl) (by kernel_rfl) (by kernel_rfl)) (by kernel_rfl) (.cons (.nil _) (.cons (.nil _) (.nil))) rfl rfl (by decide) (fun h => by simp [Ty.isAgg, ty52] at h)
def ty53 : Ty := ⟨.struct [(0, 22), (1, 51)], 2, 48, [.slice 9, .slice 22], [.lst true 1 [], .lst true 1 []]⟩
theorem ty53_ok : TyOk Try.prog 53 ty53 := tyOk_of (z := .agg #[(.slice none 0 0), (.slice none 0 0)]) (kd_struct (by kernel_rfl) (by kernel_rfl) (by kernel_rfl)) (by kernel_rfl) (.cons (.nil _) (.cons (.nil _) (.nil))) rfl rfl (by decide) (fun h => by simp [Ty.isAgg, ty53] at h)
def ty54 : Ty := ⟨.func, 1, 8, [.func], [.sc .nilFunc]⟩
theorem ty54_ok : TyOk Try.prog 54 ty54 := tyOk_of (z := .nilFunc) (⟨_, _, _, (by kernel_rfl : Try.prog.underlying 54 = some (.func #[53, 3] #[3] false))⟩) (by kernel_rfl) (.cons (.sc _ rfl) (.nil)) rfl rfl (by decide) (fun _ => rfl)
def ty55 : Ty := ⟨.func, 1, 8, [.func], [.sc .nilFunc]⟩
theorem ty55_ok : TyOk Try.prog 55 ty55 := tyOk_of (z := .nilFunc) (⟨_, _, _, (by kernel_rfl : Try.prog.underlying 55 = some (.func #[56] #[22] false))⟩) (by kernel_rfl) (.cons (.sc _ rfl) (.nil)) rfl rfl (by decide) (fun _ => rfl)
def ty56 : Ty := ⟨.struct [(0, 22), (1, 51)], 2, 48, [.slice 9, .slice 22], [.lst true 1 [], .lst true 1 []]⟩
theorem ty56_ok : TyOk Try.prog 56 ty56 := tyOk_of (z := .agg #[(.slice none 0 0), (.slice none 0 0)]) (kd_struct (by kernel_rfl) (by kernel_rfl) (by kernel_rfl)) (by kernel_rfl) (.cons (.nil _) (.cons (.nil _) (.nil))) rfl rfl (by decide) (fun h => by simp [Ty.isAgg, ty56] at h)
def ty57 : Ty := ⟨.func, 1, 8, [.func], [.sc .nilFunc]⟩
theorem ty57_ok : TyOk Try.prog 57 ty57 := tyOk_of (z := .nilFunc) (⟨_, _, _, (by kernel_rfl : Try.prog.underlying 57 = some (.func #[53] #[56] false))⟩) (by kernel_rfl) (.cons (.sc _ rfl) (.nil)) rfl rfl (by decide) (fun _ => rfl)
def ty58 : Ty := ⟨.func, 1, 8, [.func], [.sc .nilFunc]⟩
theorem ty58_ok : TyOk Try.prog 58 ty58 := tyOk_of (z := .nilFunc) (⟨_, _, _, (by kernel_rfl : Try.prog.underlying 58 = some (.func #[22, 22] #[4] false))⟩) (by kernel_rfl) (.cons (.sc _ rfl) (.nil)) rfl rfl (by decide) (fun _ => rfl)
def ty59 : Ty := ⟨.func, 1, 8, [.func], [.sc .nilFunc]⟩
theorem ty59_ok : TyOk Try.prog 59 ty59 := tyOk_of (z := .nilFunc) (⟨_, _, _, (by kernel_rfl : Try.prog.underlying 59 = some (.func #[56, 56] #[4] false))⟩) (by kernel_rfl) (.cons (.sc _ rfl) (.nil)) rfl rfl (by decide) (fun _ => rfl)
def ty60 : Ty := ⟨.func, 1, 8, [.func], [.sc .nilFunc]⟩
theorem ty60_ok : TyOk Try.prog 60 ty60 := tyOk_of (z := .nilFunc) (⟨_, _, _, (by kernel_rfl : Try.prog.underlying 60 = some (.func #[56, 3] #[3] false))⟩) (by kernel_rfl) (.cons (.sc _ rfl) (.nil)) rfl rfl (by decide) (fun _ => rfl)
def ty61 : Ty := ⟨.func, 1, 8, [.func], [.sc .nilFunc]⟩
theorem ty61_ok : TyOk Try.prog 61 ty61 := tyOk_of (z := .nilFunc) (⟨_, _, _, (by kernel_rfl : Try.prog.underlying 61 = some (.func #[22, 3] #[3] false))⟩) (by kernel_rfl) (.cons (.sc _ rfl) (.nil)) rfl rfl (by decide) (fun _ => rfl)
def ty62 : Ty := ⟨.func, 1, 8, [.func], [.sc .nilFunc]⟩
theorem ty62_ok : TyOk Try.prog 62 ty62 := tyOk_of (z := .nilFunc) (⟨_, _, _, (by kernel_rfl : Try.prog.underlying 62 = some (.func #[53] #[4] false))⟩) (by kernel_rfl) (.cons (.sc _ rfl) (.nil)) rfl rfl (by decide) (fun _ => rfl)
def ty63 : Ty := ⟨.slice 98, 1, 24, [.slice 98], [.lst true 4 []]⟩
theorem ty63_ok : TyOk Try.prog 63 ty63 := tyOk_of (z := .slice none 0 0) ((by kernel_rfl : Try.prog.underlying 63 = some (.slice 98))) (by kernel_rfl) (.cons (.nil _) (.nil)) rfl rfl (by decide) (fun _ => rfl)
def ty64 : Ty := ⟨.func, 1, 8, [.func], [.sc .nilFunc]⟩
theorem ty64_ok : TyOk Try.prog 64 ty64 := tyOk_of (z := .nilFunc) (⟨_, _, _, (by kernel_rfl : Try.prog.underlying 64 = some (.func #[63, 3] #[3] false))⟩) (by kernel_rfl) (.cons (.sc _ rfl) (.nil)) rfl rfl (by decide) (fun _ => rfl)
def ty65 : Ty := ⟨.func, 1, 8, [.func], [.sc .nilFunc]⟩
theorem ty65_ok : TyOk Try.prog 65 ty65 := tyOk_of (z := .nilFunc) (⟨_, _, _, (by kernel_rfl : Try.prog.underlying 65 = some (.func #[63] #[39] false))⟩) (by kernel_rfl) (.cons (.sc _ rfl) (.nil)) rfl rfl (by decide) (fun _ => rfl)
def ty66 : Ty := ⟨.func, 1, 8, [.func], [.sc .nilFunc]⟩
theorem ty66_ok : TyOk Try.prog 66 ty66 := tyOk_of (z := .nilFunc) (⟨_, _, _, (by kernel_rfl : Try.prog.underlying 66 = some (.func #[39, 39] #[4] false))⟩) (by kernel_rfl) (.cons (.sc _ rfl) (.nil)) rfl rfl (by decide) (fun _ => rfl)
def ty67 : Ty := ⟨.func, 1, 8, [.func], [.sc .nilFunc]⟩
theorem ty67_ok : TyOk Try.prog 67 ty67 := tyOk_of (z := .nilFunc) (⟨_, _, _, (by kernel_rfl : Try.prog.underlying 67 = some (.func #[39, 3] #[3] false))⟩) (by kernel_rfl) (.cons (.sc _ rfl) (.nil)) rfl rfl (by decide) (fun _ => rfl)
def ty68 : Ty := ⟨.func, 1, 8, [.func], [.sc .nilFunc]⟩
theorem ty68_ok : TyOk Try.prog 68 ty68 := tyOk_of (z := .nilFunc) (⟨_, _, _, (by kernel_rfl : Try.prog.underlying 68 = some (.func #[63] #[4] false))⟩) (by kernel_rfl) (.cons (.sc _ rfl) (.nil)) rfl rfl (by decide) (fun _ => rfl)
def ty69 : Ty := ⟨.func, 1, 8, [.func], [.sc .nilFunc]⟩
theorem ty69_ok : TyOk Try.prog 69 ty69 := tyOk_of (z := .nilFunc) (⟨_, _, _, (by kernel_rfl : Try.prog.underlying 69 = some (.func #[22] #[28] false))⟩) (by kernel_rfl) (.cons (.sc _ rfl) (.nil)) rfl rfl (by decide) (fun _ => rfl)
def ty70 : Ty := ⟨.func, 1, 8, [.func], [.sc .nilFunc]⟩
theorem ty70_ok : TyOk Try.prog 70 ty70 := tyOk_of (z := .nilFunc) (⟨_, _, _, (by kernel_rfl : Try.prog.underlying 70 = some (.func #[22] #[22] false))⟩) (by kernel_rfl) (.cons (.sc _ rfl) (.nil)) rfl rfl (by decide) (fun _ => rfl)
def ty71 : Ty := ⟨.func, 1, 8, [.func], [.sc .nilFunc]⟩
theorem ty71_ok : TyOk Try.prog 71 ty71 := tyOk_of (z := .nilFunc) (⟨_, _, _, (by kernel_rfl : Try.prog.underlying 71 = some (.func #[26, 26] #[4] false))⟩) (by kernel_rfl) (.cons (.sc _ rfl) (.nil)) rfl rfl (by decide) (fun _ => rfl)
def ty72 : Ty := ⟨.func, 1, 8, [.func], [.sc .nilFunc]⟩
theorem ty72_ok : TyOk Try.prog 72 ty72 := tyOk_of (z := .nilFunc) (⟨_, _, _, (by kernel_rfl : Try.prog.underlying 72 = some (.func #[26, 3] #[3] false))⟩) (by kernel_rfl) (.cons (.sc _ rfl) (.nil)) rfl rfl (by decide) (fun _ => rfl)
def ty73 : Ty := ⟨.ptr 106, 1, 8, [.ptr 106], [.sc (.pointer none)]⟩
theorem ty73_ok : TyOk Try.prog 73 ty73 := tyOk_of (z := .pointer none) ((by kernel_rfl : Try.prog.underlying 73 = some (.pointer 106))) (by kernel_rfl) (.cons (.sc _ rfl) (.nil)) rfl rfl (by decide) (fun _ => rfl)
def ty74 : Ty := ⟨.func, 1, 8, [.func], [.sc .nilFunc]⟩
theorem ty74_ok : TyOk Try.prog 74 ty74 := tyOk_of (z := .nilFunc) (⟨_, _, _, (by kernel_rfl : Try.prog.underlying 74 = some (.func #[37] #[73] false))⟩) (by kernel_rfl) (.cons (.sc _ rfl) (.nil)) rfl rfl (by decide) (fun _ => rfl)
def ty75 : Ty := ⟨.func, 1, 8, [.func], [.sc .nilFunc]⟩
theorem ty75_ok : TyOk Try.prog 75 ty75 := tyOk_of (z := .nilFunc) (⟨_, _, _, (by kernel_rfl : Try.prog.underlying 75 = some (.func #[73, 4] #[39] false))⟩) (by kernel_rfl) (.cons (.sc _ rfl) (.nil)) rfl rfl (by decide) (fun _ => rfl)
def ty76 : Ty := ⟨.func, 1, 8, [.func], [.sc .nilFunc]⟩
theorem ty76_ok : TyOk Try.prog 76 ty76 := tyOk_of (z := .nilFunc) (⟨_, _, _, (by kernel_rfl : Try.prog.underlying 76 = some (.func #[73, 3] #[4] false))⟩) (by kernel_rfl) (.cons (.sc _ rfl) (.nil)) rfl rfl (by decide) (fun _ => rfl)
def ty77 : Ty := ⟨.ptr 110, 1, 8, [.ptr 110], [.sc (.pointer none)]⟩
theorem ty77_ok : TyOk Try.prog 77 ty77 := tyOk_of (z := .pointer none) ((by kernel_rfl : Try.prog.underlying 77 = some (.pointer 110))) (by kernel_rfl) (.cons (.sc _ rfl) (.nil)) rfl rfl (by decide) (fun _ => rfl)
def ty78 : Ty := ⟨.func, 1, 8, [.func], [.sc .nilFunc]⟩
theorem ty78_ok : TyOk Try.prog 78 ty78 := tyOk_of (z := .nilFunc) (⟨_, _, _, (by kernel_rfl : Try.prog.underlying 78 = some (.func #[39] #[77] false))⟩) (by kernel_rfl) (.cons (.sc _ rfl) (.nil)) rfl rfl (by decide) (fun _ => rfl)
def ty79 : Ty := ⟨.func, 1, 8, [.func], [.sc .nilFunc]⟩
theorem ty79_ok : TyOk Try.prog 79 ty79 := tyOk_of (z := .nilFunc) (⟨_, _, _, (by kernel_rfl : Try.prog.underlying 79 = some (.func #[] #[22] false))⟩) (by kernel_rfl) (.cons (.sc _ rfl) (.nil)) rfl rfl (by decide) (fun _ => rfl)
def ty80 : Ty := ⟨.func, 1, 8, [.func], [.sc .nilFunc]⟩
theorem ty80_ok : TyOk Try.prog 80 ty80 := tyOk_of (z := .nilFunc) (⟨_, _, _, (by kernel_rfl : Try.prog.underlying 80 = some (.func #[] #[22, 4] false))⟩) (by kernel_rfl) (.cons (.sc _ rfl) (.nil)) rfl rfl (by decide) (fun _ => rfl)
def ty81 : Ty := ⟨.func, 1, 8, [.func], [.sc .nilFunc]⟩
theorem ty81_ok : TyOk Try.prog 81 ty81 := tyOk_of (z := .nilFunc) (⟨_, _, _, (by kernel_rfl : Try.prog.underlying 81 = some (.func #[9] #[22] false))⟩) (by kernel_rfl) (.cons (.sc _ rfl) (.nil)) rfl rfl (by decide) (fun _ => rfl)
def ty82 : Ty := ⟨.func, 1, 8, [.func], [.sc .nilFunc]⟩
theorem ty82_ok : TyOk Try.prog 82 ty82 := tyOk_of (z := .nilFunc) (⟨_, _, _, (by kernel_rfl : Try.prog.underlying 82 = some (.func #[9, 81] #[22] false))⟩) (by kernel_rfl) (.cons (.sc _ rfl) (.nil)) rfl rfl (by decide) (fun _ => rfl)
def ty83 : Ty := ⟨.func, 1, 8, [.func], [.sc .nilFunc]⟩
theorem ty83_ok : TyOk Try.prog 83 ty83 := tyOk_of (z := .nilFunc) (⟨_, _, _, (by kernel_rfl : Try.prog.underlying 83 = some (.func #[39, 84] #[3] false))⟩) (by kernel_rfl) (.cons (.sc _ rfl) (.nil)) rfl rfl (by decide) (fun _ => rfl)
def ty84 : Ty := ⟨.func, 1, 8, [.func], [.sc .nilFunc]⟩
theorem ty84_ok : TyOk Try.prog 84 ty84 := tyOk_of (z := .nilFunc) (⟨_, _, _, (by kernel_rfl : Try.prog.underlying 84 = some (.func #[47] #[4] false))⟩) (by kernel_rfl) (.cons (.sc _ rfl) (.nil)) rfl rfl (by decide) (fun _ => rfl)
def ty85 : Ty := ⟨.func, 1, 8, [.func], [.sc .nilFunc]⟩
theorem ty85_ok : TyOk Try.prog 85 ty85 := tyOk_of (z := .nilFunc) (⟨_, _, _, (by kernel_rfl : Try.prog.underlying 85 = some (.func #[51, 3] #[3] false))⟩) (by kernel_rfl) (.cons (.sc _ rfl) (.nil)) rfl rfl (by decide) (fun _ => rfl)
def ty86 : Ty := ⟨.func, 1, 8, [.func], [.sc .nilFunc]⟩
theorem ty86_ok : TyOk Try.prog 86 ty86 := tyOk_of (z := .nilFunc) (⟨_, _, _, (by kernel_rfl : Try.prog.underlying 86 = some (.func #[88] #[22] false))⟩) (by kernel_rfl) (.cons (.sc _ rfl) (.nil)) rfl rfl (by decide) (fun _ => rfl)
def ty87 : Ty := ⟨.struct [(0, 22), (1, 51)], 2, 48, [.slice 9, .slice 22], [.lst true 1 [], .lst true 1 []]⟩
theorem ty87_ok : TyOk Try.prog 87 ty87 := tyOk_of (z := .agg #[(.slice none 0 0), (.slice none 0 0)]) (kd_struct (by kernel_rfl) (by kernel_rfl) (by kernel_rfl)) (by kernel_rfl) (.cons (.nil _) (.cons (.nil _) (.nil))) rfl rfl (by decide) (fun h => by simp [Ty.isAgg, ty87] at h)
def ty88 : Ty := ⟨.struct [(0, 22), (1, 51)], 2, 48, [.slice 9, .slice 22], [.lst true 1 [], .lst true 1 []]⟩
theorem ty88_ok : TyOk Try.prog 88 ty88 := tyOk_of (z := .agg #[(.slice none 0 0), (.slice none 0 0)]) (kd_struct (by kernel_rfl) (by kernel_rfl) (by kernel_rfl)) (by kernel_rfl) (.cons (.nil _) (.cons (.nil _) (.nil))) rfl rfl (by decide) (fun h => by simp [Ty.isAgg, ty88] at h)
def ty89 : Ty := ⟨.func, 1, 8, [.func], [.sc .nilFunc]⟩
theorem ty89_ok : TyOk Try.prog 89 ty89 := tyOk_of (z := .nilFunc) (⟨_, _, _, (by kernel_rfl : Try.prog.underlying 89 = some (.func #[56] #[88] false))⟩) (by kernel_rfl) (.cons (.sc _ rfl) (.nil)) rfl rfl (by decide) (fun _ => rfl)
def ty90 : Ty := ⟨.func, 1, 8, [.func], [.sc .nilFunc]⟩
theorem ty90_ok : TyOk Try.prog 90 ty90 := tyOk_of (z := .nilFunc) (⟨_, _, _, (by kernel_rfl : Try.prog.underlying 90 = some (.func #[51] #[51] false))⟩) (by kernel_rfl) (.cons (.sc _ rfl) (.nil)) rfl rfl (by decide) (fun _ => rfl)
def ty91 : Ty := ⟨.func, 1, 8, [.func], [.sc .nilFunc]⟩
theorem ty91_ok : TyOk Try.prog 91 ty91 := tyOk_of (z := .nilFunc) (⟨_, _, _, (by kernel_rfl : Try.prog.underlying 91 = some (.func #[] #[77] false))⟩) (by kernel_rfl) (.cons (.sc _ rfl) (.nil)) rfl rfl (by decide) (fun _ => rfl)
def ty92 : Ty := ⟨.func, 1, 8, [.func], [.sc .nilFunc]⟩
theorem ty92_ok : TyOk Try.prog 92 ty92 := tyOk_of (z := .nilFunc) (⟨_, _, _, (by kernel_rfl : Try.prog.underlying 92 = some (.func #[51, 51] #[4] false))⟩) (by kernel_rfl) (.cons (.sc _ rfl) (.nil)) rfl rfl (by decide) (fun _ => rfl)
def ty93 : Ty := ⟨.func, 1, 8, [.func], [.sc .nilFunc]⟩
theorem ty93_ok : TyOk Try.prog 93 ty93 := tyOk_of (z := .nilFunc) (⟨_, _, _, (by kernel_rfl : Try.prog.underlying 93 = some (.func #[3] #[9] false))⟩) (by kernel_rfl) (.cons (.sc _ rfl) (.nil)) rfl rfl (by decide) (fun _ => rfl)
def ty94 : Ty := ⟨.func, 1, 8, [.func], [.sc .nilFunc]⟩
theorem ty94_ok : TyOk Try.prog 94 ty94 := tyOk_of (z := .nilFunc) (⟨_, _, _, (by kernel_rfl : Try.prog.underlying 94 = some (.func #[98, 3] #[3] false))⟩) (by kernel_rfl) (.cons (.sc _ rfl) (.nil)) rfl rfl (by decide) (fun _ => rfl)
def ty95 : Ty := ⟨.slice 138, 1, 24, [.slice 138], [.lst true 2 []]⟩
theorem ty95_ok : TyOk Try.prog 95 ty95 := tyOk_of (z := .slice none 0 0) ((by kernel_rfl : Try.prog.underlying 95 = some (.slice 138))) (by kernel_rfl) (.cons (.nil _) (.nil)) rfl rfl (by decide) (fun _ => rfl)
def ty96 : Ty := ⟨.slice 140, 1, 24, [.slice 140], [.lst true 2 []]⟩
theorem ty96_ok : TyOk Try.prog 96 ty96 := tyOk_of (z := .slice none 0 0) ((by kernel_rfl : Try.prog.underlying 96 = some (.slice 140))) (by kernel_rfl) (.cons (.nil _) (.nil)) rfl rfl (by decide) (fun _ => rfl)
def ty97 : Ty := ⟨.struct [(0, 9), (1, 22), (2, 95), (3, 96)], 4, 88, [.str, .slice 9, .slice 138, .slice 140], [.sc (.string ⟨#[]⟩), .lst true 1 [], .lst true 2 [], .lst true 2 []]⟩
theorem ty97_ok : TyOk Try.prog 97 ty97 := tyOk_of (z := .agg #[(.string ⟨#[]⟩), (.slice none 0 0), (.slice none 0 0), (.slice none 0 0)]) (kd_struct (by kernel_rfl) (by kernel_rfl) (by kernel_rfl)) (by kernel_rfl) (.cons (.sc _ rfl) (.cons (.nil _) (.cons (.nil _) (.cons (.nil _) (.nil))))) rfl rfl (by decide) (fun h => by simp [Ty.isAgg, ty97] at h)
def ty98 : Ty := ⟨.struct [(0, 9), (1, 22), (2, 95), (3, 96)], 4, 88, [.str, .slice 9, .slice 138, .slice 140], [.sc (.string ⟨#[]⟩), .lst true 1 [], .lst true 2 [], .lst true 2 []]⟩
theorem ty98_ok : TyOk Try.prog 98 ty98 := tyOk_of (z := .agg #[(.string ⟨#[]⟩), (.slice none 0 0), (.slice none 0 0), (.slice none 0 0)]) (kd_struct (by kernel_rfl) (by kernel_rfl) (by kernel_rfl)) (by kernel_rfl) (.cons (.sc _ rfl) (.cons (.nil _) (.cons (.nil _) (.cons (.nil _) (.nil))))) rfl rfl (by decide) (fun h => by simp [Ty.isAgg, ty98] at h)
def ty99 : Ty := ⟨.func, 1, 8, [.func], [.sc .nilFunc]⟩
theorem ty99_ok : TyOk Try.prog 99 ty99 := tyOk_of (z := .nilFunc) (⟨_, _, _, (by kernel_rfl : Try.prog.underlying 99 = some (.func #[39] #[88] false))⟩) (by kernel_rfl) (.cons (.sc _ rfl) (.nil)) rfl rfl (by decide) (fun _ => rfl)
def ty100 : Ty := ⟨.func, 1, 8, [.func], [.sc .nilFunc]⟩
theorem ty100_ok : TyOk Try.prog 100 ty100 := tyOk_of (z := .nilFunc) (⟨_, _, _, (by kernel_rfl : Try.prog.underlying 100 = some (.func #[98] #[47] false))⟩) (by kernel_rfl) (.cons (.sc _ rfl) (.nil)) rfl rfl (by decide) (fun _ => rfl)
def ty101 : Ty := ⟨.func, 1, 8, [.func], [.sc .nilFunc]⟩
theorem ty101_ok : TyOk Try.prog 101 ty101 := tyOk_of (z := .nilFunc) (⟨_, _, _, (by kernel_rfl : Try.prog.underlying 101 = some (.func #[47, 47] #[4] false))⟩) (by kernel_rfl) (.cons (.sc _ rfl) (.nil)) rfl rfl (by decide) (fun _ => rfl)
def ty102 : Ty := ⟨.func, 1, 8, [.func], [.sc .nilFunc]⟩
theorem ty102_ok : TyOk Try.prog 102 ty102 := tyOk_of (z := .nilFunc) (⟨_, _, _, (by kernel_rfl : Try.prog.underlying 102 = some (.func #[44, 3] #[3] false))⟩) (by kernel_rfl) (.cons (.sc _ rfl) (.nil)) rfl rfl (by decide) (fun _ => rfl)
def ty103 : Ty := ⟨.func, 1, 8, [.func], [.sc .nilFunc]⟩
theorem ty103_ok : TyOk Try.prog 103 ty103 := tyOk_of (z := .nilFunc) (⟨_, _, _, (by kernel_rfl : Try.prog.underlying 103 = some (.func #[45, 3] #[3] false))⟩) (by kernel_rfl) (.cons (.sc _ rfl) (.nil)) rfl rfl (by decide) (fun _ => rfl)
def ty104 : Ty := ⟨.func, 1, 8, [.func], [.sc .nilFunc]⟩
theorem ty104_ok : TyOk Try.prog 104 ty104 := tyOk_of (z := .nilFunc) (⟨_, _, _, (by kernel_rfl : Try.prog.underlying 104 = some (.func #[9] #[28] false))⟩) (by kernel_rfl) (.cons (.sc _ rfl) (.nil)) rfl rfl (by decide) (fun _ => rfl)
def ty105 : Ty := ⟨.struct [(0, 37), (1, 3), (2, 3)], 3, 40, [.slice 5, .int .i64, .int .i64], [.lst true 1 [], .sc (.int .i64 0), .sc (.int .i64 0)]⟩
theorem ty105_ok : TyOk Try.prog 105 ty105 := tyOk_of (z := .agg #[(.slice none 0 0), (.int .i64 0), (.int .i64 0)]) (kd_struct (by kernel_rfl) (by kernel_rfl) (by kernel_rfl)) (by kernel_rfl) (.cons (.nil _) (.cons (.sc _ rfl) (.cons (.sc _ rfl) (.nil)))) rfl rfl (by decide) (fun h => by simp [Ty.isAgg, ty105] at h)
def ty106 : Ty := ⟨.struct [(0, 37), (1, 3), (2, 3)], 3, 40, [.slice 5, .int .i64, .int .i64], [.lst true 1 [], .sc (.int .i64 0), .sc (.int .i64 0)]⟩
theorem ty106_ok : TyOk Try.prog 106 ty106 := tyOk_of (z := .agg #[(.slice none 0 0), (.int .i64 0), (.int .i64 0)]) (kd_struct (by kernel_rfl) (by kernel_rfl) (by kernel_rfl)) (by kernel_rfl) (.cons (.nil _) (.cons (.sc _ rfl) (.cons (.sc _ rfl) (.nil)))) rfl rfl (by decide) (fun h => by simp [Ty.isAgg, ty106] at h)
def ty107 : Ty := ⟨.func, 1, 8, [.func], [.sc .nilFunc]⟩
theorem ty107_ok : TyOk Try.prog 107 ty107 := tyOk_of (z := .nilFunc) (⟨_, _, _, (by kernel_rfl : Try.prog.underlying 107 = some (.func #[73, 3] #[3] false))⟩) (by kernel_rfl) (.cons (.sc _ rfl) (.nil)) rfl rfl (by decide) (fun _ => rfl)
def ty108 : Ty := ⟨.func, 1, 8, [.func], [.sc .nilFunc]⟩
theorem ty108_ok : TyOk Try.prog 108 ty108 := tyOk_of (z := .nilFunc) (⟨_, _, _, (by kernel_rfl : Try.prog.underlying 108 = some (.func #[73, 9] #[47] false))⟩) (by kernel_rfl) (.cons (.sc _ rfl) (.nil)) rfl rfl (by decide) (fun _ => rfl)
def ty109 : Ty := ⟨.struct [(0, 22), (1, 51)], 2, 48, [.slice 9, .slice 22], [.lst true 1 [], .lst true 1 []]⟩
theorem ty109_ok : TyOk Try.prog 109 ty109 := tyOk_of (z := .agg #[(.slice none 0 0), (.slice none 0 0)]) (kd_struct (by kernel_rfl) (by kernel_rfl) (by kernel_rfl)) (by kernel_rfl) (.cons (.nil _) (.cons (.nil _) (.nil))) rfl rfl (by decide) (fun h => by simp [Ty.isAgg, ty109] at h)
def ty110 : Ty := ⟨.struct [(0, 22), (1, 51)], 2, 48, [.slice 9, .slice 22], [.lst true 1 [], .lst true 1 []]⟩
theorem ty110_ok : TyOk Try.prog 110 ty110 := tyOk_of (z := .agg #[(.slice none 0 0), (.slice none 0 0)]) (kd_struct (by kernel_rfl) (by kernel_rfl) (by kernel_rfl)) (by kernel_rfl) (.cons (.nil _) (.cons (.nil _) (.nil))) rfl rfl (by decide) (fun h => by simp [Ty.isAgg, ty110] at h)
def ty111 : Ty := ⟨.func, 1, 8, [.func], [.sc .nilFunc]⟩
theorem ty111_ok : TyOk Try.prog 111 ty111 := tyOk_of (z := .nilFunc) (⟨_, _, _, (by kernel_rfl : Try.prog.underlying 111 = some (.func #[9, 9] #[22] false))⟩) (by kernel_rfl) (.cons (.sc _ rfl) (.nil)) rfl rfl (by decide) (fun _ => rfl)
def ty112 : Ty := ⟨.func, 1, 8, [.func], [.sc .nilFunc]⟩
theorem ty112_ok : TyOk Try.prog 112 ty112 := tyOk_of (z := .nilFunc) (⟨_, _, _, (by kernel_rfl : Try.prog.underlying 112 = some (.func #[22, 114] #[3] false))⟩) (by kernel_rfl) (.cons (.sc _ rfl) (.nil)) rfl rfl (by decide) (fun _ => rfl)
def ty113 : Ty := ⟨.func, 1, 8, [.func], [.sc .nilFunc]⟩
theorem ty113_ok : TyOk Try.prog 113 ty113 := tyOk_of (z := .nilFunc) (⟨_, _, _, (by kernel_rfl : Try.prog.underlying 113 = some (.func #[9, 22] #[4] false))⟩) (by kernel_rfl) (.cons (.sc _ rfl) (.nil)) rfl rfl (by decide) (fun _ => rfl)
def ty114 : Ty := ⟨.func, 1, 8, [.func], [.sc .nilFunc]⟩
theorem ty114_ok : TyOk Try.prog 114 ty114 := tyOk_of (z := .nilFunc) (⟨_, _, _, (by kernel_rfl : Try.prog.underlying 114 = some (.func #[9] #[4] false))⟩) (by kernel_rfl) (.cons (.sc _ rfl) (.nil)) rfl rfl (by decide) (fun _ => rfl)
def ty115 : Ty := ⟨.func, 1, 8, [.func], [.sc .nilFunc]⟩
theorem ty115_ok : TyOk Try.prog 115 ty115 := tyOk_of (z := .nilFunc) (⟨_, _, _, (by kernel_rfl : Try.prog.underlying 115 = some (.func #[22] #[] false))⟩) (by kernel_rfl) (.cons (.sc _ rfl) (.nil)) rfl rfl (by decide) (fun _ => rfl)
def ty116 : Ty := ⟨.func, 1, 8, [.func], [.sc .nilFunc]⟩
theorem ty116_ok : TyOk Try.prog 116 ty116 := tyOk_of (z := .nilFunc) (⟨_, _, _, (by kernel_rfl : Try.prog.underlying 116 = some (.func #[22, 9] #[3] false))⟩) (by kernel_rfl) (.cons (.sc _ rfl) (.nil)) rfl rfl (by decide) (fun _ => rfl)
def ty117 : Ty := ⟨.func, 1, 8, [.func], [.sc .nilFunc]⟩
theorem ty117_ok : TyOk Try.prog 117 ty117 := tyOk_of (z := .nilFunc) (⟨_, _, _, (by kernel_rfl : Try.prog.underlying 117 = some (.func #[88, 9] #[22] false))⟩) (by kernel_rfl) (.cons (.sc _ rfl) (.nil)) rfl rfl (by decide) (fun _ => rfl)
def ty118 : Ty := ⟨.ptr 56, 1, 8, [.ptr 56], [.sc (.pointer none)]⟩
theorem ty118_ok : TyOk Try.prog 118 ty118 := tyOk_of (z := .pointer none) ((by kernel_rfl : Try.prog.underlying 118 = some (.pointer 56))) (by kernel_rfl) (.cons (.sc _ rfl) (.nil)) rfl rfl (by decide) (fun _ => rfl)
def ty119 : Ty := ⟨.func, 1, 8, [.func], [.sc .nilFunc]⟩
theorem ty119_ok : TyOk Try.prog 119 ty119 := tyOk_of (z := .nilFunc) (⟨_, _, _, (by kernel_rfl : Try.prog.underlying 119 = some (.func #[95, 3] #[3] false))⟩) (by kernel_rfl) (.cons (.sc _ rfl) (.nil)) rfl rfl (by decide) (fun _ => rfl)
def ty120 : Ty := ⟨.func, 1, 8, [.func], [.sc .nilFunc]⟩
theorem ty120_ok : TyOk Try.prog 120 ty120 := tyOk_of (z := .nilFunc) (⟨_, _, _, (by kernel_rfl : Try.prog.underlying 120 = some (.func #[96, 3] #[3] false))⟩) (by kernel_rfl) (.cons (.sc _ rfl) (.nil)) rfl rfl (by decide) (fun _ => rfl)
def ty121 : Ty := ⟨.func, 1, 8, [.func], [.sc .nilFunc]⟩
theorem ty121_ok : TyOk Try.prog 121 ty121 := tyOk_of (z := .nilFunc) (⟨_, _, _, (by kernel_rfl : Try.prog.underlying 121 = some (.func #[95] #[44] false))⟩) (by kernel_rfl) (.cons (.sc _ rfl) (.nil)) rfl rfl (by decide) (fun _ => rfl)
def ty122 : Ty := ⟨.func, 1, 8, [.func], [.sc .nilFunc]⟩
theorem ty122_ok : TyOk Try.prog 122 ty122 := tyOk_of (z := .nilFunc) (⟨_, _, _, (by kernel_rfl : Try.prog.underlying 122 = some (.func #[96] #[45] false))⟩) (by kernel_rfl) (.cons (.sc _ rfl) (.nil)) rfl rfl (by decide) (fun _ => rfl)
def ty123 : Ty := ⟨.func, 1, 8, [.func], [.sc .nilFunc]⟩
theorem ty123_ok : TyOk Try.prog 123 ty123 := tyOk_of (z := .nilFunc) (⟨_, _, _, (by kernel_rfl : Try.prog.underlying 123 = some (.func #[44, 44] #[4] false))⟩) (by kernel_rfl) (.cons (.sc _ rfl) (.nil)) rfl rfl (by decide) (fun _ => rfl)
def ty124 : Ty := ⟨.func, 1, 8, [.func], [.sc .nilFunc]⟩
theorem ty124_ok : TyOk Try.prog 124 ty124 := tyOk_of (z := .nilFunc) (⟨_, _, _, (by kernel_rfl : Try.prog.underlying 124 = some (.func #[45, 45] #[4] false))⟩) (by kernel_rfl) (.cons (.sc _ rfl) (.nil)) rfl rfl (by decide) (fun _ => rfl)
def ty125 : Ty := ⟨.struct [(0, 9), (1, 9)], 2, 32, [.str, .str], [.sc (.string ⟨#[]⟩), .sc (.string ⟨#[]⟩)]⟩
theorem ty125_ok : TyOk Try.prog 125 ty125 := tyOk_of (z := .agg #[(.string ⟨#[]⟩), (.string ⟨#[]⟩)]) (kd_struct (by kernel_rfl) (by kernel_rfl) (by kernel_rfl)) (by kernel_rfl) (.cons (.sc _ rfl) (.cons (.sc _ rfl) (.nil))) rfl rfl (by decide) (fun h => by simp [Ty.isAgg, ty125] at h)
def ty126 : Ty := ⟨.struct [(0, 9), (1, 9)], 2, 32, [.str, .str], [.sc (.string ⟨#[]⟩), .sc (.string ⟨#[]⟩)]⟩
theorem ty126_ok : TyOk Try.prog 126 ty126 := tyOk_of (z := .agg #[(.string ⟨#[]⟩), (.string ⟨#[]⟩)]) (kd_struct (by kernel_rfl) (by kernel_rfl) (by kernel_rfl)) (by kernel_rfl) (.cons (.sc _ rfl) (.cons (.sc _ rfl) (.nil))) rfl rfl (by decide) (fun h => by simp [Ty.isAgg, ty126] at h)
def ty127 : Ty := ⟨.struct [(0, 9), (1, 22)], 2, 40, [.str, .slice 9], [.sc (.string ⟨#[]⟩), .lst true 1 []]⟩
theorem ty127_ok : TyOk Try.prog 127 ty127 := tyOk_of (z := .agg #[(.string ⟨#[]⟩), (.slice none 0 0)]) (kd_struct (by kernel_rfl) (by kernel_rfl) (by kernel_rfl)) (by kernel_rfl) (.cons (.sc _ rfl) (.cons (.nil _) (.nil))) rfl rfl (by decide) (fun h => by simp [Ty.isAgg, ty127] at h)
def ty128 : Ty := ⟨.struct [(0, 9), (1, 22)], 2, 40, [.str, .slice 9], [.sc (.string ⟨#[]⟩), .lst true 1 []]⟩
theorem ty128_ok : TyOk Try.prog 128 ty128 := tyOk_of (z := .agg #[(.string ⟨#[]⟩), (.slice none 0 0)]) (kd_struct (by kernel_rfl) (by kernel_rfl) (by kernel_rfl)) (by kernel_rfl) (.cons (.sc _ rfl) (.cons (.nil _) (.nil))) rfl rfl (by decide) (fun h => by simp [Ty.isAgg, ty128] at h)
def ty129 : Ty := ⟨.func, 1, 8, [.func], [.sc .nilFunc]⟩
theorem ty129_ok : TyOk Try.prog 129 ty129 := tyOk_of (z := .nilFunc) (⟨_, _, _, (by kernel_rfl : Try.prog.underlying 129 = some (.func #[73] #[3] false))⟩) (by kernel_rfl) (.cons (.sc _ rfl) (.nil)) rfl rfl (by decide) (fun _ => rfl)
def ty130 : Ty := ⟨.func, 1, 8, [.func], [.sc .nilFunc]⟩
theorem ty130_ok : TyOk Try.prog 130 ty130 := tyOk_of (z := .nilFunc) (⟨_, _, _, (by kernel_rfl : Try.prog.underlying 130 = some (.func #[73] #[44] false))⟩) (by kernel_rfl) (.cons (.sc _ rfl) (.nil)) rfl rfl (by decide) (fun _ => rfl)
def ty131 : Ty := ⟨.func, 1, 8, [.func], [.sc .nilFunc]⟩
theorem ty131_ok : TyOk Try.prog 131 ty131 := tyOk_of (z := .nilFunc) (⟨_, _, _, (by kernel_rfl : Try.prog.underlying 131 = some (.func #[73, 9, 9] #[128] false))⟩) (by kernel_rfl) (.cons (.sc _ rfl) (.nil)) rfl rfl (by decide) (fun _ => rfl)
def ty132 : Ty := ⟨.map 9 3, 1, 8, [.map 9 3], [.sc (.map none)]⟩
theorem ty132_ok : TyOk Try.prog 132 ty132 := tyOk_of (z := .map none) ((by kernel_rfl : Try.prog.underlying 132 = some (.map 9 3))) (by kernel_rfl) (.cons (.sc _ rfl) (.nil)) rfl rfl (by decide) (fun _ => rfl)
def ty133 : Ty := ⟨.func, 1, 8, [.func], [.sc .nilFunc]⟩
theorem ty133_ok : TyOk Try.prog 133 ty133 := tyOk_of (z := .nilFunc) (⟨_, _, _, (by kernel_rfl : Try.prog.underlying 133 = some (.func #[22, 3, 3, 3] #[] false))⟩) (by kernel_rfl) (.cons (.sc _ rfl) (.nil)) rfl rfl (by decide) (fun _ => rfl)
def ty134 : Ty := ⟨.func, 1, 8, [.func], [.sc .nilFunc]⟩
theorem ty134_ok : TyOk Try.prog 134 ty134 := tyOk_of (z := .nilFunc) (⟨_, _, _, (by kernel_rfl : Try.prog.underlying 134 = some (.func #[135] #[3] false))⟩) (by kernel_rfl) (.cons (.sc _ rfl) (.nil)) rfl rfl (by decide) (fun _ => rfl)
def ty135 : Ty := ⟨.int .u64, 1, 8, [.int .u64], [.sc (.int .u64 0)]⟩
theorem ty135_ok : TyOk Try.prog 135 ty135 := tyOk_of (z := .int .u64 0) ((by kernel_rfl : Try.prog.underlying 135 = some (.int .u64))) (by kernel_rfl) (.cons (.sc _ rfl) (.nil)) rfl rfl (by decide) (fun _ => rfl)
def ty136 : Ty := ⟨.func, 1, 8, [.func], [.sc .nilFunc]⟩
theorem ty136_ok : TyOk Try.prog 136 ty136 := tyOk_of (z := .nilFunc) (⟨_, _, _, (by kernel_rfl : Try.prog.underlying 136 = some (.func #[88, 22] #[22] false))⟩) (by kernel_rfl) (.cons (.sc _ rfl) (.nil)) rfl rfl (by decide) (fun _ => rfl)
def ty137 : Ty := ⟨.func, 1, 8, [.func], [.sc .nilFunc]⟩
theorem ty137_ok : TyOk Try.prog 137 ty137 := tyOk_of (z := .nilFunc) (⟨_, _, _, (by kernel_rfl : Try.prog.underlying 137 = some (.func #[138, 3] #[3] false))⟩) (by kernel_rfl) (.cons (.sc _ rfl) (.nil)) rfl rfl (by decide) (fun _ => rfl)
def ty138 : Ty := ⟨.struct [(0, 9), (1, 9)], 2, 32, [.str, .str], [.sc (.string ⟨#[]⟩), .sc (.string ⟨#[]⟩)]⟩
theorem ty138_ok : TyOk Try.prog 138 ty138 := tyOk_of (z := .agg #[(.string ⟨#[]⟩), (.string ⟨#[]⟩)]) (kd_struct (by kernel_rfl) (by kernel_rfl) (by kernel_rfl)) (by kernel_rfl) (.cons (.sc _ rfl) (.cons (.sc _ rfl) (.nil))) rfl rfl (by decide) (fun h => by simp [Ty.isAgg, ty138] at h)
def ty139 : Ty := ⟨.func, 1, 8, [.func], [.sc .nilFunc]⟩
theorem ty139_ok : TyOk Try.prog 139 ty139 := tyOk_of (z := .nilFunc) (⟨_, _, _, (by kernel_rfl : Try.prog.underlying 139 = some (.func #[140, 3] #[3] false))⟩) (by kernel_rfl) (.cons (.sc _ rfl) (.nil)) rfl rfl (by decide) (fun _ => rfl)
def ty140 : Ty := ⟨.struct [(0, 9), (1, 22)], 2, 40, [.str, .slice 9], [.sc (.string ⟨#[]⟩), .lst true 1 []]⟩
theorem ty140_ok : TyOk Try.prog 140 ty140 := tyOk_of (z := .agg #[(.string ⟨#[]⟩), (.slice none 0 0)]) (kd_struct (by kernel_rfl) (by kernel_rfl) (by kernel_rfl)) (by kernel_rfl) (.cons (.sc _ rfl) (.cons (.nil _) (.nil))) rfl rfl (by decide) (fun h => by simp [Ty.isAgg, ty140] at h)
def ty141 : Ty := ⟨.func, 1, 8, [.func], [.sc .nilFunc]⟩
theorem ty141_ok : TyOk Try.prog 141 ty141 := tyOk_of (z := .nilFunc) (⟨_, _, _, (by kernel_rfl : Try.prog.underlying 141 = some (.func #[138] #[126] false))⟩) (by kernel_rfl) (.cons (.sc _ rfl) (.nil)) rfl rfl (by decide) (fun _ => rfl)
def ty142 : Ty := ⟨.func, 1, 8, [.func], [.sc .nilFunc]⟩
theorem ty142_ok : TyOk Try.prog 142 ty142 := tyOk_of (z := .nilFunc) (⟨_, _, _, (by kernel_rfl : Try.prog.underlying 142 = some (.func #[140] #[128] false))⟩) (by kernel_rfl) (.cons (.sc _ rfl) (.nil)) rfl rfl (by decide) (fun _ => rfl)
def ty143 : Ty := ⟨.func, 1, 8, [.func], [.sc .nilFunc]⟩
theorem ty143_ok : TyOk Try.prog 143 ty143 := tyOk_of (z := .nilFunc) (⟨_, _, _, (by kernel_rfl : Try.prog.underlying 143 = some (.func #[126, 126] #[4] false))⟩) (by kernel_rfl) (.cons (.sc _ rfl) (.nil)) rfl rfl (by decide) (fun _ => rfl)
def ty144 : Ty := ⟨.func, 1, 8, [.func], [.sc .nilFunc]⟩
theorem ty144_ok : TyOk Try.prog 144 ty144 := tyOk_of (z := .nilFunc) (⟨_, _, _, (by kernel_rfl : Try.prog.underlying 144 = some (.func #[128, 128] #[4] false))⟩) (by kernel_rfl) (.cons (.sc _ rfl) (.nil)) rfl rfl (by decide) (fun _ => rfl)
def ty145 : Ty := ⟨.func, 1, 8, [.func], [.sc .nilFunc]⟩
theorem ty145_ok : TyOk Try.prog 145 ty145 := tyOk_of (z := .nilFunc) (⟨_, _, _, (by kernel_rfl : Try.prog.underlying 145 = some (.func #[73] #[126] false))⟩) (by kernel_rfl) (.cons (.sc _ rfl) (.nil)) rfl rfl (by decide) (fun _ => rfl)
def ty146 : Ty := ⟨.func, 1, 8, [.func], [.sc .nilFunc]⟩
theorem ty146_ok : TyOk Try.prog 146 ty146 := tyOk_of (z := .nilFunc) (⟨_, _, _, (by kernel_rfl : Try.prog.underlying 146 = some (.func #[73, 22] #[9] false))⟩) (by kernel_rfl) (.cons (.sc _ rfl) (.nil)) rfl rfl (by decide) (fun _ => rfl)
def ty147 : Ty := ⟨.func, 1, 8, [.func], [.sc .nilFunc]⟩
theorem ty147_ok : TyOk Try.prog 147 ty147 := tyOk_of (z := .nilFunc) (⟨_, _, _, (by kernel_rfl : Try.prog.underlying 147 = some (.func #[73, 9] #[9] false))⟩) (by kernel_rfl) (.cons (.sc _ rfl) (.nil)) rfl rfl (by decide) (fun _ => rfl)
def ty148 : Ty := ⟨.func, 1, 8, [.func], [.sc .nilFunc]⟩
theorem ty148_ok : TyOk Try.prog 148 ty148 := tyOk_of (z := .nilFunc) (⟨_, _, _, (by kernel_rfl : Try.prog.underlying 148 = some (.func #[22, 3, 3] #[] false))⟩) (by kernel_rfl) (.cons (.sc _ rfl) (.nil)) rfl rfl (by decide) (fun _ => rfl)
def ty149 : Ty := ⟨.int .i64, 1, 8, [.int .i64], [.sc (.int .i64 0)]⟩
theorem ty149_ok : TyOk Try.prog 149 ty149 := tyOk_of (z := .int .i64 0) ((by kernel_rfl : Try.prog.underlying 149 = some (.int .i64))) (by kernel_rfl) (.cons (.sc _ rfl) (.nil)) rfl rfl (by decide) (fun _ => rfl)
def ty151 : Ty := ⟨.func, 1, 8, [.func], [.sc .nilFunc]⟩
theorem ty151_ok : TyOk Try.prog 151 ty151 := tyOk_of (z := .nilFunc) (⟨_, _, _, (by kernel_rfl : Try.prog.underlying 151 = some (.func #[22, 3, 3] #[3, 149] false))⟩) (by kernel_rfl) (.cons (.sc _ rfl) (.nil)) rfl rfl (by decide) (fun _ => rfl)
def ty152 : Ty := ⟨.func, 1, 8, [.func], [.sc .nilFunc]⟩
theorem ty152_ok : TyOk Try.prog 152 ty152 := tyOk_of (z := .nilFunc) (⟨_, _, _, (by kernel_rfl : Try.prog.underlying 152 = some (.func #[22, 3, 3] #[4] false))⟩) (by kernel_rfl) (.cons (.sc _ rfl) (.nil)) rfl rfl (by decide) (fun _ => rfl)
def ty153 : Ty := ⟨.func, 1, 8, [.func], [.sc .nilFunc]⟩
theorem ty153_ok : TyOk Try.prog 153 ty153 := tyOk_of (z := .nilFunc) (⟨_, _, _, (by kernel_rfl : Try.prog.underlying 153 = some (.func #[9, 9] #[4] false))⟩) (by kernel_rfl) (.cons (.sc _ rfl) (.nil)) rfl rfl (by decide) (fun _ => rfl)
def ty154 : Ty := ⟨.func, 1, 8, [.func], [.sc .nilFunc]⟩
theorem ty154_ok : TyOk Try.prog 154 ty154 := tyOk_of (z := .nilFunc) (⟨_, _, _, (by kernel_rfl : Try.prog.underlying 154 = some (.func #[22, 3, 3, 3] #[3] false))⟩) (by kernel_rfl) (.cons (.sc _ rfl) (.nil)) rfl rfl (by decide) (fun _ => rfl)
def ty156 : Ty := ⟨.func, 1, 8, [.func], [.sc .nilFunc]⟩
theorem ty156_ok : TyOk Try.prog 156 ty156 := tyOk_of (z := .nilFunc) (⟨_, _, _, (by kernel_rfl : Try.prog.underlying 156 = some (.func #[22, 3, 3, 3] #[3, 4] false))⟩) (by kernel_rfl) (.cons (.sc _ rfl) (.nil)) rfl rfl (by decide) (fun _ => rfl)
def ty157 : Ty := ⟨.func, 1, 8, [.func], [.sc .nilFunc]⟩
theorem ty157_ok : TyOk Try.prog 157 ty157 := tyOk_of (z := .nilFunc) (⟨_, _, _, (by kernel_rfl : Try.prog.underlying 157 = some (.func #[158] #[3] false))⟩) (by kernel_rfl) (.cons (.sc _ rfl) (.nil)) rfl rfl (by decide) (fun _ => rfl)
def ty158 : Ty := ⟨.int .u32, 1, 4, [.int .u32], [.sc (.int .u32 0)]⟩
theorem ty158_ok : TyOk Try.prog 158 ty158 := tyOk_of (z := .int .u32 0) ((by kernel_rfl : Try.prog.underlying 158 = some (.int .u32))) (by kernel_rfl) (.cons (.sc _ rfl) (.nil)) rfl rfl (by decide) (fun _ => rfl)
def ty159 : Ty := ⟨.func, 1, 8, [.func], [.sc .nilFunc]⟩
theorem ty159_ok : TyOk Try.prog 159 ty159 := tyOk_of (z := .nilFunc) (⟨_, _, _, (by kernel_rfl : Try.prog.underlying 159 = some (.func #[160] #[3] false))⟩) (by kernel_rfl) (.cons (.sc _ rfl) (.nil)) rfl rfl (by decide) (fun _ => rfl)
def ty160 : Ty := ⟨.int .u64, 1, 8, [.int .u64], [.sc (.int .u64 0)]⟩
theorem ty160_ok : TyOk Try.prog 160 ty160 := tyOk_of (z := .int .u64 0) ((by kernel_rfl : Try.prog.underlying 160 = some (.int .u64))) (by kernel_rfl) (.cons (.sc _ rfl) (.nil)) rfl rfl (by decide) (fun _ => rfl)
def ty161 : Ty := ⟨.func, 1, 8, [.func], [.sc .nilFunc]⟩
theorem ty161_ok : TyOk Try.prog 161 ty161 := tyOk_of (z := .nilFunc) (⟨_, _, _, (by kernel_rfl : Try.prog.underlying 161 = some (.func #[88, 9] #[3] false))⟩) (by kernel_rfl) (.cons (.sc _ rfl) (.nil)) rfl rfl (by decide) (fun _ => rfl)
def ty162 : Ty := ⟨.int .u64, 1, 8, [.int .u64], [.sc (.int .u64 0)]⟩
theorem ty162_ok : TyOk Try.prog 162 ty162 := tyOk_of (z := .int .u64 0) ((by kernel_rfl : Try.prog.underlying 162 = some (.int .u64))) (by kernel_rfl) (.cons (.sc _ rfl) (.nil)) rfl rfl (by decide) (fun _ => rfl)
def ty163 : Ty := ⟨.func, 1, 8, [.func], [.sc .nilFunc]⟩
theorem ty163_ok : TyOk Try.prog 163 ty163 := tyOk_of (z := .nilFunc) (⟨_, _, _, (by kernel_rfl : Try.prog.underlying 163 = some (.func #[3] #[135] false))⟩) (by kernel_rfl) (.cons (.sc _ rfl) (.nil)) rfl rfl (by decide) (fun _ => rfl)
def ty164 : Ty := ⟨.func, 1, 8, [.func], [.sc .nilFunc]⟩
theorem ty164_ok : TyOk Try.prog 164 ty164 := tyOk_of (z := .nilFunc) (⟨_, _, _, (by kernel_rfl : Try.prog.underlying 164 = some (.func #[] #[160] false))⟩) (by kernel_rfl) (.cons (.sc _ rfl) (.nil)) rfl rfl (by decide) (fun _ => rfl)
def ty165 : Ty := ⟨.func, 1, 8, [.func], [.sc .nilFunc]⟩
theorem ty165_ok : TyOk Try.prog 165 ty165 := tyOk_of (z := .nilFunc) (⟨_, _, _, (by kernel_rfl : Try.prog.underlying 165 = some (.func #[22, 3, 166] #[3] false))⟩) (by kernel_rfl) (.cons (.sc _ rfl) (.nil)) rfl rfl (by decide) (fun _ => rfl)
def ty166 : Ty := ⟨.ptr 3, 1, 8, [.ptr 3], [.sc (.pointer none)]⟩
theorem ty166_ok : TyOk Try.prog 166 ty166 := tyOk_of (z := .pointer none) ((by kernel_rfl : Try.prog.underlying 166 = some (.pointer 3))) (by kernel_rfl) (.cons (.sc _ rfl) (.nil)) rfl rfl (by decide) (fun _ => rfl)
def ty167 : Ty := ⟨.func, 1, 8, [.func], [.sc .nilFunc]⟩
theorem ty167_ok : TyOk Try.prog 167 ty167 := tyOk_of (z := .nilFunc) (⟨_, _, _, (by kernel_rfl : Try.prog.underlying 167 = some (.func #[22, 3, 3, 3, 166] #[3] false))⟩) (by kernel_rfl) (.cons (.sc _ rfl) (.nil)) rfl rfl (by decide) (fun _ => rfl)
def ty168 : Ty := ⟨.ptr 162, 1, 8, [.ptr 162], [.sc (.pointer none)]⟩
theorem ty168_ok : TyOk Try.prog 168 ty168 := tyOk_of (z := .pointer none) ((by kernel_rfl : Try.prog.underlying 168 = some (.pointer 162))) (by kernel_rfl) (.cons (.sc _ rfl) (.nil)) rfl rfl (by decide) (fun _ => rfl)
def ty170 : Ty := ⟨.func, 1, 8, [.func], [.sc .nilFunc]⟩
theorem ty170_ok : TyOk Try.prog 170 ty170 := tyOk_of (z := .nilFunc) (⟨_, _, _, (by kernel_rfl : Try.prog.underlying 170 = some (.func #[22, 3, 3, 166] #[3, 3] false))⟩) (by kernel_rfl) (.cons (.sc _ rfl) (.nil)) rfl rfl (by decide) (fun _ => rfl)
def ty171 : Ty := ⟨.func, 1, 8, [.func], [.sc .nilFunc]⟩
theorem ty171_ok : TyOk Try.prog 171 ty171 := tyOk_of (z := .nilFunc) (⟨_, _, _, (by kernel_rfl : Try.prog.underlying 171 = some (.func #[] #[9] false))⟩) (by kernel_rfl) (.cons (.sc _ rfl) (.nil)) rfl rfl (by decide) (fun _ => rfl)
def ty177 : Ty := ⟨.func, 1, 8, [.func], [.sc .nilFunc]⟩
theorem ty177_ok : TyOk Try.prog 177 ty177 := tyOk_of (z := .nilFunc) (⟨_, _, _, (by kernel_rfl : Try.prog.underlying 177 = some (.func #[] #[3] false))⟩) (by kernel_rfl) (.cons (.sc _ rfl) (.nil)) rfl rfl (by decide) (fun _ => rfl)
def ty178 : Ty := ⟨.int .u8, 1, 1, [.int .u8], [.sc (.int .u8 0)]⟩
theorem ty178_ok : TyOk Try.prog 178 ty178 := tyOk_of (z := .int .u8 0) ((by kernel_rfl : Try.prog.underlying 178 = some (.int .u8))) (by kernel_rfl) (.cons (.sc _ rfl) (.nil)) rfl rfl (by decide) (fun _ => rfl)
def ty179 : Ty := ⟨.int .u8, 1, 1, [.int .u8], [.sc (.int .u8 0)]⟩
theorem ty179_ok : TyOk Try.prog 179 ty179 := tyOk_of (z := .int .u8 0) ((by kernel_rfl : Try.prog.underlying 179 = some (.int .u8))) (by kernel_rfl) (.cons (.sc _ rfl) (.nil)) rfl rfl (by decide) (fun _ => rfl)
def ty180 : Ty := ⟨.func, 1, 8, [.func], [.sc .nilFunc]⟩
theorem ty180_ok : TyOk Try.prog 180 ty180 := tyOk_of (z := .nilFunc) (⟨_, _, _, (by kernel_rfl : Try.prog.underlying 180 = some (.func #[187, 187] #[4] false))⟩) (by kernel_rfl) (.cons (.sc _ rfl) (.nil)) rfl rfl (by decide) (fun _ => rfl)
def ty181 : Ty := ⟨.ptr 5, 1, 8, [.ptr 5], [.sc (.pointer none)]⟩
theorem ty181_ok : TyOk Try.prog 181 ty181 := tyOk_of (z := .pointer none) ((by kernel_rfl : Try.prog.underlying 181 = some (.pointer 5))) (by kernel_rfl) (.cons (.sc _ rfl) (.nil)) rfl rfl (by decide) (fun _ => rfl)
def ty182 : Ty := ⟨.int .i32, 1, 4, [.int .i32], [.sc (.int .i32 0)]⟩
theorem ty182_ok : TyOk Try.prog 182 ty182 := tyOk_of (z := .int .i32 0) ((by kernel_rfl : Try.prog.underlying 182 = some (.int .i32))) (by kernel_rfl) (.cons (.sc _ rfl) (.nil)) rfl rfl (by decide) (fun _ => rfl)
def ty183 : Ty := ⟨.int .i32, 1, 4, [.int .i32], [.sc (.int .i32 0)]⟩
theorem ty183_ok : TyOk Try.prog 183 ty183 := tyOk_of (z := .int .i32 0) ((by kernel_rfl : Try.prog.underlying 183 = some (.int .i32))) (by kernel_rfl) (.cons (.sc _ rfl) (.nil)) rfl rfl (by decide) (fun _ => rfl)
def ty186 : Ty := ⟨.func, 1, 8, [.func], [.sc .nilFunc]⟩
theorem ty186_ok : TyOk Try.prog 186 ty186 := tyOk_of (z := .nilFunc) (⟨_, _, _, (by kernel_rfl : Try.prog.underlying 186 = some (.func #[] #[4] false))⟩) (by kernel_rfl) (.cons (.sc _ rfl) (.nil)) rfl rfl (by decide) (fun _ => rfl)
def tyTab : Tab Ty := .node none (.node (some ty1) (.node (some ty3) (.node none (.node (some ty15) (.node (some ty31) (.node (some ty63) (.node (some ty127) (.leaf) (.leaf)) (.leaf)) (.node (some ty95) (.node (some ty159) (.leaf) (.leaf)) (.leaf))) (.node (some ty47) (.node (some ty79) (.node (some ty143) (.leaf) (.leaf)) (.leaf)) (.node (some ty111) (.leaf) (.leaf)))) (.node (some ty23) (.node (some ty39) (.node (some ty71) (.node (some ty135) (.leaf) (.leaf)) (.leaf)) (.node (some ty103) (.node (some ty167) (.leaf) (.leaf)) (.leaf))) (.node (some ty55) (.node (some ty87) (.node (some ty151) (.leaf) (.leaf)) (.leaf)) (.node (some ty119) (.node (some ty183) (.leaf) (.leaf)) (.leaf))))) (.node (some ty11) (.node none (.node (some ty35) (.node (some ty67) (.node (some ty131) (.leaf) (.leaf)) (.leaf)) (.node (some ty99) (.node (some ty163) (.leaf) (.leaf)) (.leaf))) (.node (some ty51) (.node (some ty83) (.node (some ty147) (.leaf) (.leaf)) (.leaf)) (.node (some ty115) (.node (some ty179) (.leaf) (.leaf)) (.leaf)))) (.node (some ty27) (.node (some ty43) (.node (some ty75) (.node (some ty139) (.leaf) (.leaf)) (.leaf)) (.node (some ty107) (.node (some ty171) (.leaf) (.leaf)) (.leaf))) (.node (some ty59) (.node (some ty91) (.leaf) (.leaf)) (.node (some ty123) (.leaf) (.leaf)))))) (.node (some ty5) (.node (some ty9) (.node (some ty17) (.node (some ty33) (.node (some ty65) (.node (some ty129) (.leaf) (.leaf)) (.leaf)) (.node (some ty97) (.node (some ty161) (.leaf) (.leaf)) (.leaf))) (.node (some ty49) (.node (some ty81) (.node (some ty145) (.leaf) (.leaf)) (.leaf)) (.node (some ty113) (.node (some ty177) (.leaf) (.leaf)) (.leaf)))) (.node (some ty25) (.node (some ty41) (.node (some ty73) (.node (some ty137) (.leaf) (.leaf)) (.leaf)) (.node (some ty105) (.leaf) (.leaf))) (.node (some ty57) (.node (some ty89) (.node (some ty153) (.leaf) (.leaf)) (.leaf)) (.node (some ty121) (.leaf) (.leaf))))) (.node none (.node (some ty21) (.node (some ty37) (.node (some ty69) (.node (some ty133) (.leaf) (.leaf)) (.leaf)) (.node (some ty101) (.node (some ty165) (.leaf) (.leaf)) (.leaf))) (.node (some ty53) (.node (some ty85) (.node (some ty149) (.leaf) (.leaf)) (.leaf)) (.node (some ty117) (.node (some ty181) (.leaf) (.leaf)) (.leaf)))) (.node (some ty29) (.node (some ty45) (.node (some ty77) (.node (some ty141) (.leaf) (.leaf)) (.leaf)) (.node (some ty109) (.leaf) (.leaf))) (.node (some ty61) (.node (some ty93) (.node (some ty157) (.leaf) (.leaf)) (.leaf)) (.node (some ty125) (.leaf) (.leaf))))))) (.node (some ty2) (.node (some ty4) (.node none (.node (some ty16) (.node (some ty32) (.node (some ty64) (.node (some ty128) (.leaf) (.leaf)) (.leaf)) (.node (some ty96) (.node (some ty160) (.leaf) (.leaf)) (.leaf))) (.node (some ty48) (.node (some ty80) (.node (some ty144) (.leaf) (.leaf)) (.leaf)) (.node (some ty112) (.leaf) (.leaf)))) (.node (some ty24) (.node (some ty40) (.node (some ty72) (.node (some ty136) (.leaf) (.leaf)) (.leaf)) (.node (some ty104) (.node (some ty168) (.leaf) (.leaf)) (.leaf))) (.node (some ty56) (.node (some ty88) (.node (some ty152) (.leaf) (.leaf)) (.leaf)) (.node (some ty120) (.leaf) (.leaf))))) (.node (some ty12) (.node none (.node (some ty36) (.node (some ty68) (.node (some ty132) (.leaf) (.leaf)) (.leaf)) (.node (some ty100) (.node (some ty164) (.leaf) (.leaf)) (.leaf))) (.node (some ty52) (.node (some ty84) (.node (some ty148) (.leaf) (.leaf)) (.leaf)) (.node (some ty116) (.node (some ty180) (.leaf) (.leaf)) (.leaf)))) (.node (some ty28) (.node (some ty44) (.node (some ty76) (.node (some ty140) (.leaf) (.leaf)) (.leaf)) (.node (some ty108) (.leaf) (.leaf))) (.node (some ty60) (.node (some ty92) (.node (some ty156) (.leaf) (.leaf)) (.leaf)) (.node (some ty124) (.leaf) (.leaf)))))) (.node (some ty6) (.node (some ty10) (.node none (.node (some ty34) (.node (some ty66) (.node (some ty130) (.leaf) (.leaf)) (.leaf)) (.node (some ty98) (.node (some ty162) (.leaf) (.leaf)) (.leaf))) (.node (some ty50) (.node (some ty82) (.node (some ty146) (.leaf) (.leaf)) (.leaf)) (.node (some ty114) (.node (some ty178) (.leaf) (.leaf)) (.leaf)))) (.node (some ty26) (.node none (.node (some ty74) (.node (some ty138) (.leaf) (.leaf)) (.leaf)) (.node (some ty106) (.node (some ty170) (.leaf) (.leaf)) (.leaf))) (.node (some ty58) (.node (some ty90) (.node (some ty154) (.leaf) (.leaf)) (.leaf)) (.node (some ty122) (.node (some ty186) (.leaf) (.leaf)) (.leaf))))) (.node none (.node (some ty22) (.node (some ty38) (.node (some ty70) (.node (some ty134) (.leaf) (.leaf)) (.leaf)) (.node (some ty102) (.node (some ty166) (.leaf) (.leaf)) (.leaf))) (.node (some ty54) (.node (some ty86) (.leaf) (.leaf)) (.node (some ty118) (.node (some ty182) (.leaf) (.leaf)) (.leaf)))) (.node (some ty30) (.node (some ty46) (.node (some ty78) (.node (some ty142) (.leaf) (.leaf)) (.leaf)) (.node (some ty110) (.leaf) (.leaf))) (.node (some ty62) (.node (some ty94) (.node (some ty158) (.leaf) (.leaf)) (.leaf)) (.node (some ty126) (.leaf) (.leaf)))))))
theorem tyTab_ok : tyTab.All (TyOk Try.prog) id := ⟨fun _ h => (nomatch h), ⟨fun _ h => (Option.some.inj h ▸ ty1_ok), ⟨fun _ h => (Option.some.inj h ▸ ty3_ok), ⟨fun _ h => (nomatch h), ⟨fun _ h => (Option.some.inj h ▸ ty15_ok), ⟨fun _ h => (Option.some.inj h ▸ ty31_ok), ⟨fun _ h => (Option.some.inj h ▸ ty63_ok), ⟨fun _ h => (Option.some.inj h ▸ ty127_ok), trivial, trivial⟩, trivial⟩, ⟨fun _ h => (Option.some.inj h ▸ ty95_ok), ⟨fun _ h => (Option.some.inj h ▸ ty159_ok), trivial, trivial⟩, trivial⟩⟩, ⟨fun _ h => (Option.some.inj h ▸ ty47_ok), ⟨fun _ h => (Option.some.inj h ▸ ty79_ok), ⟨fun _ h => (Option.some.inj h ▸ ty143_ok), trivial, trivial⟩, trivial⟩, ⟨fun _ h => (Option.some.inj h ▸ ty111_ok), trivial, trivial⟩⟩⟩, ⟨fun _ h => (Option.some.inj h ▸ ty23_ok), ⟨fun _ h => (Option.some.inj h ▸ ty39_ok), ⟨fun _ h => (Option.some.inj h ▸ ty71_ok), ⟨fun _ h => (Option.some.inj h ▸ ty135_ok), trivial, trivial⟩, trivial⟩, ⟨fun _ h => (Option.some.inj h ▸ ty103_ok), ⟨fun _ h => (Option.some.inj h ▸ ty167_ok), trivial, trivial⟩, trivial⟩⟩, ⟨fun _ h => (Option.some.inj h ▸ ty55_ok), ⟨fun _ h => (Option.some.inj h ▸ ty87_ok), ⟨fun _ h => (Option.some.inj h ▸ ty151_ok), trivial, trivial⟩, trivial⟩, ⟨fun _ h => (Option.some.inj h ▸ ty119_ok), ⟨fun _ h => (Option.some.inj h ▸ ty183_ok), trivial, trivial⟩, trivial⟩⟩⟩⟩, ⟨fun _ h => (Option.some.inj h ▸ ty11_ok), ⟨fun _ h => (nomatch h), ⟨fun _ h => (Option.some.inj h ▸ ty35_ok), ⟨fun _ h => (Option.some.inj h ▸ ty67_ok), ⟨fun _ h => (Option.some.inj h ▸ ty131_ok), trivial, trivial⟩, trivial⟩, ⟨fun _ h => (Option.some.inj h ▸ ty99_ok), ⟨fun _ h => (Option.some.inj h ▸ ty163_ok), trivial, trivial⟩, trivial⟩⟩, ⟨fun _ h => (Option.some.inj h ▸ ty51_ok), ⟨fun _ h => (Option.some.inj h ▸ ty83_ok), ⟨fun _ h => (Option.some.inj h ▸ ty147_ok), trivial, trivial⟩, trivial⟩, ⟨fun _ h => (Option.some.inj h ▸ ty115_ok), ⟨fun _ h => (Option.some.inj h ▸ ty179_ok), trivial, trivial⟩, trivial⟩⟩⟩, ⟨fun _ h => (Option.some.inj h ▸ ty27_ok), ⟨fun _ h => (Option.some.inj h ▸ ty43_ok), ⟨fun _ h => (Option.some.inj h ▸ ty75_ok), ⟨fun _ h => (Option.some.inj h ▸ ty139_ok), trivial, trivial⟩, trivial⟩, ⟨fun _ h => (Option.some.inj h ▸ ty107_ok), ⟨fun _ h => (Option.some.inj h ▸ ty171_ok), trivial, trivial⟩, trivial⟩⟩, ⟨fun _ h => (Option.some.inj h ▸ ty59_ok), ⟨fun _ h => (Option.some.inj h ▸ ty91_ok), trivial, trivial⟩, ⟨fun _ h => (Option.some.inj h ▸ ty123_ok), trivial, trivial⟩⟩⟩⟩⟩, ⟨fun _ h => (Option.some.inj h ▸ ty5_ok), ⟨fun _ h => (Option.some.inj h ▸ ty9_ok), ⟨fun _ h => (Option.some.inj h ▸ ty17_ok), ⟨fun _ h => (Option.some.inj h ▸ ty33_ok), ⟨fun _ h => (Option.some.inj h ▸ ty65_ok), ⟨fun _ h => (Option.some.inj h ▸ ty129_ok), trivial, trivial⟩, trivial⟩, ⟨fun _ h => (Option.some.inj h ▸ ty97_ok), ⟨fun _ h => (Option.some.inj h ▸ ty161_ok), trivial, trivial⟩, trivial⟩⟩, ⟨fun _ h => (Option.some.inj h ▸ ty49_ok), ⟨fun _ h => (Option.some.inj h ▸ ty81_ok), ⟨fun _ h => (Option.some.inj h ▸ ty145_ok), trivial, trivial⟩, trivial⟩, ⟨fun _ h => (Option.some.inj h ▸ ty113_ok), ⟨fun _ h => (Option.some.inj h ▸ ty177_ok), trivial, trivial⟩, trivial⟩⟩⟩, ⟨fun _ h => (Option.some.inj h ▸ ty25_ok), ⟨fun _ h => (Option.some.inj h ▸ ty41_ok), ⟨fun _ h => (Option.some.inj h ▸ ty73_ok), ⟨fun _ h => (Option.some.inj h ▸ ty137_ok), trivial, trivial⟩, trivial⟩, ⟨fun _ h => (Option.some.inj h ▸ ty105_ok), trivial, trivial⟩⟩, ⟨fun _ h => (Option.some.inj h ▸ ty57_ok), ⟨fun _ h => (Option.some.inj h ▸ ty89_ok), ⟨fun _ h => (Option.some.inj h ▸ ty153_ok), trivial, trivial⟩, trivial⟩, ⟨fun _ h => (Option.some.inj h ▸ ty121_ok), trivial, trivial⟩⟩⟩⟩, ⟨fun _ h => (nomatch h), ⟨fun _ h => (Option.some.inj h ▸ ty21_ok), ⟨fun _ h => (Option.some.inj h ▸ ty37_ok), ⟨fun _ h => (Option.some.inj h ▸ ty69_ok), ⟨fun _ h => (Option.some.inj h ▸ ty133_ok), trivial, trivial⟩, trivial⟩, ⟨fun _ h => (Option.some.inj h ▸ ty101_ok), ⟨fun _ h => (Option.some.inj h ▸ ty165_ok), trivial, trivial⟩, trivial⟩⟩, ⟨fun _ h => (Option.some.inj h ▸ ty53_ok), ⟨fun _ h => (Option.some.inj h ▸ ty85_ok), ⟨fun _ h => (Option.some.inj h ▸ ty149_ok), trivial, trivial⟩, trivial⟩, ⟨fun _ h => (Option.some.inj h ▸ ty117_ok), ⟨fun _ h => (Option.some.inj h ▸ ty181_ok), trivial, trivial⟩, trivial⟩⟩⟩, ⟨fun _ h => (Option.some.inj h ▸ ty29_ok), ⟨fun _ h => (Option.some.inj h ▸ ty45_ok), ⟨fun _ h => (Option.some.inj h ▸ ty77_ok), ⟨fun _ h => (Option.some.inj h ▸ ty141_ok), trivial, trivial⟩, trivial⟩, ⟨fun _ h => (Option.some.inj h ▸ ty109_ok), trivial, trivial⟩⟩, ⟨fun _ h => (Option.some.inj h ▸ ty61_ok), ⟨fun _ h => (Option.some.inj h ▸ ty93_ok), ⟨fun _ h => (Option.some.inj h ▸ ty157_ok), trivial, trivial⟩, trivial⟩, ⟨fun _ h => (Option.some.inj h ▸ ty125_ok), trivial, trivial⟩⟩⟩⟩⟩⟩, ⟨fun _ h => (Option.some.inj h ▸ ty2_ok), ⟨fun _ h => (Option.some.inj h ▸ ty4_ok), ⟨fun _ h => (nomatch h), ⟨fun _ h => (Option.some.inj h ▸ ty16_ok), ⟨fun _ h => (Option.some.inj h ▸ ty32_ok), ⟨fun _ h => (Option.some.inj h ▸ ty64_ok), ⟨fun _ h => (Option.some.inj h ▸ ty128_ok), trivial, trivial⟩, trivial⟩, ⟨fun _ h => (Option.some.inj h ▸ ty96_ok), ⟨fun _ h => (Option.some.inj h ▸ ty160_ok), trivial, trivial⟩, trivial⟩⟩, ⟨fun _ h => (Option.some.inj h ▸ ty48_ok), ⟨fun _ h => (Option.some.inj h ▸ ty80_ok), ⟨fun _ h => (Option.some.inj h ▸ ty144_ok), trivial, trivial⟩, trivial⟩, ⟨fun _ h => (Option.some.inj h ▸ ty112_ok), trivial, trivial⟩⟩⟩, ⟨fun _ h => (Option.some.inj h ▸ ty24_ok), ⟨fun _ h => (Option.some.inj h ▸ ty40_ok), ⟨fun _ h => (Option.some.inj h ▸ ty72_ok), ⟨fun _ h => (Option.some.inj h ▸ ty136_ok), trivial, trivial⟩, trivial⟩, ⟨fun _ h => (Option.some.inj h ▸ ty104_ok), ⟨fun _ h => (Option.some.inj h ▸ ty168_ok), trivial, trivial⟩, trivial⟩⟩, ⟨fun _ h => (Option.some.inj h ▸ ty56_ok), ⟨fun _ h => (Option.some.inj h ▸ ty88_ok), ⟨fun _ h => (Option.some.inj h ▸ ty152_ok), trivial, trivial⟩, trivial⟩, ⟨fun _ h => (Option.some.inj h ▸ ty120_ok), trivial, trivial⟩⟩⟩⟩, ⟨fun _ h => (Option.some.inj h ▸ ty12_ok), ⟨fun _ h => (nomatch h), ⟨fun _ h => (Option.some.inj h ▸ ty36_ok), ⟨fun _ h => (Option.some.inj h ▸ ty68_ok), ⟨fun _ h => (Option.some.inj h ▸ ty132_ok), trivial, trivial⟩, trivial⟩, ⟨fun _ h => (Option.some.inj h ▸ ty100_ok), ⟨fun _ h => (Option.some.inj h ▸ ty164_ok), trivial, trivial⟩, trivial⟩⟩, ⟨fun _ h => (Option.some.inj h ▸ ty52_ok), ⟨fun _ h => (Option.some.inj h ▸ ty84_ok), ⟨fun _ h => (Option.some.inj h ▸ ty148_ok), trivial, trivial⟩, trivial⟩, ⟨fun _ h => (Option.some.inj h ▸ ty116_ok), ⟨fun _ h => (Option.some.inj h ▸ ty180_ok), trivial, trivial⟩, trivial⟩⟩⟩, ⟨fun _ h => (Option.some.inj h ▸ ty28_ok), ⟨fun _ h => (Option.some.inj h ▸ ty44_ok), ⟨fun _ h => (Option.some.inj h ▸ ty76_ok), ⟨fun _ h => (Option.some.inj h ▸ ty140_ok), trivial, trivial⟩, trivial⟩, ⟨fun _ h => (Option.some.inj h ▸ ty108_ok), trivial, trivial⟩⟩, ⟨fun _ h => (Option.some.inj h ▸ ty60_ok), ⟨fun _ h => (Option.some.inj h ▸ ty92_ok), ⟨fun _ h => (Option.some.inj h ▸ ty156_ok), trivial, trivial⟩, trivial⟩, ⟨fun _ h => (Option.some.inj h ▸ ty124_ok), trivial, trivial⟩⟩⟩⟩⟩, ⟨fun _ h => (Option.some.inj h ▸ ty6_ok), ⟨fun _ h => (Option.some.inj h ▸ ty10_ok), ⟨fun _ h => (nomatch h), ⟨fun _ h => (Option.some.inj h ▸ ty34_ok), ⟨fun _ h => (Option.some.inj h ▸ ty66_ok), ⟨fun _ h => (Option.some.inj h ▸ ty130_ok), trivial, trivial⟩, trivial⟩, ⟨fun _ h => (Option.some.inj h ▸ ty98_ok), ⟨fun _ h => (Option.some.inj h ▸ ty162_ok), trivial, trivial⟩, trivial⟩⟩, ⟨fun _ h => (Option.some.inj h ▸ ty50_ok), ⟨fun _ h => (Option.some.inj h ▸ ty82_ok), ⟨fun _ h => (Option.some.inj h ▸ ty146_ok), trivial, trivial⟩, trivial⟩, ⟨fun _ h => (Option.some.inj h ▸ ty114_ok), ⟨fun _ h => (Option.some.inj h ▸ ty178_ok), trivial, trivial⟩, trivial⟩⟩⟩, ⟨fun _ h => (Option.some.inj h ▸ ty26_ok), ⟨fun _ h => (nomatch h), ⟨fun _ h => (Option.some.inj h ▸ ty74_ok), ⟨fun _ h => (Option.some.inj h ▸ ty138_ok), trivial, trivial⟩, trivial⟩, ⟨fun _ h => (Option.some.inj h ▸ ty106_ok), ⟨fun _ h => (Option.some.inj h ▸ ty170_ok), trivial, trivial⟩, trivial⟩⟩, ⟨fun _ h => (Option.some.inj h ▸ ty58_ok), ⟨fun _ h => (Option.some.inj h ▸ ty90_ok), ⟨fun _ h => (Option.some.inj h ▸ ty154_ok), trivial, trivial⟩, trivial⟩, ⟨fun _ h => (Option.some.inj h ▸ ty122_ok), ⟨fun _ h => (Option.some.inj h ▸ ty186_ok), trivial, trivial⟩, trivial⟩⟩⟩⟩, ⟨fun _ h => (nomatch h), ⟨fun _ h => (Option.some.inj h ▸ ty22_ok), ⟨fun _ h => (Option.some.inj h ▸ ty38_ok), ⟨fun _ h => (Option.some.inj h ▸ ty70_ok), ⟨fun _ h => (Option.some.inj h ▸ ty134_ok), trivial, trivial⟩, trivial⟩, ⟨fun _ h => (Option.some.inj h ▸ ty102_ok), ⟨fun _ h => (Option.some.inj h ▸ ty166_ok), trivial, trivial⟩, trivial⟩⟩, ⟨fun _ h => (Option.some.inj h ▸ ty54_ok), ⟨fun _ h => (Option.some.inj h ▸ ty86_ok), trivial, trivial⟩, ⟨fun _ h => (Option.some.inj h ▸ ty118_ok), ⟨fun _ h => (Option.some.inj h ▸ ty182_ok), trivial, trivial⟩, trivial⟩⟩⟩, ⟨fun _ h => (Option.some.inj h ▸ ty30_ok), ⟨fun _ h => (Option.some.inj h ▸ ty46_ok), ⟨fun _ h => (Option.some.inj h ▸ ty78_ok), ⟨fun _ h => (Option.some.inj h ▸ ty142_ok), trivial, trivial⟩, trivial⟩, ⟨fun _ h => (Option.some.inj h ▸ ty110_ok), trivial, trivial⟩⟩, ⟨fun _ h => (Option.some.inj h ▸ ty62_ok), ⟨fun _ h => (Option.some.inj h ▸ ty94_ok), ⟨fun _ h => (Option.some.inj h ▸ ty158_ok), trivial, trivial⟩, trivial⟩, ⟨fun _ h => (Option.some.inj h ▸ ty126_ok), trivial, trivial⟩⟩⟩⟩⟩⟩⟩
end Go.Ev
