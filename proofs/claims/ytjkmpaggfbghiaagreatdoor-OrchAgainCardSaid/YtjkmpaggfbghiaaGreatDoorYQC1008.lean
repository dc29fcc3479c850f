/- Contracts and lemmas for the claim (part 8); no condition of its own. -/
import Derived.Test.YtjkmpaggfbghiaaGreatDoorYQC1001
import Derived.Test.YtjkmpaggfbghiaaGreatDoorProg
import Derived.Test.YtjkmpaggfbghiaaGreatDoorYQC1003
import Derived.Test.YtjkmpaggfbghiaaGreatDoorYQC1005
set_option linter.all false
set_option maxRecDepth 100000
set_option maxHeartbeats 0
set_option linter.unusedVariables false
set_option linter.unusedSimpArgs false
set_option linter.unnecessarySimpa false
namespace Go.Proofs.YtjkmpaggfbghiaaGreatDoor
open Go Go.X
def ti1 : TI := ⟨.func #[] #[] false, 1, 8, .nilFunc⟩
theorem tk1 : TIok Tryz.prog 1 ti1 := ⟨Tryz.underlying1, by kernel_rfl⟩
def ti2 : TI := ⟨.int .i64, 1, 8, .int .i64 0⟩
theorem tk2 : TIok Tryz.prog 2 ti2 := ⟨Tryz.underlying2, by kernel_rfl⟩
def ti3 : TI := ⟨.int .i64, 1, 8, .int .i64 0⟩
theorem tk3 : TIok Tryz.prog 3 ti3 := ⟨Tryz.underlying3, by kernel_rfl⟩
def ti4 : TI := ⟨.bool, 1, 1, .bool false⟩
theorem tk4 : TIok Tryz.prog 4 ti4 := ⟨Tryz.underlying4, by kernel_rfl⟩
def ti5 : TI := ⟨.int .u8, 1, 1, .int .u8 0⟩
theorem tk5 : TIok Tryz.prog 5 ti5 := ⟨Tryz.underlying5, by kernel_rfl⟩
def ti6 : TI := ⟨.int .u8, 1, 1, .int .u8 0⟩
theorem tk6 : TIok Tryz.prog 6 ti6 := ⟨Tryz.underlying6, by kernel_rfl⟩
def ti7 : TI := ⟨.struct #[{ name := "x", type := 2, offset := 0, embedded := false, tag := "", pkgPath := "runtime", byteOffset := 0 }, { name := "y", type := 3, offset := 1, embedded := false, tag := "", pkgPath := "runtime", byteOffset := 8 }, { name := "signed", type := 4, offset := 2, embedded := false, tag := "", pkgPath := "runtime", byteOffset := 16 }, { name := "code", type := 6, offset := 3, embedded := false, tag := "", pkgPath := "runtime", byteOffset := 17 }], 4, 24, .agg #[.int .i64 0, .int .i64 0, .bool false, .int .u8 0]⟩
theorem tk7 : TIok Tryz.prog 7 ti7 := ⟨Tryz.underlying7, by kernel_rfl⟩
def ti8 : TI := ⟨.struct #[{ name := "x", type := 2, offset := 0, embedded := false, tag := "", pkgPath := "runtime", byteOffset := 0 }, { name := "y", type := 3, offset := 1, embedded := false, tag := "", pkgPath := "runtime", byteOffset := 8 }, { name := "signed", type := 4, offset := 2, embedded := false, tag := "", pkgPath := "runtime", byteOffset := 16 }, { name := "code", type := 6, offset := 3, embedded := false, tag := "", pkgPath := "runtime", byteOffset := 17 }], 4, 24, .agg #[.int .i64 0, .int .i64 0, .bool false, .int .u8 0]⟩
theorem tk8 : TIok Tryz.prog 8 ti8 := ⟨Tryz.underlying8, by kernel_rfl⟩
def ti9 : TI := ⟨.string, 1, 16, .string ⟨#[]⟩⟩
theorem tk9 : TIok Tryz.prog 9 ti9 := ⟨Tryz.underlying9, by kernel_rfl⟩
def ti10 : TI := ⟨.string, 1, 16, .string ⟨#[]⟩⟩
theorem tk10 : TIok Tryz.prog 10 ti10 := ⟨Tryz.underlying10, by kernel_rfl⟩
def ti11 : TI := ⟨.string, 1, 16, .string ⟨#[]⟩⟩
theorem tk11 : TIok Tryz.prog 11 ti11 := ⟨Tryz.underlying11, by kernel_rfl⟩
def ti12 : TI := ⟨.int .u64, 1, 8, .int .u64 0⟩
theorem tk12 : TIok Tryz.prog 12 ti12 := ⟨Tryz.underlying12, by kernel_rfl⟩
def ti13 : TI := ⟨.struct #[{ name := "msg", type := 9, offset := 0, embedded := false, tag := "", pkgPath := "runtime", byteOffset := 0 }, { name := "addr", type := 12, offset := 1, embedded := false, tag := "", pkgPath := "runtime", byteOffset := 16 }], 2, 24, .agg #[.string ⟨#[]⟩, .int .u64 0]⟩
theorem tk13 : TIok Tryz.prog 13 ti13 := ⟨Tryz.underlying13, by kernel_rfl⟩
def ti14 : TI := ⟨.struct #[{ name := "msg", type := 9, offset := 0, embedded := false, tag := "", pkgPath := "runtime", byteOffset := 0 }, { name := "addr", type := 12, offset := 1, embedded := false, tag := "", pkgPath := "runtime", byteOffset := 16 }], 2, 24, .agg #[.string ⟨#[]⟩, .int .u64 0]⟩
theorem tk14 : TIok Tryz.prog 14 ti14 := ⟨Tryz.underlying14, by kernel_rfl⟩
def ti15 : TI := ⟨.pointer 391, 1, 8, .pointer none⟩
theorem tk15 : TIok Tryz.prog 15 ti15 := ⟨Tryz.underlying15, by kernel_rfl⟩
def ti16 : TI := ⟨.pointer 394, 1, 8, .pointer none⟩
theorem tk16 : TIok Tryz.prog 16 ti16 := ⟨Tryz.underlying16, by kernel_rfl⟩
def ti17 : TI := ⟨.pointer 401, 1, 8, .pointer none⟩
theorem tk17 : TIok Tryz.prog 17 ti17 := ⟨Tryz.underlying17, by kernel_rfl⟩
def ti18 : TI := ⟨.struct #[{ name := "typ", type := 17, offset := 0, embedded := false, tag := "", pkgPath := "internal/runtime/maps", byteOffset := 0 }], 1, 8, .agg #[.pointer none]⟩
theorem tk18 : TIok Tryz.prog 18 ti18 := ⟨Tryz.underlying18, by kernel_rfl⟩
def ti19 : TI := ⟨.struct #[{ name := "typ", type := 17, offset := 0, embedded := false, tag := "", pkgPath := "internal/runtime/maps", byteOffset := 0 }], 1, 8, .agg #[.pointer none]⟩
theorem tk19 : TIok Tryz.prog 19 ti19 := ⟨Tryz.underlying19, by kernel_rfl⟩
def ti20 : TI := ⟨.interface #[], 1, 16, .nilIface⟩
theorem tk20 : TIok Tryz.prog 20 ti20 := ⟨Tryz.underlying20, by kernel_rfl⟩
def ti21 : TI := ⟨.int .i32, 1, 4, .int .i32 0⟩
theorem tk21 : TIok Tryz.prog 21 ti21 := ⟨Tryz.underlying21, by kernel_rfl⟩
def ti22 : TI := ⟨.slice 46, 1, 24, .slice none 0 0⟩
theorem tk22 : TIok Tryz.prog 22 ti22 := ⟨Tryz.underlying22, by kernel_rfl⟩
def ti23 : TI := ⟨.pointer 121, 1, 8, .pointer none⟩
theorem tk23 : TIok Tryz.prog 23 ti23 := ⟨Tryz.underlying23, by kernel_rfl⟩
def ti24 : TI := ⟨.func #[22] #[23] false, 1, 8, .nilFunc⟩
theorem tk24 : TIok Tryz.prog 24 ti24 := ⟨Tryz.underlying24, by kernel_rfl⟩
def ti25 : TI := ⟨.slice 31, 1, 24, .slice none 0 0⟩
theorem tk25 : TIok Tryz.prog 25 ti25 := ⟨Tryz.underlying25, by kernel_rfl⟩
def ti26 : TI := ⟨.func #[] #[25] false, 1, 8, .nilFunc⟩
theorem tk26 : TIok Tryz.prog 26 ti26 := ⟨Tryz.underlying26, by kernel_rfl⟩
def ti27 : TI := ⟨.func #[] #[4] false, 1, 8, .nilFunc⟩
theorem tk27 : TIok Tryz.prog 27 ti27 := ⟨Tryz.underlying27, by kernel_rfl⟩
def ti29 : TI := ⟨.struct #[{ name := "Saga", type := 3, offset := 0, embedded := false, tag := "", pkgPath := "", byteOffset := 0 }, { name := "Step", type := 3, offset := 1, embedded := false, tag := "", pkgPath := "", byteOffset := 8 }, { name := "Phase", type := 3, offset := 2, embedded := false, tag := "", pkgPath := "", byteOffset := 16 }], 3, 24, .agg #[.int .i64 0, .int .i64 0, .int .i64 0]⟩
theorem tk29 : TIok Tryz.prog 29 ti29 := ⟨Tryz.underlying29, by kernel_rfl⟩
def ti30 : TI := ⟨.struct #[{ name := "Eff", type := 29, offset := 0, embedded := false, tag := "", pkgPath := "", byteOffset := 0 }, { name := "Move", type := 3, offset := 3, embedded := false, tag := "", pkgPath := "", byteOffset := 24 }, { name := "In", type := 4, offset := 4, embedded := false, tag := "", pkgPath := "", byteOffset := 32 }, { name := "Group", type := 3, offset := 5, embedded := false, tag := "", pkgPath := "", byteOffset := 40 }], 6, 48, .agg #[.int .i64 0, .int .i64 0, .int .i64 0, .int .i64 0, .bool false, .int .i64 0]⟩
theorem tk30 : TIok Tryz.prog 30 ti30 := ⟨Tryz.underlying30, by kernel_rfl⟩
def ti31 : TI := ⟨.struct #[{ name := "Eff", type := 29, offset := 0, embedded := false, tag := "", pkgPath := "", byteOffset := 0 }, { name := "Move", type := 3, offset := 3, embedded := false, tag := "", pkgPath := "", byteOffset := 24 }, { name := "In", type := 4, offset := 4, embedded := false, tag := "", pkgPath := "", byteOffset := 32 }, { name := "Group", type := 3, offset := 5, embedded := false, tag := "", pkgPath := "", byteOffset := 40 }], 6, 48, .agg #[.int .i64 0, .int .i64 0, .int .i64 0, .int .i64 0, .bool false, .int .i64 0]⟩
theorem tk31 : TIok Tryz.prog 31 ti31 := ⟨Tryz.underlying31, by kernel_rfl⟩
def ti32 : TI := ⟨.int .i64, 1, 8, .int .i64 0⟩
theorem tk32 : TIok Tryz.prog 32 ti32 := ⟨Tryz.underlying32, by kernel_rfl⟩
def ti33 : TI := ⟨.struct #[{ name := "Err", type := 32, offset := 0, embedded := false, tag := "", pkgPath := "", byteOffset := 0 }, { name := "Num", type := 2, offset := 1, embedded := false, tag := "", pkgPath := "", byteOffset := 8 }, { name := "Data", type := 9, offset := 2, embedded := false, tag := "", pkgPath := "", byteOffset := 16 }], 3, 32, .agg #[.int .i64 0, .int .i64 0, .string ⟨#[]⟩]⟩
theorem tk33 : TIok Tryz.prog 33 ti33 := ⟨Tryz.underlying33, by kernel_rfl⟩
def ti34 : TI := ⟨.struct #[{ name := "Err", type := 32, offset := 0, embedded := false, tag := "", pkgPath := "", byteOffset := 0 }, { name := "Num", type := 2, offset := 1, embedded := false, tag := "", pkgPath := "", byteOffset := 8 }, { name := "Data", type := 9, offset := 2, embedded := false, tag := "", pkgPath := "", byteOffset := 16 }], 3, 32, .agg #[.int .i64 0, .int .i64 0, .string ⟨#[]⟩]⟩
theorem tk34 : TIok Tryz.prog 34 ti34 := ⟨Tryz.underlying34, by kernel_rfl⟩
def ti35 : TI := ⟨.func #[42] #[34] false, 1, 8, .nilFunc⟩
theorem tk35 : TIok Tryz.prog 35 ti35 := ⟨Tryz.underlying35, by kernel_rfl⟩
def ti37 : TI := ⟨.struct #[{ name := "From", type := 9, offset := 0, embedded := false, tag := "", pkgPath := "", byteOffset := 0 }, { name := "To", type := 9, offset := 1, embedded := false, tag := "", pkgPath := "", byteOffset := 16 }], 2, 32, .agg #[.string ⟨#[]⟩, .string ⟨#[]⟩]⟩
theorem tk37 : TIok Tryz.prog 37 ti37 := ⟨Tryz.underlying37, by kernel_rfl⟩
def ti38 : TI := ⟨.slice 80, 1, 24, .slice none 0 0⟩
theorem tk38 : TIok Tryz.prog 38 ti38 := ⟨Tryz.underlying38, by kernel_rfl⟩
def ti40 : TI := ⟨.struct #[{ name := "Name", type := 9, offset := 0, embedded := false, tag := "", pkgPath := "", byteOffset := 0 }, { name := "Retries", type := 3, offset := 1, embedded := false, tag := "", pkgPath := "", byteOffset := 16 }, { name := "Deadline", type := 3, offset := 2, embedded := false, tag := "", pkgPath := "", byteOffset := 24 }, { name := "Steps", type := 38, offset := 3, embedded := false, tag := "", pkgPath := "", byteOffset := 32 }], 4, 56, .agg #[.string ⟨#[]⟩, .int .i64 0, .int .i64 0, .slice none 0 0]⟩
theorem tk40 : TIok Tryz.prog 40 ti40 := ⟨Tryz.underlying40, by kernel_rfl⟩
def ti41 : TI := ⟨.struct #[{ name := "Kind", type := 3, offset := 0, embedded := false, tag := "", pkgPath := "", byteOffset := 0 }, { name := "Call", type := 3, offset := 1, embedded := false, tag := "", pkgPath := "", byteOffset := 8 }, { name := "Saga", type := 3, offset := 2, embedded := false, tag := "", pkgPath := "", byteOffset := 16 }, { name := "Eff", type := 29, offset := 3, embedded := false, tag := "", pkgPath := "", byteOffset := 24 }, { name := "Key", type := 9, offset := 6, embedded := false, tag := "", pkgPath := "", byteOffset := 48 }, { name := "Delta", type := 2, offset := 7, embedded := false, tag := "", pkgPath := "", byteOffset := 64 }, { name := "Move", type := 3, offset := 8, embedded := false, tag := "", pkgPath := "", byteOffset := 72 }, { name := "R", type := 37, offset := 9, embedded := false, tag := "", pkgPath := "", byteOffset := 80 }, { name := "Group", type := 3, offset := 11, embedded := false, tag := "", pkgPath := "", byteOffset := 112 }, { name := "Def", type := 40, offset := 12, embedded := false, tag := "", pkgPath := "", byteOffset := 120 }, { name := "Item", type := 31, offset := 16, embedded := false, tag := "", pkgPath := "", byteOffset := 176 }, { name := "Res", type := 32, offset := 22, embedded := false, tag := "", pkgPath := "", byteOffset := 224 }, { name := "Data", type := 9, offset := 23, embedded := false, tag := "", pkgPath := "", byteOffset := 232 }], 24, 248, .agg #[.int .i64 0, .int .i64 0, .int .i64 0, .int .i64 0, .int .i64 0, .int .i64 0, .string ⟨#[]⟩, .int .i64 0, .int .i64 0, .string ⟨#[]⟩, .string ⟨#[]⟩, .int .i64 0, .string ⟨#[]⟩, .int .i64 0, .int .i64 0, .slice none 0 0, .int .i64 0, .int .i64 0, .int .i64 0, .int .i64 0, .bool false, .int .i64 0, .int .i64 0, .string ⟨#[]⟩]⟩
theorem tk41 : TIok Tryz.prog 41 ti41 := ⟨Tryz.underlying41, by kernel_rfl⟩
def ti42 : TI := ⟨.struct #[{ name := "Kind", type := 3, offset := 0, embedded := false, tag := "", pkgPath := "", byteOffset := 0 }, { name := "Call", type := 3, offset := 1, embedded := false, tag := "", pkgPath := "", byteOffset := 8 }, { name := "Saga", type := 3, offset := 2, embedded := false, tag := "", pkgPath := "", byteOffset := 16 }, { name := "Eff", type := 29, offset := 3, embedded := false, tag := "", pkgPath := "", byteOffset := 24 }, { name := "Key", type := 9, offset := 6, embedded := false, tag := "", pkgPath := "", byteOffset := 48 }, { name := "Delta", type := 2, offset := 7, embedded := false, tag := "", pkgPath := "", byteOffset := 64 }, { name := "Move", type := 3, offset := 8, embedded := false, tag := "", pkgPath := "", byteOffset := 72 }, { name := "R", type := 37, offset := 9, embedded := false, tag := "", pkgPath := "", byteOffset := 80 }, { name := "Group", type := 3, offset := 11, embedded := false, tag := "", pkgPath := "", byteOffset := 112 }, { name := "Def", type := 40, offset := 12, embedded := false, tag := "", pkgPath := "", byteOffset := 120 }, { name := "Item", type := 31, offset := 16, embedded := false, tag := "", pkgPath := "", byteOffset := 176 }, { name := "Res", type := 32, offset := 22, embedded := false, tag := "", pkgPath := "", byteOffset := 224 }, { name := "Data", type := 9, offset := 23, embedded := false, tag := "", pkgPath := "", byteOffset := 232 }], 24, 248, .agg #[.int .i64 0, .int .i64 0, .int .i64 0, .int .i64 0, .int .i64 0, .int .i64 0, .string ⟨#[]⟩, .int .i64 0, .int .i64 0, .string ⟨#[]⟩, .string ⟨#[]⟩, .int .i64 0, .string ⟨#[]⟩, .int .i64 0, .int .i64 0, .slice none 0 0, .int .i64 0, .int .i64 0, .int .i64 0, .int .i64 0, .bool false, .int .i64 0, .int .i64 0, .string ⟨#[]⟩]⟩
theorem tk42 : TIok Tryz.prog 42 ti42 := ⟨Tryz.underlying42, by kernel_rfl⟩
def ti44 : TI := ⟨.int .u16, 1, 2, .int .u16 0⟩
theorem tk44 : TIok Tryz.prog 44 ti44 := ⟨Tryz.underlying44, by kernel_rfl⟩
def ti46 : TI := ⟨.struct #[{ name := "Kind", type := 5, offset := 0, embedded := false, tag := "", pkgPath := "", byteOffset := 0 }, { name := "N", type := 44, offset := 1, embedded := false, tag := "", pkgPath := "", byteOffset := 2 }], 2, 4, .agg #[.int .u8 0, .int .u16 0]⟩
theorem tk46 : TIok Tryz.prog 46 ti46 := ⟨Tryz.underlying46, by kernel_rfl⟩
def ti47 : TI := ⟨.func #[25, 31] #[4] false, 1, 8, .nilFunc⟩
theorem tk47 : TIok Tryz.prog 47 ti47 := ⟨Tryz.underlying47, by kernel_rfl⟩
def ti49 : TI := ⟨.func #[31] #[42, 32] false, 1, 8, .nilFunc⟩
theorem tk49 : TIok Tryz.prog 49 ti49 := ⟨Tryz.underlying49, by kernel_rfl⟩
def ti50 : TI := ⟨.func #[23] #[42] false, 1, 8, .nilFunc⟩
theorem tk50 : TIok Tryz.prog 50 ti50 := ⟨Tryz.underlying50, by kernel_rfl⟩
def ti51 : TI := ⟨.func #[22, 5, 22] #[4] false, 1, 8, .nilFunc⟩
theorem tk51 : TIok Tryz.prog 51 ti51 := ⟨Tryz.underlying51, by kernel_rfl⟩
def ti52 : TI := ⟨.func #[3] #[34] false, 1, 8, .nilFunc⟩
theorem tk52 : TIok Tryz.prog 52 ti52 := ⟨Tryz.underlying52, by kernel_rfl⟩
def ti53 : TI := ⟨.array 14 34, 42, 448, .agg #[.int .i64 0, .int .i64 0, .string ⟨#[]⟩, .int .i64 0, .int .i64 0, .string ⟨#[]⟩, .int .i64 0, .int .i64 0, .string ⟨#[]⟩, .int .i64 0, .int .i64 0, .string ⟨#[]⟩, .int .i64 0, .int .i64 0, .string ⟨#[]⟩, .int .i64 0, .int .i64 0, .string ⟨#[]⟩, .int .i64 0, .int .i64 0, .string ⟨#[]⟩, .int .i64 0, .int .i64 0, .string ⟨#[]⟩, .int .i64 0, .int .i64 0, .string ⟨#[]⟩, .int .i64 0, .int .i64 0, .string ⟨#[]⟩, .int .i64 0, .int .i64 0, .string ⟨#[]⟩, .int .i64 0, .int .i64 0, .string ⟨#[]⟩, .int .i64 0, .int .i64 0, .string ⟨#[]⟩, .int .i64 0, .int .i64 0, .string ⟨#[]⟩]⟩
theorem tk53 : TIok Tryz.prog 53 ti53 := ⟨Tryz.underlying53, by kernel_rfl⟩
def ti54 : TI := ⟨.struct #[{ name := "Tried", type := 3, offset := 0, embedded := false, tag := "", pkgPath := "", byteOffset := 0 }, { name := "Began", type := 3, offset := 1, embedded := false, tag := "", pkgPath := "", byteOffset := 8 }], 2, 16, .agg #[.int .i64 0, .int .i64 0]⟩
theorem tk54 : TIok Tryz.prog 54 ti54 := ⟨Tryz.underlying54, by kernel_rfl⟩
def ti55 : TI := ⟨.struct #[{ name := "Tried", type := 3, offset := 0, embedded := false, tag := "", pkgPath := "", byteOffset := 0 }, { name := "Began", type := 3, offset := 1, embedded := false, tag := "", pkgPath := "", byteOffset := 8 }], 2, 16, .agg #[.int .i64 0, .int .i64 0]⟩
theorem tk55 : TIok Tryz.prog 55 ti55 := ⟨Tryz.underlying55, by kernel_rfl⟩
def ti56 : TI := ⟨.struct #[{ name := "Def", type := 40, offset := 0, embedded := false, tag := "", pkgPath := "", byteOffset := 0 }, { name := "State", type := 3, offset := 4, embedded := false, tag := "", pkgPath := "", byteOffset := 56 }, { name := "At", type := 3, offset := 5, embedded := false, tag := "", pkgPath := "", byteOffset := 64 }, { name := "Cancel", type := 4, offset := 6, embedded := false, tag := "", pkgPath := "", byteOffset := 72 }, { name := "Budget", type := 55, offset := 7, embedded := false, tag := "", pkgPath := "", byteOffset := 80 }, { name := "Err", type := 32, offset := 9, embedded := false, tag := "", pkgPath := "", byteOffset := 96 }], 10, 104, .agg #[.string ⟨#[]⟩, .int .i64 0, .int .i64 0, .slice none 0 0, .int .i64 0, .int .i64 0, .bool false, .int .i64 0, .int .i64 0, .int .i64 0]⟩
theorem tk56 : TIok Tryz.prog 56 ti56 := ⟨Tryz.underlying56, by kernel_rfl⟩
def ti57 : TI := ⟨.struct #[{ name := "Def", type := 40, offset := 0, embedded := false, tag := "", pkgPath := "", byteOffset := 0 }, { name := "State", type := 3, offset := 4, embedded := false, tag := "", pkgPath := "", byteOffset := 56 }, { name := "At", type := 3, offset := 5, embedded := false, tag := "", pkgPath := "", byteOffset := 64 }, { name := "Cancel", type := 4, offset := 6, embedded := false, tag := "", pkgPath := "", byteOffset := 72 }, { name := "Budget", type := 55, offset := 7, embedded := false, tag := "", pkgPath := "", byteOffset := 80 }, { name := "Err", type := 32, offset := 9, embedded := false, tag := "", pkgPath := "", byteOffset := 96 }], 10, 104, .agg #[.string ⟨#[]⟩, .int .i64 0, .int .i64 0, .slice none 0 0, .int .i64 0, .int .i64 0, .bool false, .int .i64 0, .int .i64 0, .int .i64 0]⟩
theorem tk57 : TIok Tryz.prog 57 ti57 := ⟨Tryz.underlying57, by kernel_rfl⟩
def ti61 : TI := ⟨.map 9 3, 1, 8, .map none⟩
theorem tk61 : TIok Tryz.prog 61 ti61 := ⟨Tryz.underlying61, by kernel_rfl⟩
def ti65 : TI := ⟨.func #[37, 9] #[4] false, 1, 8, .nilFunc⟩
theorem tk65 : TIok Tryz.prog 65 ti65 := ⟨Tryz.underlying65, by kernel_rfl⟩
def ti66 : TI := ⟨.func #[22, 46] #[4] false, 1, 8, .nilFunc⟩
theorem tk66 : TIok Tryz.prog 66 ti66 := ⟨Tryz.underlying66, by kernel_rfl⟩
def ti67 : TI := ⟨.slice 76, 1, 24, .slice none 0 0⟩
theorem tk67 : TIok Tryz.prog 67 ti67 := ⟨Tryz.underlying67, by kernel_rfl⟩
def ti68 : TI := ⟨.slice 83, 1, 24, .slice none 0 0⟩
theorem tk68 : TIok Tryz.prog 68 ti68 := ⟨Tryz.underlying68, by kernel_rfl⟩
def ti69 : TI := ⟨.slice 37, 1, 24, .slice none 0 0⟩
theorem tk69 : TIok Tryz.prog 69 ti69 := ⟨Tryz.underlying69, by kernel_rfl⟩
def ti70 : TI := ⟨.slice 3, 1, 24, .slice none 0 0⟩
theorem tk70 : TIok Tryz.prog 70 ti70 := ⟨Tryz.underlying70, by kernel_rfl⟩
def ti71 : TI := ⟨.struct #[{ name := "Groups", type := 3, offset := 0, embedded := false, tag := "", pkgPath := "", byteOffset := 0 }, { name := "Applied", type := 3, offset := 1, embedded := false, tag := "", pkgPath := "", byteOffset := 8 }, { name := "Sagas", type := 67, offset := 2, embedded := false, tag := "", pkgPath := "", byteOffset := 16 }, { name := "Moves", type := 68, offset := 3, embedded := false, tag := "", pkgPath := "", byteOffset := 40 }, { name := "Ranges", type := 69, offset := 4, embedded := false, tag := "", pkgPath := "", byteOffset := 64 }, { name := "Owners", type := 70, offset := 5, embedded := false, tag := "", pkgPath := "", byteOffset := 88 }, { name := "Epochs", type := 70, offset := 6, embedded := false, tag := "", pkgPath := "", byteOffset := 112 }], 7, 136, .agg #[.int .i64 0, .int .i64 0, .slice none 0 0, .slice none 0 0, .slice none 0 0, .slice none 0 0, .slice none 0 0]⟩
theorem tk71 : TIok Tryz.prog 71 ti71 := ⟨Tryz.underlying71, by kernel_rfl⟩
def ti72 : TI := ⟨.struct #[{ name := "Groups", type := 3, offset := 0, embedded := false, tag := "", pkgPath := "", byteOffset := 0 }, { name := "Applied", type := 3, offset := 1, embedded := false, tag := "", pkgPath := "", byteOffset := 8 }, { name := "Sagas", type := 67, offset := 2, embedded := false, tag := "", pkgPath := "", byteOffset := 16 }, { name := "Moves", type := 68, offset := 3, embedded := false, tag := "", pkgPath := "", byteOffset := 40 }, { name := "Ranges", type := 69, offset := 4, embedded := false, tag := "", pkgPath := "", byteOffset := 64 }, { name := "Owners", type := 70, offset := 5, embedded := false, tag := "", pkgPath := "", byteOffset := 88 }, { name := "Epochs", type := 70, offset := 6, embedded := false, tag := "", pkgPath := "", byteOffset := 112 }], 7, 136, .agg #[.int .i64 0, .int .i64 0, .slice none 0 0, .slice none 0 0, .slice none 0 0, .slice none 0 0, .slice none 0 0]⟩
theorem tk72 : TIok Tryz.prog 72 ti72 := ⟨Tryz.underlying72, by kernel_rfl⟩
def ti73 : TI := ⟨.func #[] #[72] false, 1, 8, .nilFunc⟩
theorem tk73 : TIok Tryz.prog 73 ti73 := ⟨Tryz.underlying73, by kernel_rfl⟩
def ti74 : TI := ⟨.slice 42, 1, 24, .slice none 0 0⟩
theorem tk74 : TIok Tryz.prog 74 ti74 := ⟨Tryz.underlying74, by kernel_rfl⟩
def ti76 : TI := ⟨.struct #[{ name := "Id", type := 3, offset := 0, embedded := false, tag := "", pkgPath := "", byteOffset := 0 }, { name := "Saga", type := 57, offset := 1, embedded := false, tag := "", pkgPath := "", byteOffset := 8 }], 11, 112, .agg #[.int .i64 0, .string ⟨#[]⟩, .int .i64 0, .int .i64 0, .slice none 0 0, .int .i64 0, .int .i64 0, .bool false, .int .i64 0, .int .i64 0, .int .i64 0]⟩
theorem tk76 : TIok Tryz.prog 76 ti76 := ⟨Tryz.underlying76, by kernel_rfl⟩
def ti80 : TI := ⟨.struct #[{ name := "Key", type := 9, offset := 0, embedded := false, tag := "", pkgPath := "", byteOffset := 0 }, { name := "Delta", type := 2, offset := 1, embedded := false, tag := "", pkgPath := "", byteOffset := 16 }], 2, 24, .agg #[.string ⟨#[]⟩, .int .i64 0]⟩
theorem tk80 : TIok Tryz.prog 80 ti80 := ⟨Tryz.underlying80, by kernel_rfl⟩
def ti83 : TI := ⟨.struct #[{ name := "R", type := 37, offset := 0, embedded := false, tag := "", pkgPath := "", byteOffset := 0 }, { name := "From", type := 3, offset := 2, embedded := false, tag := "", pkgPath := "", byteOffset := 32 }, { name := "To", type := 3, offset := 3, embedded := false, tag := "", pkgPath := "", byteOffset := 40 }, { name := "State", type := 3, offset := 4, embedded := false, tag := "", pkgPath := "", byteOffset := 48 }, { name := "Data", type := 9, offset := 5, embedded := false, tag := "", pkgPath := "", byteOffset := 56 }], 6, 72, .agg #[.string ⟨#[]⟩, .string ⟨#[]⟩, .int .i64 0, .int .i64 0, .int .i64 0, .string ⟨#[]⟩]⟩
theorem tk83 : TIok Tryz.prog 83 ti83 := ⟨Tryz.underlying83, by kernel_rfl⟩
def ti84 : TI := ⟨.func #[83] #[4] false, 1, 8, .nilFunc⟩
theorem tk84 : TIok Tryz.prog 84 ti84 := ⟨Tryz.underlying84, by kernel_rfl⟩
def ti86 : TI := ⟨.func #[31] #[3, 32] false, 1, 8, .nilFunc⟩
theorem tk86 : TIok Tryz.prog 86 ti86 := ⟨Tryz.underlying86, by kernel_rfl⟩
def ti90 : TI := ⟨.func #[] #[40] false, 1, 8, .nilFunc⟩
theorem tk90 : TIok Tryz.prog 90 ti90 := ⟨Tryz.underlying90, by kernel_rfl⟩
def ti91 : TI := ⟨.slice 5, 1, 24, .slice none 0 0⟩
theorem tk91 : TIok Tryz.prog 91 ti91 := ⟨Tryz.underlying91, by kernel_rfl⟩
def ti94 : TI := ⟨.slice 148, 1, 24, .slice none 0 0⟩
theorem tk94 : TIok Tryz.prog 94 ti94 := ⟨Tryz.underlying94, by kernel_rfl⟩
def ti95 : TI := ⟨.slice 149, 1, 24, .slice none 0 0⟩
theorem tk95 : TIok Tryz.prog 95 ti95 := ⟨Tryz.underlying95, by kernel_rfl⟩
def ti97 : TI := ⟨.struct #[{ name := "Groups", type := 3, offset := 0, embedded := false, tag := "", pkgPath := "", byteOffset := 0 }, { name := "Applied", type := 3, offset := 1, embedded := false, tag := "", pkgPath := "", byteOffset := 8 }, { name := "Sagas", type := 94, offset := 2, embedded := false, tag := "", pkgPath := "", byteOffset := 16 }, { name := "Moves", type := 95, offset := 3, embedded := false, tag := "", pkgPath := "", byteOffset := 40 }, { name := "Ranges", type := 69, offset := 4, embedded := false, tag := "", pkgPath := "", byteOffset := 64 }, { name := "Owners", type := 70, offset := 5, embedded := false, tag := "", pkgPath := "", byteOffset := 88 }, { name := "Epochs", type := 70, offset := 6, embedded := false, tag := "", pkgPath := "", byteOffset := 112 }], 7, 136, .agg #[.int .i64 0, .int .i64 0, .slice none 0 0, .slice none 0 0, .slice none 0 0, .slice none 0 0, .slice none 0 0]⟩
theorem tk97 : TIok Tryz.prog 97 ti97 := ⟨Tryz.underlying97, by kernel_rfl⟩
def ti98 : TI := ⟨.func #[72] #[97] false, 1, 8, .nilFunc⟩
theorem tk98 : TIok Tryz.prog 98 ti98 := ⟨Tryz.underlying98, by kernel_rfl⟩
def ti99 : TI := ⟨.func #[] #[3] false, 1, 8, .nilFunc⟩
theorem tk99 : TIok Tryz.prog 99 ti99 := ⟨Tryz.underlying99, by kernel_rfl⟩
def ti100 : TI := ⟨.func #[97, 97] #[4] false, 1, 8, .nilFunc⟩
theorem tk100 : TIok Tryz.prog 100 ti100 := ⟨Tryz.underlying100, by kernel_rfl⟩
def ti101 : TI := ⟨.func #[3, 3, 3, 3] #[31] false, 1, 8, .nilFunc⟩
theorem tk101 : TIok Tryz.prog 101 ti101 := ⟨Tryz.underlying101, by kernel_rfl⟩
def ti102 : TI := ⟨.func #[] #[23] false, 1, 8, .nilFunc⟩
theorem tk102 : TIok Tryz.prog 102 ti102 := ⟨Tryz.underlying102, by kernel_rfl⟩
def ti103 : TI := ⟨.func #[22, 46, 5] #[4] false, 1, 8, .nilFunc⟩
theorem tk103 : TIok Tryz.prog 103 ti103 := ⟨Tryz.underlying103, by kernel_rfl⟩
def ti104 : TI := ⟨.func #[72] #[23, 32] false, 1, 8, .nilFunc⟩
theorem tk104 : TIok Tryz.prog 104 ti104 := ⟨Tryz.underlying104, by kernel_rfl⟩
def ti105 : TI := ⟨.func #[159] #[] false, 1, 8, .nilFunc⟩
theorem tk105 : TIok Tryz.prog 105 ti105 := ⟨Tryz.underlying105, by kernel_rfl⟩
def ti106 : TI := ⟨.func #[159] #[] false, 1, 8, .nilFunc⟩
theorem tk106 : TIok Tryz.prog 106 ti106 := ⟨Tryz.underlying106, by kernel_rfl⟩
def ti107 : TI := ⟨.func #[] #[106] false, 1, 8, .nilFunc⟩
theorem tk107 : TIok Tryz.prog 107 ti107 := ⟨Tryz.underlying107, by kernel_rfl⟩
def ti108 : TI := ⟨.func #[25, 110] #[] false, 1, 8, .nilFunc⟩
theorem tk108 : TIok Tryz.prog 108 ti108 := ⟨Tryz.underlying108, by kernel_rfl⟩
def ti109 : TI := ⟨.func #[31] #[3] false, 1, 8, .nilFunc⟩
theorem tk109 : TIok Tryz.prog 109 ti109 := ⟨Tryz.underlying109, by kernel_rfl⟩
def ti110 : TI := ⟨.func #[31, 31] #[3] false, 1, 8, .nilFunc⟩
theorem tk110 : TIok Tryz.prog 110 ti110 := ⟨Tryz.underlying110, by kernel_rfl⟩
def ti111 : TI := ⟨.struct #[{ name := "c", type := 42, offset := 0, embedded := false, tag := "", pkgPath := "skald/skaldlaw35", byteOffset := 0 }, { name := "want", type := 34, offset := 24, embedded := false, tag := "", pkgPath := "skald/skaldlaw35", byteOffset := 248 }, { name := "items", type := 25, offset := 27, embedded := false, tag := "", pkgPath := "skald/skaldlaw35", byteOffset := 280 }], 28, 304, .agg #[.int .i64 0, .int .i64 0, .int .i64 0, .int .i64 0, .int .i64 0, .int .i64 0, .string ⟨#[]⟩, .int .i64 0, .int .i64 0, .string ⟨#[]⟩, .string ⟨#[]⟩, .int .i64 0, .string ⟨#[]⟩, .int .i64 0, .int .i64 0, .slice none 0 0, .int .i64 0, .int .i64 0, .int .i64 0, .int .i64 0, .bool false, .int .i64 0, .int .i64 0, .string ⟨#[]⟩, .int .i64 0, .int .i64 0, .string ⟨#[]⟩, .slice none 0 0]⟩
theorem tk111 : TIok Tryz.prog 111 ti111 := ⟨Tryz.underlying111, by kernel_rfl⟩
def ti112 : TI := ⟨.slice 111, 1, 24, .slice none 0 0⟩
theorem tk112 : TIok Tryz.prog 112 ti112 := ⟨Tryz.underlying112, by kernel_rfl⟩
def ti113 : TI := ⟨.func #[32] #[34] false, 1, 8, .nilFunc⟩
theorem tk113 : TIok Tryz.prog 113 ti113 := ⟨Tryz.underlying113, by kernel_rfl⟩
def ti114 : TI := ⟨.func #[23, 42] #[34] false, 1, 8, .nilFunc⟩
theorem tk114 : TIok Tryz.prog 114 ti114 := ⟨Tryz.underlying114, by kernel_rfl⟩
def ti115 : TI := ⟨.map 3 114, 1, 8, .map none⟩
theorem tk115 : TIok Tryz.prog 115 ti115 := ⟨Tryz.underlying115, by kernel_rfl⟩
def ti116 : TI := ⟨.func #[42] #[32] false, 1, 8, .nilFunc⟩
theorem tk116 : TIok Tryz.prog 116 ti116 := ⟨Tryz.underlying116, by kernel_rfl⟩
def ti117 : TI := ⟨.pointer 210, 1, 8, .pointer none⟩
theorem tk117 : TIok Tryz.prog 117 ti117 := ⟨Tryz.underlying117, by kernel_rfl⟩
def ti118 : TI := ⟨.pointer 212, 1, 8, .pointer none⟩
theorem tk118 : TIok Tryz.prog 118 ti118 := ⟨Tryz.underlying118, by kernel_rfl⟩
def ti119 : TI := ⟨.pointer 202, 1, 8, .pointer none⟩
theorem tk119 : TIok Tryz.prog 119 ti119 := ⟨Tryz.underlying119, by kernel_rfl⟩
def ti120 : TI := ⟨.struct #[{ name := "groups", type := 3, offset := 0, embedded := false, tag := "", pkgPath := "skald/orch", byteOffset := 0 }, { name := "done", type := 3, offset := 1, embedded := false, tag := "", pkgPath := "skald/orch", byteOffset := 8 }, { name := "sagas", type := 117, offset := 2, embedded := false, tag := "", pkgPath := "skald/orch", byteOffset := 16 }, { name := "moves", type := 118, offset := 3, embedded := false, tag := "", pkgPath := "skald/orch", byteOffset := 24 }, { name := "route", type := 119, offset := 4, embedded := false, tag := "", pkgPath := "skald/orch", byteOffset := 32 }], 5, 40, .agg #[.int .i64 0, .int .i64 0, .pointer none, .pointer none, .pointer none]⟩
theorem tk120 : TIok Tryz.prog 120 ti120 := ⟨Tryz.underlying120, by kernel_rfl⟩
def ti121 : TI := ⟨.struct #[{ name := "groups", type := 3, offset := 0, embedded := false, tag := "", pkgPath := "skald/orch", byteOffset := 0 }, { name := "done", type := 3, offset := 1, embedded := false, tag := "", pkgPath := "skald/orch", byteOffset := 8 }, { name := "sagas", type := 117, offset := 2, embedded := false, tag := "", pkgPath := "skald/orch", byteOffset := 16 }, { name := "moves", type := 118, offset := 3, embedded := false, tag := "", pkgPath := "skald/orch", byteOffset := 24 }, { name := "route", type := 119, offset := 4, embedded := false, tag := "", pkgPath := "skald/orch", byteOffset := 32 }], 5, 40, .agg #[.int .i64 0, .int .i64 0, .pointer none, .pointer none, .pointer none]⟩
theorem tk121 : TIok Tryz.prog 121 ti121 := ⟨Tryz.underlying121, by kernel_rfl⟩
def ti122 : TI := ⟨.func #[25, 31] #[3] false, 1, 8, .nilFunc⟩
theorem tk122 : TIok Tryz.prog 122 ti122 := ⟨Tryz.underlying122, by kernel_rfl⟩
def ti124 : TI := ⟨.int .u64, 1, 8, .int .u64 0⟩
theorem tk124 : TIok Tryz.prog 124 ti124 := ⟨Tryz.underlying124, by kernel_rfl⟩
def ti125 : TI := ⟨.slice 32, 1, 24, .slice none 0 0⟩
theorem tk125 : TIok Tryz.prog 125 ti125 := ⟨Tryz.underlying125, by kernel_rfl⟩
def ti126 : TI := ⟨.func #[9, 9] #[3] false, 1, 8, .nilFunc⟩
theorem tk126 : TIok Tryz.prog 126 ti126 := ⟨Tryz.underlying126, by kernel_rfl⟩
def ti129 : TI := ⟨.func #[9] #[4] false, 1, 8, .nilFunc⟩
theorem tk129 : TIok Tryz.prog 129 ti129 := ⟨Tryz.underlying129, by kernel_rfl⟩
def ti135 : TI := ⟨.array 4 3, 4, 32, .agg #[.int .i64 0, .int .i64 0, .int .i64 0, .int .i64 0]⟩
theorem tk135 : TIok Tryz.prog 135 ti135 := ⟨Tryz.underlying135, by kernel_rfl⟩
def ti142 : TI := ⟨.array 6 3, 6, 48, .agg #[.int .i64 0, .int .i64 0, .int .i64 0, .int .i64 0, .int .i64 0, .int .i64 0]⟩
theorem tk142 : TIok Tryz.prog 142 ti142 := ⟨Tryz.underlying142, by kernel_rfl⟩
def ti143 : TI := ⟨.struct #[{ name := "Tried", type := 3, offset := 0, embedded := false, tag := "", pkgPath := "", byteOffset := 0 }, { name := "Began", type := 3, offset := 1, embedded := false, tag := "", pkgPath := "", byteOffset := 8 }], 2, 16, .agg #[.int .i64 0, .int .i64 0]⟩
theorem tk143 : TIok Tryz.prog 143 ti143 := ⟨Tryz.underlying143, by kernel_rfl⟩
def ti145 : TI := ⟨.struct #[{ name := "Def", type := 40, offset := 0, embedded := false, tag := "", pkgPath := "", byteOffset := 0 }, { name := "State", type := 3, offset := 4, embedded := false, tag := "", pkgPath := "", byteOffset := 56 }, { name := "At", type := 3, offset := 5, embedded := false, tag := "", pkgPath := "", byteOffset := 64 }, { name := "Cancel", type := 4, offset := 6, embedded := false, tag := "", pkgPath := "", byteOffset := 72 }, { name := "Budget", type := 143, offset := 7, embedded := false, tag := "", pkgPath := "", byteOffset := 80 }, { name := "Err", type := 32, offset := 9, embedded := false, tag := "", pkgPath := "", byteOffset := 96 }], 10, 104, .agg #[.string ⟨#[]⟩, .int .i64 0, .int .i64 0, .slice none 0 0, .int .i64 0, .int .i64 0, .bool false, .int .i64 0, .int .i64 0, .int .i64 0]⟩
theorem tk145 : TIok Tryz.prog 145 ti145 := ⟨Tryz.underlying145, by kernel_rfl⟩
def ti148 : TI := ⟨.struct #[{ name := "Id", type := 3, offset := 0, embedded := false, tag := "", pkgPath := "", byteOffset := 0 }, { name := "Saga", type := 145, offset := 1, embedded := false, tag := "", pkgPath := "", byteOffset := 8 }], 11, 112, .agg #[.int .i64 0, .string ⟨#[]⟩, .int .i64 0, .int .i64 0, .slice none 0 0, .int .i64 0, .int .i64 0, .bool false, .int .i64 0, .int .i64 0, .int .i64 0]⟩
theorem tk148 : TIok Tryz.prog 148 ti148 := ⟨Tryz.underlying148, by kernel_rfl⟩
def ti149 : TI := ⟨.struct #[{ name := "R", type := 37, offset := 0, embedded := false, tag := "", pkgPath := "", byteOffset := 0 }, { name := "From", type := 3, offset := 2, embedded := false, tag := "", pkgPath := "", byteOffset := 32 }, { name := "To", type := 3, offset := 3, embedded := false, tag := "", pkgPath := "", byteOffset := 40 }, { name := "State", type := 3, offset := 4, embedded := false, tag := "", pkgPath := "", byteOffset := 48 }, { name := "Data", type := 9, offset := 5, embedded := false, tag := "", pkgPath := "", byteOffset := 56 }], 6, 72, .agg #[.string ⟨#[]⟩, .string ⟨#[]⟩, .int .i64 0, .int .i64 0, .int .i64 0, .string ⟨#[]⟩]⟩
theorem tk149 : TIok Tryz.prog 149 ti149 := ⟨Tryz.underlying149, by kernel_rfl⟩
def ti152 : TI := ⟨.func #[148, 148] #[4] false, 1, 8, .nilFunc⟩
theorem tk152 : TIok Tryz.prog 152 ti152 := ⟨Tryz.underlying152, by kernel_rfl⟩
def ti156 : TI := ⟨.func #[] #[119] false, 1, 8, .nilFunc⟩
theorem tk156 : TIok Tryz.prog 156 ti156 := ⟨Tryz.underlying156, by kernel_rfl⟩
def ti159 : TI := ⟨.func #[31, 42] #[4] false, 1, 8, .nilFunc⟩
theorem tk159 : TIok Tryz.prog 159 ti159 := ⟨Tryz.underlying159, by kernel_rfl⟩
def ti160 : TI := ⟨.slice 29, 1, 24, .slice none 0 0⟩
theorem tk160 : TIok Tryz.prog 160 ti160 := ⟨Tryz.underlying160, by kernel_rfl⟩
def ti171 : TI := ⟨.func #[3] #[4] false, 1, 8, .nilFunc⟩
theorem tk171 : TIok Tryz.prog 171 ti171 := ⟨Tryz.underlying171, by kernel_rfl⟩
def ti175 : TI := ⟨.func #[3, 9] #[32] false, 1, 8, .nilFunc⟩
theorem tk175 : TIok Tryz.prog 175 ti175 := ⟨Tryz.underlying175, by kernel_rfl⟩
def ti177 : TI := ⟨.slice 186, 1, 24, .slice none 0 0⟩
theorem tk177 : TIok Tryz.prog 177 ti177 := ⟨Tryz.underlying177, by kernel_rfl⟩
def ti180 : TI := ⟨.func #[187] #[4] false, 1, 8, .nilFunc⟩
theorem tk180 : TIok Tryz.prog 180 ti180 := ⟨Tryz.underlying180, by kernel_rfl⟩
def ti181 : TI := ⟨.func #[285, 187] #[] false, 1, 8, .nilFunc⟩
theorem tk181 : TIok Tryz.prog 181 ti181 := ⟨Tryz.underlying181, by kernel_rfl⟩
def ti182 : TI := ⟨.func #[287, 187] #[] false, 1, 8, .nilFunc⟩
theorem tk182 : TIok Tryz.prog 182 ti182 := ⟨Tryz.underlying182, by kernel_rfl⟩
def ti183 : TI := ⟨.func #[187] #[9] false, 1, 8, .nilFunc⟩
theorem tk183 : TIok Tryz.prog 183 ti183 := ⟨Tryz.underlying183, by kernel_rfl⟩
def ti184 : TI := ⟨.func #[187] #[] false, 1, 8, .nilFunc⟩
theorem tk184 : TIok Tryz.prog 184 ti184 := ⟨Tryz.underlying184, by kernel_rfl⟩
def ti186 : TI := ⟨.struct #[{ name := "ok", type := 180, offset := 0, embedded := false, tag := "", pkgPath := "skald/cmds", byteOffset := 0 }, { name := "write", type := 181, offset := 1, embedded := false, tag := "", pkgPath := "skald/cmds", byteOffset := 8 }, { name := "read", type := 182, offset := 2, embedded := false, tag := "", pkgPath := "skald/cmds", byteOffset := 16 }, { name := "text", type := 183, offset := 3, embedded := false, tag := "", pkgPath := "skald/cmds", byteOffset := 24 }, { name := "clear", type := 184, offset := 4, embedded := false, tag := "", pkgPath := "skald/cmds", byteOffset := 32 }], 5, 40, .agg #[.nilFunc, .nilFunc, .nilFunc, .nilFunc, .nilFunc]⟩
theorem tk186 : TIok Tryz.prog 186 ti186 := ⟨Tryz.underlying186, by kernel_rfl⟩
def ti187 : TI := ⟨.pointer 42, 1, 8, .pointer none⟩
theorem tk187 : TIok Tryz.prog 187 ti187 := ⟨Tryz.underlying187, by kernel_rfl⟩
def ti190 : TI := ⟨.func #[57] #[57] false, 1, 8, .nilFunc⟩
theorem tk190 : TIok Tryz.prog 190 ti190 := ⟨Tryz.underlying190, by kernel_rfl⟩
def ti191 : TI := ⟨.func #[57] #[57, 32] false, 1, 8, .nilFunc⟩
theorem tk191 : TIok Tryz.prog 191 ti191 := ⟨Tryz.underlying191, by kernel_rfl⟩
def ti193 : TI := ⟨.struct #[{ name := "r", type := 37, offset := 0, embedded := false, tag := "", pkgPath := "skald/route", byteOffset := 0 }, { name := "group", type := 3, offset := 2, embedded := false, tag := "", pkgPath := "skald/route", byteOffset := 32 }, { name := "epoch", type := 3, offset := 3, embedded := false, tag := "", pkgPath := "skald/route", byteOffset := 40 }], 4, 48, .agg #[.string ⟨#[]⟩, .string ⟨#[]⟩, .int .i64 0, .int .i64 0]⟩
theorem tk193 : TIok Tryz.prog 193 ti193 := ⟨Tryz.underlying193, by kernel_rfl⟩
def ti199 : TI := ⟨.func #[21] #[4] false, 1, 8, .nilFunc⟩
theorem tk199 : TIok Tryz.prog 199 ti199 := ⟨Tryz.underlying199, by kernel_rfl⟩
def ti200 : TI := ⟨.slice 193, 1, 24, .slice none 0 0⟩
theorem tk200 : TIok Tryz.prog 200 ti200 := ⟨Tryz.underlying200, by kernel_rfl⟩
def ti201 : TI := ⟨.struct #[{ name := "parts", type := 200, offset := 0, embedded := false, tag := "", pkgPath := "skald/route", byteOffset := 0 }], 1, 24, .agg #[.slice none 0 0]⟩
theorem tk201 : TIok Tryz.prog 201 ti201 := ⟨Tryz.underlying201, by kernel_rfl⟩
def ti202 : TI := ⟨.struct #[{ name := "parts", type := 200, offset := 0, embedded := false, tag := "", pkgPath := "skald/route", byteOffset := 0 }], 1, 24, .agg #[.slice none 0 0]⟩
theorem tk202 : TIok Tryz.prog 202 ti202 := ⟨Tryz.underlying202, by kernel_rfl⟩
def ti203 : TI := ⟨.func #[] #[32] false, 1, 8, .nilFunc⟩
theorem tk203 : TIok Tryz.prog 203 ti203 := ⟨Tryz.underlying203, by kernel_rfl⟩
def ti206 : TI := ⟨.func #[171] #[] false, 1, 8, .nilFunc⟩
theorem tk206 : TIok Tryz.prog 206 ti206 := ⟨Tryz.underlying206, by kernel_rfl⟩
def ti208 : TI := ⟨.map 3 57, 1, 8, .map none⟩
theorem tk208 : TIok Tryz.prog 208 ti208 := ⟨Tryz.underlying208, by kernel_rfl⟩
def ti210 : TI := ⟨.struct #[{ name := "l", type := 208, offset := 0, embedded := false, tag := "", pkgPath := "skald/sagas", byteOffset := 0 }], 1, 8, .agg #[.map none]⟩
theorem tk210 : TIok Tryz.prog 210 ti210 := ⟨Tryz.underlying210, by kernel_rfl⟩
def ti212 : TI := ⟨.struct #[{ name := "made", type := 4, offset := 0, embedded := false, tag := "", pkgPath := "skald/moves", byteOffset := 0 }, { name := "list", type := 68, offset := 1, embedded := false, tag := "", pkgPath := "skald/moves", byteOffset := 8 }], 2, 32, .agg #[.bool false, .slice none 0 0]⟩
theorem tk212 : TIok Tryz.prog 212 ti212 := ⟨Tryz.underlying212, by kernel_rfl⟩
def ti213 : TI := ⟨.pointer 83, 1, 8, .pointer none⟩
theorem tk213 : TIok Tryz.prog 213 ti213 := ⟨Tryz.underlying213, by kernel_rfl⟩
def ti220 : TI := ⟨.func #[270] #[] false, 1, 8, .nilFunc⟩
theorem tk220 : TIok Tryz.prog 220 ti220 := ⟨Tryz.underlying220, by kernel_rfl⟩
def ti227 : TI := ⟨.func #[271] #[] false, 1, 8, .nilFunc⟩
theorem tk227 : TIok Tryz.prog 227 ti227 := ⟨Tryz.underlying227, by kernel_rfl⟩
def ti230 : TI := ⟨.int .i64, 1, 8, .int .i64 0⟩
theorem tk230 : TIok Tryz.prog 230 ti230 := ⟨Tryz.underlying230, by kernel_rfl⟩
def ti238 : TI := ⟨.int .u32, 1, 4, .int .u32 0⟩
theorem tk238 : TIok Tryz.prog 238 ti238 := ⟨Tryz.underlying238, by kernel_rfl⟩
def ti240 : TI := ⟨.int .u64, 1, 8, .int .u64 0⟩
theorem tk240 : TIok Tryz.prog 240 ti240 := ⟨Tryz.underlying240, by kernel_rfl⟩
def ti243 : TI := ⟨.func #[280] #[] false, 1, 8, .nilFunc⟩
theorem tk243 : TIok Tryz.prog 243 ti243 := ⟨Tryz.underlying243, by kernel_rfl⟩
def ti254 : TI := ⟨.func #[193] #[4] false, 1, 8, .nilFunc⟩
theorem tk254 : TIok Tryz.prog 254 ti254 := ⟨Tryz.underlying254, by kernel_rfl⟩
def ti255 : TI := ⟨.slice 9, 1, 24, .slice none 0 0⟩
theorem tk255 : TIok Tryz.prog 255 ti255 := ⟨Tryz.underlying255, by kernel_rfl⟩
def ti258 : TI := ⟨.array 256 4, 256, 256, .agg #[.bool false, .bool false, .bool false, .bool false, .bool false, .bool false, .bool false, .bool false, .bool false, .bool false, .bool false, .bool false, .bool false, .bool false, .bool false, .bool false, .bool false, .bool false, .bool false, .bool false, .bool false, .bool false, .bool false, .bool false, .bool false, .bool false, .bool false, .bool false, .bool false, .bool false, .bool false, .bool false, .bool false, .bool false, .bool false, .bool false, .bool false, .bool false, .bool false, .bool false, .bool false, .bool false, .bool false, .bool false, .bool false, .bool false, .bool false, .bool false, .bool false, .bool false, .bool false, .bool false, .bool false, .bool false, .bool false, .bool false, .bool false, .bool false, .bool false, .bool false, .bool false, .bool false, .bool false, .bool false, .bool false, .bool false, .bool false, .bool false, .bool false, .bool false, .bool false, .bool false, .bool false, .bool false, .bool false, .bool false, .bool false, .bool false, .bool false, .bool false, .bool false, .bool false, .bool false, .bool false, .bool false, .bool false, .bool false, .bool false, .bool false, .bool false, .bool false, .bool false, .bool false, .bool false, .bool false, .bool false, .bool false, .bool false, .bool false, .bool false, .bool false, .bool false, .bool false, .bool false, .bool false, .bool false, .bool false, .bool false, .bool false, .bool false, .bool false, .bool false, .bool false, .bool false, .bool false, .bool false, .bool false, .bool false, .bool false, .bool false, .bool false, .bool false, .bool false, .bool false, .bool false, .bool false, .bool false, .bool false, .bool false, .bool false, .bool false, .bool false, .bool false, .bool false, .bool false, .bool false, .bool false, .bool false, .bool false, .bool false, .bool false, .bool false, .bool false, .bool false, .bool false, .bool false, .bool false, .bool false, .bool false, .bool false, .bool false, .bool false, .bool false, .bool false, .bool false, .bool false, .bool false, .bool false, .bool false, .bool false, .bool false, .bool false, .bool false, .bool false, .bool false, .bool false, .bool false, .bool false, .bool false, .bool false, .bool false, .bool false, .bool false, .bool false, .bool false, .bool false, .bool false, .bool false, .bool false, .bool false, .bool false, .bool false, .bool false, .bool false, .bool false, .bool false, .bool false, .bool false, .bool false, .bool false, .bool false, .bool false, .bool false, .bool false, .bool false, .bool false, .bool false, .bool false, .bool false, .bool false, .bool false, .bool false, .bool false, .bool false, .bool false, .bool false, .bool false, .bool false, .bool false, .bool false, .bool false, .bool false, .bool false, .bool false, .bool false, .bool false, .bool false, .bool false, .bool false, .bool false, .bool false, .bool false, .bool false, .bool false, .bool false, .bool false, .bool false, .bool false, .bool false, .bool false, .bool false, .bool false, .bool false, .bool false, .bool false, .bool false, .bool false, .bool false, .bool false, .bool false, .bool false, .bool false, .bool false, .bool false, .bool false, .bool false, .bool false, .bool false, .bool false, .bool false, .bool false, .bool false, .bool false, .bool false, .bool false, .bool false]⟩
theorem tk258 : TIok Tryz.prog 258 ti258 := ⟨Tryz.underlying258, by kernel_rfl⟩
def ti262 : TI := ⟨.pointer 258, 1, 8, .pointer none⟩
theorem tk262 : TIok Tryz.prog 262 ti262 := ⟨Tryz.underlying262, by kernel_rfl⟩
def ti267 : TI := ⟨.func #[80] #[4] false, 1, 8, .nilFunc⟩
theorem tk267 : TIok Tryz.prog 267 ti267 := ⟨Tryz.underlying267, by kernel_rfl⟩
def ti270 : TI := ⟨.func #[3, 83] #[4] false, 1, 8, .nilFunc⟩
theorem tk270 : TIok Tryz.prog 270 ti270 := ⟨Tryz.underlying270, by kernel_rfl⟩
def ti271 : TI := ⟨.func #[3, 29] #[4] false, 1, 8, .nilFunc⟩
theorem tk271 : TIok Tryz.prog 271 ti271 := ⟨Tryz.underlying271, by kernel_rfl⟩
def ti272 : TI := ⟨.int .u64, 1, 8, .int .u64 0⟩
theorem tk272 : TIok Tryz.prog 272 ti272 := ⟨Tryz.underlying272, by kernel_rfl⟩
def ti276 : TI := ⟨.pointer 3, 1, 8, .pointer none⟩
theorem tk276 : TIok Tryz.prog 276 ti276 := ⟨Tryz.underlying276, by kernel_rfl⟩
def ti277 : TI := ⟨.func #[25, 3, 3, 3, 276, 110] #[3] false, 1, 8, .nilFunc⟩
theorem tk277 : TIok Tryz.prog 277 ti277 := ⟨Tryz.underlying277, by kernel_rfl⟩
def ti279 : TI := ⟨.func #[40, 3] #[55, 32] false, 1, 8, .nilFunc⟩
theorem tk279 : TIok Tryz.prog 279 ti279 := ⟨Tryz.underlying279, by kernel_rfl⟩
def ti280 : TI := ⟨.func #[3, 193] #[4] false, 1, 8, .nilFunc⟩
theorem tk280 : TIok Tryz.prog 280 ti280 := ⟨Tryz.underlying280, by kernel_rfl⟩
def ti281 : TI := ⟨.func #[57, 32, 3] #[57] false, 1, 8, .nilFunc⟩
theorem tk281 : TIok Tryz.prog 281 ti281 := ⟨Tryz.underlying281, by kernel_rfl⟩
def ti282 : TI := ⟨.array 4 281, 4, 32, .agg #[.nilFunc, .nilFunc, .nilFunc, .nilFunc]⟩
theorem tk282 : TIok Tryz.prog 282 ti282 := ⟨Tryz.underlying282, by kernel_rfl⟩
def ti283 : TI := ⟨.slice 200, 1, 24, .slice none 0 0⟩
theorem tk283 : TIok Tryz.prog 283 ti283 := ⟨Tryz.underlying283, by kernel_rfl⟩
def ti285 : TI := ⟨.pointer 328, 1, 8, .pointer none⟩
theorem tk285 : TIok Tryz.prog 285 ti285 := ⟨Tryz.underlying285, by kernel_rfl⟩
def ti287 : TI := ⟨.pointer 346, 1, 8, .pointer none⟩
theorem tk287 : TIok Tryz.prog 287 ti287 := ⟨Tryz.underlying287, by kernel_rfl⟩
def ti290 : TI := ⟨.func #[29] #[9, 32] false, 1, 8, .nilFunc⟩
theorem tk290 : TIok Tryz.prog 290 ti290 := ⟨Tryz.underlying290, by kernel_rfl⟩
def ti291 : TI := ⟨.func #[293, 129, 294] #[186] false, 1, 8, .nilFunc⟩
theorem tk291 : TIok Tryz.prog 291 ti291 := ⟨Tryz.underlying291, by kernel_rfl⟩
def ti292 : TI := ⟨.pointer 9, 1, 8, .pointer none⟩
theorem tk292 : TIok Tryz.prog 292 ti292 := ⟨Tryz.underlying292, by kernel_rfl⟩
def ti293 : TI := ⟨.func #[187] #[292] false, 1, 8, .nilFunc⟩
theorem tk293 : TIok Tryz.prog 293 ti293 := ⟨Tryz.underlying293, by kernel_rfl⟩
def ti294 : TI := ⟨.func #[9] #[9] false, 1, 8, .nilFunc⟩
theorem tk294 : TIok Tryz.prog 294 ti294 := ⟨Tryz.underlying294, by kernel_rfl⟩
def ti299 : TI := ⟨.func #[187] #[276] false, 1, 8, .nilFunc⟩
theorem tk299 : TIok Tryz.prog 299 ti299 := ⟨Tryz.underlying299, by kernel_rfl⟩
def ti313 : TI := ⟨.func #[5] #[4] false, 1, 8, .nilFunc⟩
theorem tk313 : TIok Tryz.prog 313 ti313 := ⟨Tryz.underlying313, by kernel_rfl⟩
def ti315 : TI := ⟨.func #[9] #[21, 3] false, 1, 8, .nilFunc⟩
theorem tk315 : TIok Tryz.prog 315 ti315 := ⟨Tryz.underlying315, by kernel_rfl⟩
def ti316 : TI := ⟨.func #[9, 21] #[4] false, 1, 8, .nilFunc⟩
theorem tk316 : TIok Tryz.prog 316 ti316 := ⟨Tryz.underlying316, by kernel_rfl⟩
def ti321 : TI := ⟨.pointer 272, 1, 8, .pointer none⟩
theorem tk321 : TIok Tryz.prog 321 ti321 := ⟨Tryz.underlying321, by kernel_rfl⟩
def ti328 : TI := ⟨.struct #[{ name := "made", type := 4, offset := 0, embedded := false, tag := "", pkgPath := "skald/wire", byteOffset := 0 }, { name := "b", type := 91, offset := 1, embedded := false, tag := "", pkgPath := "skald/wire", byteOffset := 8 }], 2, 32, .agg #[.bool false, .slice none 0 0]⟩
theorem tk328 : TIok Tryz.prog 328 ti328 := ⟨Tryz.underlying328, by kernel_rfl⟩
def ti330 : TI := ⟨.func #[313] #[] false, 1, 8, .nilFunc⟩
theorem tk330 : TIok Tryz.prog 330 ti330 := ⟨Tryz.underlying330, by kernel_rfl⟩
def ti335 : TI := ⟨.func #[91] #[240, 3] false, 1, 8, .nilFunc⟩
theorem tk335 : TIok Tryz.prog 335 ti335 := ⟨Tryz.underlying335, by kernel_rfl⟩
def ti337 : TI := ⟨.func #[91] #[2, 3] false, 1, 8, .nilFunc⟩
theorem tk337 : TIok Tryz.prog 337 ti337 := ⟨Tryz.underlying337, by kernel_rfl⟩
def ti340 : TI := ⟨.func #[91] #[9, 3] false, 1, 8, .nilFunc⟩
theorem tk340 : TIok Tryz.prog 340 ti340 := ⟨Tryz.underlying340, by kernel_rfl⟩
def ti344 : TI := ⟨.array 3 3, 3, 24, .agg #[.int .i64 0, .int .i64 0, .int .i64 0]⟩
theorem tk344 : TIok Tryz.prog 344 ti344 := ⟨Tryz.underlying344, by kernel_rfl⟩
def ti346 : TI := ⟨.struct #[{ name := "made", type := 4, offset := 0, embedded := false, tag := "", pkgPath := "skald/wire", byteOffset := 0 }, { name := "failed", type := 4, offset := 1, embedded := false, tag := "", pkgPath := "skald/wire", byteOffset := 1 }, { name := "left", type := 91, offset := 2, embedded := false, tag := "", pkgPath := "skald/wire", byteOffset := 8 }], 3, 32, .agg #[.bool false, .bool false, .slice none 0 0]⟩
theorem tk346 : TIok Tryz.prog 346 ti346 := ⟨Tryz.underlying346, by kernel_rfl⟩
def ti355 : TI := ⟨.slice 203, 1, 24, .slice none 0 0⟩
theorem tk355 : TIok Tryz.prog 355 ti355 := ⟨Tryz.underlying355, by kernel_rfl⟩
def ti358 : TI := ⟨.array 24 5, 24, 24, .agg #[.int .u8 0, .int .u8 0, .int .u8 0, .int .u8 0, .int .u8 0, .int .u8 0, .int .u8 0, .int .u8 0, .int .u8 0, .int .u8 0, .int .u8 0, .int .u8 0, .int .u8 0, .int .u8 0, .int .u8 0, .int .u8 0, .int .u8 0, .int .u8 0, .int .u8 0, .int .u8 0, .int .u8 0, .int .u8 0, .int .u8 0, .int .u8 0]⟩
theorem tk358 : TIok Tryz.prog 358 ti358 := ⟨Tryz.underlying358, by kernel_rfl⟩
def ti364 : TI := ⟨.pointer 366, 1, 8, .pointer none⟩
theorem tk364 : TIok Tryz.prog 364 ti364 := ⟨Tryz.underlying364, by kernel_rfl⟩
def ti366 : TI := ⟨.struct #[{ name := "addr", type := 364, offset := 0, embedded := false, tag := "", pkgPath := "strings", byteOffset := 0 }, { name := "buf", type := 91, offset := 1, embedded := false, tag := "", pkgPath := "strings", byteOffset := 8 }], 2, 32, .agg #[.pointer none, .slice none 0 0]⟩
theorem tk366 : TIok Tryz.prog 366 ti366 := ⟨Tryz.underlying366, by kernel_rfl⟩
def ti372 : TI := ⟨.array 256 5, 256, 256, .agg #[.int .u8 0, .int .u8 0, .int .u8 0, .int .u8 0, .int .u8 0, .int .u8 0, .int .u8 0, .int .u8 0, .int .u8 0, .int .u8 0, .int .u8 0, .int .u8 0, .int .u8 0, .int .u8 0, .int .u8 0, .int .u8 0, .int .u8 0, .int .u8 0, .int .u8 0, .int .u8 0, .int .u8 0, .int .u8 0, .int .u8 0, .int .u8 0, .int .u8 0, .int .u8 0, .int .u8 0, .int .u8 0, .int .u8 0, .int .u8 0, .int .u8 0, .int .u8 0, .int .u8 0, .int .u8 0, .int .u8 0, .int .u8 0, .int .u8 0, .int .u8 0, .int .u8 0, .int .u8 0, .int .u8 0, .int .u8 0, .int .u8 0, .int .u8 0, .int .u8 0, .int .u8 0, .int .u8 0, .int .u8 0, .int .u8 0, .int .u8 0, .int .u8 0, .int .u8 0, .int .u8 0, .int .u8 0, .int .u8 0, .int .u8 0, .int .u8 0, .int .u8 0, .int .u8 0, .int .u8 0, .int .u8 0, .int .u8 0, .int .u8 0, .int .u8 0, .int .u8 0, .int .u8 0, .int .u8 0, .int .u8 0, .int .u8 0, .int .u8 0, .int .u8 0, .int .u8 0, .int .u8 0, .int .u8 0, .int .u8 0, .int .u8 0, .int .u8 0, .int .u8 0, .int .u8 0, .int .u8 0, .int .u8 0, .int .u8 0, .int .u8 0, .int .u8 0, .int .u8 0, .int .u8 0, .int .u8 0, .int .u8 0, .int .u8 0, .int .u8 0, .int .u8 0, .int .u8 0, .int .u8 0, .int .u8 0, .int .u8 0, .int .u8 0, .int .u8 0, .int .u8 0, .int .u8 0, .int .u8 0, .int .u8 0, .int .u8 0, .int .u8 0, .int .u8 0, .int .u8 0, .int .u8 0, .int .u8 0, .int .u8 0, .int .u8 0, .int .u8 0, .int .u8 0, .int .u8 0, .int .u8 0, .int .u8 0, .int .u8 0, .int .u8 0, .int .u8 0, .int .u8 0, .int .u8 0, .int .u8 0, .int .u8 0, .int .u8 0, .int .u8 0, .int .u8 0, .int .u8 0, .int .u8 0, .int .u8 0, .int .u8 0, .int .u8 0, .int .u8 0, .int .u8 0, .int .u8 0, .int .u8 0, .int .u8 0, .int .u8 0, .int .u8 0, .int .u8 0, .int .u8 0, .int .u8 0, .int .u8 0, .int .u8 0, .int .u8 0, .int .u8 0, .int .u8 0, .int .u8 0, .int .u8 0, .int .u8 0, .int .u8 0, .int .u8 0, .int .u8 0, .int .u8 0, .int .u8 0, .int .u8 0, .int .u8 0, .int .u8 0, .int .u8 0, .int .u8 0, .int .u8 0, .int .u8 0, .int .u8 0, .int .u8 0, .int .u8 0, .int .u8 0, .int .u8 0, .int .u8 0, .int .u8 0, .int .u8 0, .int .u8 0, .int .u8 0, .int .u8 0, .int .u8 0, .int .u8 0, .int .u8 0, .int .u8 0, .int .u8 0, .int .u8 0, .int .u8 0, .int .u8 0, .int .u8 0, .int .u8 0, .int .u8 0, .int .u8 0, .int .u8 0, .int .u8 0, .int .u8 0, .int .u8 0, .int .u8 0, .int .u8 0, .int .u8 0, .int .u8 0, .int .u8 0, .int .u8 0, .int .u8 0, .int .u8 0, .int .u8 0, .int .u8 0, .int .u8 0, .int .u8 0, .int .u8 0, .int .u8 0, .int .u8 0, .int .u8 0, .int .u8 0, .int .u8 0, .int .u8 0, .int .u8 0, .int .u8 0, .int .u8 0, .int .u8 0, .int .u8 0, .int .u8 0, .int .u8 0, .int .u8 0, .int .u8 0, .int .u8 0, .int .u8 0, .int .u8 0, .int .u8 0, .int .u8 0, .int .u8 0, .int .u8 0, .int .u8 0, .int .u8 0, .int .u8 0, .int .u8 0, .int .u8 0, .int .u8 0, .int .u8 0, .int .u8 0, .int .u8 0, .int .u8 0, .int .u8 0, .int .u8 0, .int .u8 0, .int .u8 0, .int .u8 0, .int .u8 0, .int .u8 0, .int .u8 0, .int .u8 0, .int .u8 0, .int .u8 0, .int .u8 0, .int .u8 0, .int .u8 0, .int .u8 0, .int .u8 0, .int .u8 0, .int .u8 0, .int .u8 0, .int .u8 0, .int .u8 0, .int .u8 0, .int .u8 0, .int .u8 0, .int .u8 0]⟩
theorem tk372 : TIok Tryz.prog 372 ti372 := ⟨Tryz.underlying372, by kernel_rfl⟩
def ti374 : TI := ⟨.struct #[{ name := "lo", type := 5, offset := 0, embedded := false, tag := "", pkgPath := "unicode/utf8", byteOffset := 0 }, { name := "hi", type := 5, offset := 1, embedded := false, tag := "", pkgPath := "unicode/utf8", byteOffset := 1 }], 2, 2, .agg #[.int .u8 0, .int .u8 0]⟩
theorem tk374 : TIok Tryz.prog 374 ti374 := ⟨Tryz.underlying374, by kernel_rfl⟩
def ti375 : TI := ⟨.array 16 374, 32, 32, .agg #[.int .u8 0, .int .u8 0, .int .u8 0, .int .u8 0, .int .u8 0, .int .u8 0, .int .u8 0, .int .u8 0, .int .u8 0, .int .u8 0, .int .u8 0, .int .u8 0, .int .u8 0, .int .u8 0, .int .u8 0, .int .u8 0, .int .u8 0, .int .u8 0, .int .u8 0, .int .u8 0, .int .u8 0, .int .u8 0, .int .u8 0, .int .u8 0, .int .u8 0, .int .u8 0, .int .u8 0, .int .u8 0, .int .u8 0, .int .u8 0, .int .u8 0, .int .u8 0]⟩
theorem tk375 : TIok Tryz.prog 375 ti375 := ⟨Tryz.underlying375, by kernel_rfl⟩
def ti377 : TI := ⟨.func #[3] #[3] false, 1, 8, .nilFunc⟩
theorem tk377 : TIok Tryz.prog 377 ti377 := ⟨Tryz.underlying377, by kernel_rfl⟩
def ti381 : TI := ⟨.array 20 240, 20, 160, .agg #[.int .u64 0, .int .u64 0, .int .u64 0, .int .u64 0, .int .u64 0, .int .u64 0, .int .u64 0, .int .u64 0, .int .u64 0, .int .u64 0, .int .u64 0, .int .u64 0, .int .u64 0, .int .u64 0, .int .u64 0, .int .u64 0, .int .u64 0, .int .u64 0, .int .u64 0, .int .u64 0]⟩
theorem tk381 : TIok Tryz.prog 381 ti381 := ⟨Tryz.underlying381, by kernel_rfl⟩
def ti382 : TI := ⟨.array 65 5, 65, 65, .agg #[.int .u8 0, .int .u8 0, .int .u8 0, .int .u8 0, .int .u8 0, .int .u8 0, .int .u8 0, .int .u8 0, .int .u8 0, .int .u8 0, .int .u8 0, .int .u8 0, .int .u8 0, .int .u8 0, .int .u8 0, .int .u8 0, .int .u8 0, .int .u8 0, .int .u8 0, .int .u8 0, .int .u8 0, .int .u8 0, .int .u8 0, .int .u8 0, .int .u8 0, .int .u8 0, .int .u8 0, .int .u8 0, .int .u8 0, .int .u8 0, .int .u8 0, .int .u8 0, .int .u8 0, .int .u8 0, .int .u8 0, .int .u8 0, .int .u8 0, .int .u8 0, .int .u8 0, .int .u8 0, .int .u8 0, .int .u8 0, .int .u8 0, .int .u8 0, .int .u8 0, .int .u8 0, .int .u8 0, .int .u8 0, .int .u8 0, .int .u8 0, .int .u8 0, .int .u8 0, .int .u8 0, .int .u8 0, .int .u8 0, .int .u8 0, .int .u8 0, .int .u8 0, .int .u8 0, .int .u8 0, .int .u8 0, .int .u8 0, .int .u8 0, .int .u8 0, .int .u8 0]⟩
theorem tk382 : TIok Tryz.prog 382 ti382 := ⟨Tryz.underlying382, by kernel_rfl⟩
def ti383 : TI := ⟨.pointer 5, 1, 8, .pointer none⟩
theorem tk383 : TIok Tryz.prog 383 ti383 := ⟨Tryz.underlying383, by kernel_rfl⟩
def ti388 : TI := ⟨.array 32 5, 32, 32, .agg #[.int .u8 0, .int .u8 0, .int .u8 0, .int .u8 0, .int .u8 0, .int .u8 0, .int .u8 0, .int .u8 0, .int .u8 0, .int .u8 0, .int .u8 0, .int .u8 0, .int .u8 0, .int .u8 0, .int .u8 0, .int .u8 0, .int .u8 0, .int .u8 0, .int .u8 0, .int .u8 0, .int .u8 0, .int .u8 0, .int .u8 0, .int .u8 0, .int .u8 0, .int .u8 0, .int .u8 0, .int .u8 0, .int .u8 0, .int .u8 0, .int .u8 0, .int .u8 0]⟩
theorem tk388 : TIok Tryz.prog 388 ti388 := ⟨Tryz.underlying388, by kernel_rfl⟩
def ti389 : TI := ⟨.array 64 5, 64, 64, .agg #[.int .u8 0, .int .u8 0, .int .u8 0, .int .u8 0, .int .u8 0, .int .u8 0, .int .u8 0, .int .u8 0, .int .u8 0, .int .u8 0, .int .u8 0, .int .u8 0, .int .u8 0, .int .u8 0, .int .u8 0, .int .u8 0, .int .u8 0, .int .u8 0, .int .u8 0, .int .u8 0, .int .u8 0, .int .u8 0, .int .u8 0, .int .u8 0, .int .u8 0, .int .u8 0, .int .u8 0, .int .u8 0, .int .u8 0, .int .u8 0, .int .u8 0, .int .u8 0, .int .u8 0, .int .u8 0, .int .u8 0, .int .u8 0, .int .u8 0, .int .u8 0, .int .u8 0, .int .u8 0, .int .u8 0, .int .u8 0, .int .u8 0, .int .u8 0, .int .u8 0, .int .u8 0, .int .u8 0, .int .u8 0, .int .u8 0, .int .u8 0, .int .u8 0, .int .u8 0, .int .u8 0, .int .u8 0, .int .u8 0, .int .u8 0, .int .u8 0, .int .u8 0, .int .u8 0, .int .u8 0, .int .u8 0, .int .u8 0, .int .u8 0, .int .u8 0]⟩
theorem tk389 : TIok Tryz.prog 389 ti389 := ⟨Tryz.underlying389, by kernel_rfl⟩
def ti391 : TI := ⟨.struct #[{ name := "_interface", type := 17, offset := 0, embedded := false, tag := "", pkgPath := "runtime", byteOffset := 0 }, { name := "concrete", type := 17, offset := 1, embedded := false, tag := "", pkgPath := "runtime", byteOffset := 8 }, { name := "asserted", type := 17, offset := 2, embedded := false, tag := "", pkgPath := "runtime", byteOffset := 16 }, { name := "missingMethod", type := 9, offset := 3, embedded := false, tag := "", pkgPath := "runtime", byteOffset := 24 }], 4, 40, .agg #[.pointer none, .pointer none, .pointer none, .string ⟨#[]⟩]⟩
theorem tk391 : TIok Tryz.prog 391 ti391 := ⟨Tryz.underlying391, by kernel_rfl⟩
def ti392 : TI := ⟨.array 0 16, 0, 0, .agg #[]⟩
theorem tk392 : TIok Tryz.prog 392 ti392 := ⟨Tryz.underlying392, by kernel_rfl⟩
def ti394 : TI := ⟨.struct #[{ name := "_", type := 392, offset := 0, embedded := false, tag := "", pkgPath := "runtime", byteOffset := 0 }], 0, 0, .agg #[]⟩
theorem tk394 : TIok Tryz.prog 394 ti394 := ⟨Tryz.underlying394, by kernel_rfl⟩
def ti395 : TI := ⟨.int .u8, 1, 1, .int .u8 0⟩
theorem tk395 : TIok Tryz.prog 395 ti395 := ⟨Tryz.underlying395, by kernel_rfl⟩
def ti396 : TI := ⟨.int .u8, 1, 1, .int .u8 0⟩
theorem tk396 : TIok Tryz.prog 396 ti396 := ⟨Tryz.underlying396, by kernel_rfl⟩
def ti397 : TI := ⟨.func #[385, 385] #[4] false, 1, 8, .nilFunc⟩
theorem tk397 : TIok Tryz.prog 397 ti397 := ⟨Tryz.underlying397, by kernel_rfl⟩
def ti398 : TI := ⟨.int .i32, 1, 4, .int .i32 0⟩
theorem tk398 : TIok Tryz.prog 398 ti398 := ⟨Tryz.underlying398, by kernel_rfl⟩
def ti399 : TI := ⟨.int .i32, 1, 4, .int .i32 0⟩
theorem tk399 : TIok Tryz.prog 399 ti399 := ⟨Tryz.underlying399, by kernel_rfl⟩
def ti401 : TI := ⟨.struct #[{ name := "Size_", type := 12, offset := 0, embedded := false, tag := "", pkgPath := "", byteOffset := 0 }, { name := "PtrBytes", type := 12, offset := 1, embedded := false, tag := "", pkgPath := "", byteOffset := 8 }, { name := "Hash", type := 238, offset := 2, embedded := false, tag := "", pkgPath := "", byteOffset := 16 }, { name := "TFlag", type := 395, offset := 3, embedded := false, tag := "", pkgPath := "", byteOffset := 20 }, { name := "Align_", type := 5, offset := 4, embedded := false, tag := "", pkgPath := "", byteOffset := 21 }, { name := "FieldAlign_", type := 5, offset := 5, embedded := false, tag := "", pkgPath := "", byteOffset := 22 }, { name := "Kind_", type := 396, offset := 6, embedded := false, tag := "", pkgPath := "", byteOffset := 23 }, { name := "Equal", type := 397, offset := 7, embedded := false, tag := "", pkgPath := "", byteOffset := 24 }, { name := "GCData", type := 383, offset := 8, embedded := false, tag := "", pkgPath := "", byteOffset := 32 }, { name := "Str", type := 398, offset := 9, embedded := false, tag := "", pkgPath := "", byteOffset := 40 }, { name := "PtrToThis", type := 399, offset := 10, embedded := false, tag := "", pkgPath := "", byteOffset := 44 }], 11, 48, .agg #[.int .u64 0, .int .u64 0, .int .u32 0, .int .u8 0, .int .u8 0, .int .u8 0, .int .u8 0, .nilFunc, .pointer none, .int .i32 0, .int .i32 0]⟩
theorem tk401 : TIok Tryz.prog 401 ti401 := ⟨Tryz.underlying401, by kernel_rfl⟩
def TB : TR := (.node (.node (.node (.node (.node (.node (.node (.node .leaf 1 ti1 .leaf) 2 ti2 (.node .leaf 3 ti3 .leaf)) 4 ti4 (.node (.node .leaf 5 ti5 .leaf) 6 ti6 .leaf)) 7 ti7 (.node (.node (.node .leaf 8 ti8 .leaf) 9 ti9 .leaf) 10 ti10 (.node (.node .leaf 11 ti11 .leaf) 12 ti12 .leaf))) 13 ti13 (.node (.node (.node (.node .leaf 14 ti14 .leaf) 15 ti15 .leaf) 16 ti16 (.node (.node .leaf 17 ti17 .leaf) 18 ti18 .leaf)) 19 ti19 (.node (.node (.node .leaf 20 ti20 .leaf) 21 ti21 .leaf) 22 ti22 (.node (.node .leaf 23 ti23 .leaf) 24 ti24 .leaf)))) 25 ti25 (.node (.node (.node (.node (.node .leaf 26 ti26 .leaf) 27 ti27 (.node .leaf 29 ti29 .leaf)) 30 ti30 (.node (.node .leaf 31 ti31 .leaf) 32 ti32 .leaf)) 33 ti33 (.node (.node (.node .leaf 34 ti34 .leaf) 35 ti35 .leaf) 37 ti37 (.node (.node .leaf 38 ti38 .leaf) 40 ti40 .leaf))) 41 ti41 (.node (.node (.node (.node .leaf 42 ti42 .leaf) 44 ti44 .leaf) 46 ti46 (.node (.node .leaf 47 ti47 .leaf) 49 ti49 .leaf)) 50 ti50 (.node (.node (.node .leaf 51 ti51 .leaf) 52 ti52 .leaf) 53 ti53 (.node (.node .leaf 54 ti54 .leaf) 55 ti55 .leaf))))) 56 ti56 (.node (.node (.node (.node (.node (.node .leaf 57 ti57 .leaf) 61 ti61 (.node .leaf 65 ti65 .leaf)) 66 ti66 (.node (.node .leaf 67 ti67 .leaf) 68 ti68 .leaf)) 69 ti69 (.node (.node (.node .leaf 70 ti70 .leaf) 71 ti71 .leaf) 72 ti72 (.node (.node .leaf 73 ti73 .leaf) 74 ti74 .leaf))) 76 ti76 (.node (.node (.node (.node .leaf 80 ti80 .leaf) 83 ti83 .leaf) 84 ti84 (.node (.node .leaf 86 ti86 .leaf) 90 ti90 .leaf)) 91 ti91 (.node (.node (.node .leaf 94 ti94 .leaf) 95 ti95 .leaf) 97 ti97 (.node (.node .leaf 98 ti98 .leaf) 99 ti99 .leaf)))) 100 ti100 (.node (.node (.node (.node (.node .leaf 101 ti101 .leaf) 102 ti102 .leaf) 103 ti103 (.node (.node .leaf 104 ti104 .leaf) 105 ti105 .leaf)) 106 ti106 (.node (.node (.node .leaf 107 ti107 .leaf) 108 ti108 .leaf) 109 ti109 (.node (.node .leaf 110 ti110 .leaf) 111 ti111 .leaf))) 112 ti112 (.node (.node (.node (.node .leaf 113 ti113 .leaf) 114 ti114 .leaf) 115 ti115 (.node (.node .leaf 116 ti116 .leaf) 117 ti117 .leaf)) 118 ti118 (.node (.node (.node .leaf 119 ti119 .leaf) 120 ti120 .leaf) 121 ti121 (.node (.node .leaf 122 ti122 .leaf) 124 ti124 .leaf)))))) 125 ti125 (.node (.node (.node (.node (.node (.node (.node .leaf 126 ti126 .leaf) 129 ti129 (.node .leaf 135 ti135 .leaf)) 142 ti142 (.node (.node .leaf 143 ti143 .leaf) 145 ti145 .leaf)) 148 ti148 (.node (.node (.node .leaf 149 ti149 .leaf) 152 ti152 .leaf) 156 ti156 (.node (.node .leaf 159 ti159 .leaf) 160 ti160 .leaf))) 171 ti171 (.node (.node (.node (.node .leaf 175 ti175 .leaf) 177 ti177 .leaf) 180 ti180 (.node (.node .leaf 181 ti181 .leaf) 182 ti182 .leaf)) 183 ti183 (.node (.node (.node .leaf 184 ti184 .leaf) 186 ti186 .leaf) 187 ti187 (.node (.node .leaf 190 ti190 .leaf) 191 ti191 .leaf)))) 193 ti193 (.node (.node (.node (.node (.node .leaf 199 ti199 .leaf) 200 ti200 .leaf) 201 ti201 (.node (.node .leaf 202 ti202 .leaf) 203 ti203 .leaf)) 206 ti206 (.node (.node (.node .leaf 208 ti208 .leaf) 210 ti210 .leaf) 212 ti212 (.node (.node .leaf 213 ti213 .leaf) 220 ti220 .leaf))) 227 ti227 (.node (.node (.node (.node .leaf 230 ti230 .leaf) 238 ti238 .leaf) 240 ti240 (.node (.node .leaf 243 ti243 .leaf) 254 ti254 .leaf)) 255 ti255 (.node (.node (.node .leaf 258 ti258 .leaf) 262 ti262 .leaf) 267 ti267 (.node (.node .leaf 270 ti270 .leaf) 271 ti271 .leaf))))) 272 ti272 (.node (.node (.node (.node (.node (.node .leaf 276 ti276 .leaf) 277 ti277 (.node .leaf 279 ti279 .leaf)) 280 ti280 (.node (.node .leaf 281 ti281 .leaf) 282 ti282 .leaf)) 283 ti283 (.node (.node (.node .leaf 285 ti285 .leaf) 287 ti287 .leaf) 290 ti290 (.node (.node .leaf 291 ti291 .leaf) 292 ti292 .leaf))) 293 ti293 (.node (.node (.node (.node .leaf 294 ti294 .leaf) 299 ti299 .leaf) 313 ti313 (.node (.node .leaf 315 ti315 .leaf) 316 ti316 .leaf)) 321 ti321 (.node (.node (.node .leaf 328 ti328 .leaf) 330 ti330 .leaf) 335 ti335 (.node (.node .leaf 337 ti337 .leaf) 340 ti340 .leaf)))) 344 ti344 (.node (.node (.node (.node (.node .leaf 346 ti346 .leaf) 355 ti355 .leaf) 358 ti358 (.node (.node .leaf 364 ti364 .leaf) 366 ti366 .leaf)) 372 ti372 (.node (.node (.node .leaf 374 ti374 .leaf) 375 ti375 .leaf) 377 ti377 (.node (.node .leaf 381 ti381 .leaf) 382 ti382 .leaf))) 383 ti383 (.node (.node (.node (.node .leaf 388 ti388 .leaf) 389 ti389 .leaf) 391 ti391 (.node (.node .leaf 392 ti392 .leaf) 394 ti394 .leaf)) 395 ti395 (.node (.node (.node .leaf 396 ti396 .leaf) 397 ti397 .leaf) 398 ti398 (.node (.node .leaf 399 ti399 .leaf) 401 ti401 .leaf)))))))
theorem TBok : TOk Tryz.prog TB := (TOk.node (TOk.node (TOk.node (TOk.node (TOk.node (TOk.node (TOk.node (TOk.node TOk.leaf tk1 TOk.leaf) tk2 (TOk.node TOk.leaf tk3 TOk.leaf)) tk4 (TOk.node (TOk.node TOk.leaf tk5 TOk.leaf) tk6 TOk.leaf)) tk7 (TOk.node (TOk.node (TOk.node TOk.leaf tk8 TOk.leaf) tk9 TOk.leaf) tk10 (TOk.node (TOk.node TOk.leaf tk11 TOk.leaf) tk12 TOk.leaf))) tk13 (TOk.node (TOk.node (TOk.node (TOk.node TOk.leaf tk14 TOk.leaf) tk15 TOk.leaf) tk16 (TOk.node (TOk.node TOk.leaf tk17 TOk.leaf) tk18 TOk.leaf)) tk19 (TOk.node (TOk.node (TOk.node TOk.leaf tk20 TOk.leaf) tk21 TOk.leaf) tk22 (TOk.node (TOk.node TOk.leaf tk23 TOk.leaf) tk24 TOk.leaf)))) tk25 (TOk.node (TOk.node (TOk.node (TOk.node (TOk.node TOk.leaf tk26 TOk.leaf) tk27 (TOk.node TOk.leaf tk29 TOk.leaf)) tk30 (TOk.node (TOk.node TOk.leaf tk31 TOk.leaf) tk32 TOk.leaf)) tk33 (TOk.node (TOk.node (TOk.node TOk.leaf tk34 TOk.leaf) tk35 TOk.leaf) tk37 (TOk.node (TOk.node TOk.leaf tk38 TOk.leaf) tk40 TOk.leaf))) tk41 (TOk.node (TOk.node (TOk.node (TOk.node TOk.leaf tk42 TOk.leaf) tk44 TOk.leaf) tk46 (TOk.node (TOk.node TOk.leaf tk47 TOk.leaf) tk49 TOk.leaf)) tk50 (TOk.node (TOk.node (TOk.node TOk.leaf tk51 TOk.leaf) tk52 TOk.leaf) tk53 (TOk.node (TOk.node TOk.leaf tk54 TOk.leaf) tk55 TOk.leaf))))) tk56 (TOk.node (TOk.node (TOk.node (TOk.node (TOk.node (TOk.node TOk.leaf tk57 TOk.leaf) tk61 (TOk.node TOk.leaf tk65 TOk.leaf)) tk66 (TOk.node (TOk.node TOk.leaf tk67 TOk.leaf) tk68 TOk.leaf)) tk69 (TOk.node (TOk.node (TOk.node TOk.leaf tk70 TOk.leaf) tk71 TOk.leaf) tk72 (TOk.node (TOk.node TOk.leaf tk73 TOk.leaf) tk74 TOk.leaf))) tk76 (TOk.node (TOk.node (TOk.node (TOk.node TOk.leaf tk80 TOk.leaf) tk83 TOk.leaf) tk84 (TOk.node (TOk.node TOk.leaf tk86 TOk.leaf) tk90 TOk.leaf)) tk91 (TOk.node (TOk.node (TOk.node TOk.leaf tk94 TOk.leaf) tk95 TOk.leaf) tk97 (TOk.node (TOk.node TOk.leaf tk98 TOk.leaf) tk99 TOk.leaf)))) tk100 (TOk.node (TOk.node (TOk.node (TOk.node (TOk.node TOk.leaf tk101 TOk.leaf) tk102 TOk.leaf) tk103 (TOk.node (TOk.node TOk.leaf tk104 TOk.leaf) tk105 TOk.leaf)) tk106 (TOk.node (TOk.node (TOk.node TOk.leaf tk107 TOk.leaf) tk108 TOk.leaf) tk109 (TOk.node (TOk.node TOk.leaf tk110 TOk.leaf) tk111 TOk.leaf))) tk112 (TOk.node (TOk.node (TOk.node (TOk.node TOk.leaf tk113 TOk.leaf) tk114 TOk.leaf) tk115 (TOk.node (TOk.node TOk.leaf tk116 TOk.leaf) tk117 TOk.leaf)) tk118 (TOk.node (TOk.node (TOk.node TOk.leaf tk119 TOk.leaf) tk120 TOk.leaf) tk121 (TOk.node (TOk.node TOk.leaf tk122 TOk.leaf) tk124 TOk.leaf)))))) tk125 (TOk.node (TOk.node (TOk.node (TOk.node (TOk.node (TOk.node (TOk.node TOk.leaf tk126 TOk.leaf) tk129 (TOk.node TOk.leaf tk135 TOk.leaf)) tk142 (TOk.node (TOk.node TOk.leaf tk143 TOk.leaf) tk145 TOk.leaf)) tk148 (TOk.node (TOk.node (TOk.node TOk.leaf tk149 TOk.leaf) tk152 TOk.leaf) tk156 (TOk.node (TOk.node TOk.leaf tk159 TOk.leaf) tk160 TOk.leaf))) tk171 (TOk.node (TOk.node (TOk.node (TOk.node TOk.leaf tk175 TOk.leaf) tk177 TOk.leaf) tk180 (TOk.node (TOk.node TOk.leaf tk181 TOk.leaf) tk182 TOk.leaf)) tk183 (TOk.node (TOk.node (TOk.node TOk.leaf tk184 TOk.leaf) tk186 TOk.leaf) tk187 (TOk.node (TOk.node TOk.leaf tk190 TOk.leaf) tk191 TOk.leaf)))) tk193 (TOk.node (TOk.node (TOk.node (TOk.node (TOk.node TOk.leaf tk199 TOk.leaf) tk200 TOk.leaf) tk201 (TOk.node (TOk.node TOk.leaf tk202 TOk.leaf) tk203 TOk.leaf)) tk206 (TOk.node (TOk.node (TOk.node TOk.leaf tk208 TOk.leaf) tk210 TOk.leaf) tk212 (TOk.node (TOk.node TOk.leaf tk213 TOk.leaf) tk220 TOk.leaf))) tk227 (TOk.node (TOk.node (TOk.node (TOk.node TOk.leaf tk230 TOk.leaf) tk238 TOk.leaf) tk240 (TOk.node (TOk.node TOk.leaf tk243 TOk.leaf) tk254 TOk.leaf)) tk255 (TOk.node (TOk.node (TOk.node TOk.leaf tk258 TOk.leaf) tk262 TOk.leaf) tk267 (TOk.node (TOk.node TOk.leaf tk270 TOk.leaf) tk271 TOk.leaf))))) tk272 (TOk.node (TOk.node (TOk.node (TOk.node (TOk.node (TOk.node TOk.leaf tk276 TOk.leaf) tk277 (TOk.node TOk.leaf tk279 TOk.leaf)) tk280 (TOk.node (TOk.node TOk.leaf tk281 TOk.leaf) tk282 TOk.leaf)) tk283 (TOk.node (TOk.node (TOk.node TOk.leaf tk285 TOk.leaf) tk287 TOk.leaf) tk290 (TOk.node (TOk.node TOk.leaf tk291 TOk.leaf) tk292 TOk.leaf))) tk293 (TOk.node (TOk.node (TOk.node (TOk.node TOk.leaf tk294 TOk.leaf) tk299 TOk.leaf) tk313 (TOk.node (TOk.node TOk.leaf tk315 TOk.leaf) tk316 TOk.leaf)) tk321 (TOk.node (TOk.node (TOk.node TOk.leaf tk328 TOk.leaf) tk330 TOk.leaf) tk335 (TOk.node (TOk.node TOk.leaf tk337 TOk.leaf) tk340 TOk.leaf)))) tk344 (TOk.node (TOk.node (TOk.node (TOk.node (TOk.node TOk.leaf tk346 TOk.leaf) tk355 TOk.leaf) tk358 (TOk.node (TOk.node TOk.leaf tk364 TOk.leaf) tk366 TOk.leaf)) tk372 (TOk.node (TOk.node (TOk.node TOk.leaf tk374 TOk.leaf) tk375 TOk.leaf) tk377 (TOk.node (TOk.node TOk.leaf tk381 TOk.leaf) tk382 TOk.leaf))) tk383 (TOk.node (TOk.node (TOk.node (TOk.node TOk.leaf tk388 TOk.leaf) tk389 TOk.leaf) tk391 (TOk.node (TOk.node TOk.leaf tk392 TOk.leaf) tk394 TOk.leaf)) tk395 (TOk.node (TOk.node (TOk.node TOk.leaf tk396 TOk.leaf) tk397 TOk.leaf) tk398 (TOk.node (TOk.node TOk.leaf tk399 TOk.leaf) tk401 TOk.leaf)))))))
end Go.Proofs.YtjkmpaggfbghiaaGreatDoor

namespace Go.X
open Go
def sokB (P : Program) (L : List Nat) : Bool := L.all fun t => !P.stoodInHeld t && !P.eqGuardType P.depth t && (P.fieldsOf t).toList.all fun f => f.name != "_"
theorem sokB_spec {P : Program} {L : List Nat} (h : sokB P L = true) : SOk P L := by
  intro t ht
  have := List.all_eq_true.1 h t ht
  simp only [Bool.and_eq_true, Bool.not_eq_true', List.all_eq_true, bne_iff_ne, ne_eq] at this
  exact ⟨this.1.1, this.1.2, this.2⟩
end Go.X
namespace Go.Proofs.YtjkmpaggfbghiaaGreatDoor
open Go Go.X
theorem mixed : Tryz.prog.follows .mixedOrders = true := by kernel_rfl
theorem sok : SOk Tryz.prog [29, 31, 33, 37] := sokB_spec (by kernel_rfl)
def InSt (f : Nat) (F : Func) (k : Nat) : Prop := ∀ {n : Nat} {x : Code} {rs : List ResultVar} {W : World} {S : Nat → Prop} {r : Option Nat} {args : List SV} {H : List Blk} {nx : K1},
  Nat.ble (lenL args) k = true → F.body = some x → F.results.toList = rs → (∀ A : Ass, snocF H (.ext 0 A) (fun H' => envF 0 args (fun E => Run ⟨Tryz.prog, TB, k, W, S, none, TBok⟩ x E H' (inK ⟨Tryz.prog, TB, k, W, S, none, TBok⟩ A rs nx)))) → CallK ⟨Tryz.prog, TB, n, W, S, r, TBok⟩ f args H nx
theorem InSt.mk' {f : Nat} {F : Func} {k : Nat} (hf : Tryz.prog.funcs[f]? = some F) (hnm : (F.name == "runtime.NumGoroutine") = false) (hn : F.ntmps = k) : InSt f F k :=
  fun hlen hb hrs h => CallK.inline hf hb hnm hn hlen hrs h
theorem isNaN1176 {a : ByteArray} (w : World) : Pu Tryz.prog 176 #[.string a] w (.bool false) := by
  refine enter_sound TBok Tryz.func176 rfl rfl Tryz.ntmps176 [.v (.string a)] (Kn.start w noS) rfl rfl ?_
  conv => whnf
  repeat' (first
 | with_reducible ((first | refine r_seq (fun KS hS => ?_) | (refine hS _ _ ?_; clear hS KS)))
 | ((with_reducible (first | refine r_region ?_ | refine r_ret ?_)); conv => whnf))
  all_goals exact FinK.pu (by simp [den])
def cmpS (a b : ByteArray) : Int := if ltS a b = true then -1 else if ltS b a = true then 1 else 0
theorem compare1117 {a b : ByteArray} (w : World) : Pu Tryz.prog 117 #[.string a, .string b] w (.int .i64 (cmpS a b)) := by
  refine enter_sound TBok Tryz.func117 rfl rfl Tryz.ntmps117 [.v (.string a), .v (.string b)] (Kn.start w noS) rfl rfl ?_
  conv => whnf
  repeat' (first
 | with_reducible ((first | refine r_seq (fun KS hS => ?_) | (refine hS _ _ ?_; clear hS KS) | (refine hA _ ?_; clear hA KA) | (refine hB _ ?_; clear hB KB)))
 | ((with_reducible (first | refine r_region ?_ | refine r_cond (fun KA hA KB hB => ?_) | refine r_ret ?_ | refine r_skip ?_)); conv => whnf)
 | ((with_reducible refine CallK.at 176 ?_); refine CallK.pu (fun w => isNaN1176 w) ?_; conv => whnf)
 | ((with_reducible refine OpK.id ?_); (first | refine OpK.ltS rfl rfl rfl ?_ | refine OpK.gtS rfl rfl rfl ?_); conv => whnf)
 | (refine if_cond (fun h => ?_) (fun h => ?_); all_goals (conv => whnf))
 | with_reducible apply_assumption -symm -exfalso)
  all_goals (refine FinK.pu ?_; simp [den, cmpS, *])
theorem in331 : InSt 262 Tryz.f262 10 := InSt.mk' Tryz.func262 rfl Tryz.ntmps262
theorem in294 : InSt 119 Tryz.f119 9 := InSt.mk' Tryz.func119 rfl Tryz.ntmps119
theorem in322 : InSt 184 Tryz.f184 8 := InSt.mk' Tryz.func184 rfl Tryz.ntmps184
theorem in295 : InSt 120 Tryz.f120 5 := InSt.mk' Tryz.func120 rfl Tryz.ntmps120
theorem Upd.a2 {x y z : Blk} {H : List Blk} : Upd (z :: x :: H) x y (z :: y :: H) := .tail .head
def WrA (p : Nat) (l : List UInt8) : Ass :=
  ⟨fun w S => ∃ a cap, Holds w [.blk 10 p [.v (.bool true), .v (.slice a l.length cap)] 328, .ext 11 (SlA 5 1 a l.length cap (bcells l))] S, fun _ _ _ h ⟨a, cap, hx⟩ => ⟨a, cap, hx.loc h⟩⟩
def pv (p : Nat) : Value := .pointer (some ⟨p, 0, none⟩)
theorem WrA.open {w : World} {S : Nat → Prop} {X Y : List Blk} {p j : Nat} {l : List UInt8} (h : Holds w (X ++ .ext j (WrA p l) :: Y) S) :
    ∃ (z : Option Addr × Nat) (S' : Nat → Prop), Holds w (X ++ .blk 10 p [.v (.bool true), .v (.slice z.1 l.length z.2)] 328 :: .ext 11 (SlA 5 1 z.1 l.length z.2 (bcells l)) :: Y) S' ∧ ∀ k, S' k → S k := by
  obtain ⟨TX, TY, h1, h2, h3, h4⟩ := h.split _ _
  cases h2 with
  | @cons _ _ Sx T hx hb hY hd =>
    obtain ⟨a, cap, hz⟩ := hx
    obtain ⟨T', q1, q2⟩ := Holds.glue _ _ hz hY hd
    obtain ⟨T'', q3, q4⟩ := Holds.glue _ _ h1 q1 (fun k hk hk' => h3 k hk ((q2 k).1 hk'))
    exact ⟨(a, cap), T'', q3, fun k hk => (h4 k).2 (((q4 k).1 hk).imp id (q2 k).1)⟩
theorem WrA.close {p j : Nat} {l : List UInt8} {a n cap} {cs : List Value} {i1 i2 : Nat} (hn : n = l.length) (hc : cs = bcells l) : HSub [.ext j (WrA p l)] [.blk i1 p [.v (.bool true), .v (.slice a n cap)] 328, .ext i2 (SlA 5 1 a n cap cs)] :=
  HSub.close fun w S h => by
    subst hn hc
    cases h with
    | @cons _ _ S1 T1 hx hb hH hd =>
      cases hH with
      | @cons _ _ S2 T2 hx2 hb2 hH2 hd2 =>
        cases hH2
        exact ⟨a, cap, .cons (x := .blk 10 p _ 328) hx hb (.cons (x := .ext 11 _) hx2 hb2 .nil hd2) hd⟩
def RdH (p : Nat) : RSt → Option Addr × Nat → List Blk
  | none, _ => [.blk 10 p [.v (.bool true), .v (.bool true), .v (.slice none 0 0)] 346]
  | some l, z => [.blk 10 p [.v (.bool true), .v (.bool false), .v (.slice z.1 l.length z.2)] 346, .ext 11 (SlA 5 1 z.1 l.length z.2 (bcells l))]
def RdA (p : Nat) (st : RSt) : Ass :=
  ⟨fun w S => ∃ z, Holds w (RdH p st z) S, fun _ _ _ h ⟨z, hx⟩ => ⟨z, hx.loc h⟩⟩
theorem RdA.open {w : World} {S : Nat → Prop} {X Y : List Blk} {p j : Nat} {st : RSt} (h : Holds w (X ++ .ext j (RdA p st) :: Y) S) :
    ∃ (z : Option Addr × Nat) (S' : Nat → Prop), Holds w (X ++ (RdH p st z ++ Y)) S' ∧ ∀ k, S' k → S k := by
  obtain ⟨TX, TY, h1, h2, h3, h4⟩ := h.split _ _
  cases h2 with
  | @cons _ _ Sx T hx hb hY hd =>
    obtain ⟨z, hz⟩ := hx
    obtain ⟨T', q1, q2⟩ := Holds.glue _ _ hz hY hd
    obtain ⟨T'', q3, q4⟩ := Holds.glue _ _ h1 q1 (fun k hk hk' => h3 k hk ((q2 k).1 hk'))
    exact ⟨z, T'', q3, fun k hk => (h4 k).2 (((q4 k).1 hk).imp id (q2 k).1)⟩
theorem RdA.close {p j : Nat} {l : List UInt8} {a n cap} {cs : List Value} {i1 i2 : Nat} (hn : n = l.length) (hc : cs = bcells l) : HSub [.ext j (RdA p (some l))] [.blk i1 p [.v (.bool true), .v (.bool false), .v (.slice a n cap)] 346, .ext i2 (SlA 5 1 a n cap cs)] :=
  HSub.close fun w S h => by
    subst hn hc
    cases h with
    | @cons _ _ S1 T1 hx hb hH hd =>
      cases hH with
      | @cons _ _ S2 T2 hx2 hb2 hH2 hd2 =>
        cases hH2
        exact ⟨(a, cap), .cons (x := .blk 10 p _ 346) hx hb (.cons (x := .ext 11 _) hx2 hb2 .nil hd2) hd⟩
def RB (st : RSt) : Prop := ∀ l, st = some l → l.length ≤ 1099511627776
theorem RB.U {st : RSt} (h : RB st) : RB (rdU st).2 := by
  intro l hl
  cases st with
  | none => cases hl
  | some l' =>
    simp only [rdU] at hl
    split at hl
    · cases hl
    · simp only [Option.some.injEq] at hl
      subst hl
      have := h l' rfl
      simp; omega
theorem RB.S {st : RSt} {most : Nat} (h : RB st) : RB (rdS most st).2 := by
  unfold rdS
  split
  · intro l hl; cases hl
  · exact h.U
theorem RB.drop {l : List UInt8} (h : RB (some l)) (m : Nat) : RB (some (l.drop m)) := by
  intro l' hl
  simp only [Option.some.injEq] at hl
  subst hl
  have := h l rfl
  simp; omega
theorem RB.none : RB none := fun _ h => by cases h
theorem RB.I {st : RSt} (h : RB st) : RB (rdI st).2 := by
  cases st with
  | none => exact RB.none
  | some l => simp only [rdI]; split; exact RB.none; exact h.drop _
theorem RB.T {st : RSt} (h : RB st) : RB (rdT st).2 := by
  cases st with
  | none => exact RB.none
  | some l => simp only [rdT]; split; exact RB.none; exact h.drop _
end Go.Proofs.YtjkmpaggfbghiaaGreatDoor
