/- Contracts and lemmas for the claim (part 4); no condition of its own. -/
import Derived.Test.YthmjkaljkgjicaaGreatDoorYDC1200
import Derived.Test.YthmjkaljkgjicaaGreatDoorProg
import Derived.Test.YthmjkaljkgjicaaGreatDoorYDC1203
set_option linter.all false
set_option linter.unusedVariables false
set_option linter.unusedSimpArgs false
set_option linter.unnecessarySimpa false
namespace Go.Proofs.YthmjkaljkgjicaaGreatDoor
open Go Go.X
def ti2 : TI := ⟨.int .i64, 1, 8, .int .i64 0⟩
theorem tk2 : TIok Tryz.prog 2 ti2 := ⟨Tryz.underlying2, by kernel_rfl⟩
def ti3 : TI := ⟨.int .i64, 1, 8, .int .i64 0⟩
theorem tk3 : TIok Tryz.prog 3 ti3 := ⟨Tryz.underlying3, by kernel_rfl⟩
def ti4 : TI := ⟨.bool, 1, 1, .bool false⟩
theorem tk4 : TIok Tryz.prog 4 ti4 := ⟨Tryz.underlying4, by kernel_rfl⟩
def ti5 : TI := ⟨.int .u8, 1, 1, .int .u8 0⟩
theorem tk5 : TIok Tryz.prog 5 ti5 := ⟨Tryz.underlying5, by kernel_rfl⟩
def ti9 : TI := ⟨.string, 1, 16, .string ⟨#[]⟩⟩
theorem tk9 : TIok Tryz.prog 9 ti9 := ⟨Tryz.underlying9, by kernel_rfl⟩
def ti20 : TI := ⟨.interface #[], 1, 16, .nilIface⟩
theorem tk20 : TIok Tryz.prog 20 ti20 := ⟨Tryz.underlying20, by kernel_rfl⟩
def ti21 : TI := ⟨.int .i32, 1, 4, .int .i32 0⟩
theorem tk21 : TIok Tryz.prog 21 ti21 := ⟨Tryz.underlying21, by kernel_rfl⟩
def ti22 : TI := ⟨.slice 73, 1, 24, .slice none 0 0⟩
theorem tk22 : TIok Tryz.prog 22 ti22 := ⟨Tryz.underlying22, by kernel_rfl⟩
def ti23 : TI := ⟨.slice 47, 1, 24, .slice none 0 0⟩
theorem tk23 : TIok Tryz.prog 23 ti23 := ⟨Tryz.underlying23, by kernel_rfl⟩
def ti25 : TI := ⟨.pointer 80, 1, 8, .pointer none⟩
theorem tk25 : TIok Tryz.prog 25 ti25 := ⟨Tryz.underlying25, by kernel_rfl⟩
def ti26 : TI := ⟨.int .i64, 1, 8, .int .i64 0⟩
theorem tk26 : TIok Tryz.prog 26 ti26 := ⟨Tryz.underlying26, by kernel_rfl⟩
def ti29 : TI := ⟨.slice 38, 1, 24, .slice none 0 0⟩
theorem tk29 : TIok Tryz.prog 29 ti29 := ⟨Tryz.underlying29, by kernel_rfl⟩
def ti31 : TI := ⟨.func #[47] #[49, 4] false, 1, 8, .nilFunc⟩
theorem tk31 : TIok Tryz.prog 31 ti31 := ⟨Tryz.underlying31, by kernel_rfl⟩
def ti32 : TI := ⟨.slice 3, 1, 24, .slice none 0 0⟩
theorem tk32 : TIok Tryz.prog 32 ti32 := ⟨Tryz.underlying32, by kernel_rfl⟩
def ti35 : TI := ⟨.struct #[{ name := "Round", type := 3, offset := 0, embedded := false, tag := "", pkgPath := "", byteOffset := 0 }, { name := "Node", type := 3, offset := 1, embedded := false, tag := "", pkgPath := "", byteOffset := 8 }], 2, 16, .agg #[.int .i64 0, .int .i64 0]⟩
theorem tk35 : TIok Tryz.prog 35 ti35 := ⟨Tryz.underlying35, by kernel_rfl⟩
def ti36 : TI := ⟨.slice 111, 1, 24, .slice none 0 0⟩
theorem tk36 : TIok Tryz.prog 36 ti36 := ⟨Tryz.underlying36, by kernel_rfl⟩
def ti38 : TI := ⟨.struct #[{ name := "Kind", type := 3, offset := 0, embedded := false, tag := "", pkgPath := "", byteOffset := 0 }, { name := "From", type := 3, offset := 1, embedded := false, tag := "", pkgPath := "", byteOffset := 8 }, { name := "To", type := 3, offset := 2, embedded := false, tag := "", pkgPath := "", byteOffset := 16 }, { name := "B", type := 35, offset := 3, embedded := false, tag := "", pkgPath := "", byteOffset := 24 }, { name := "Slot", type := 3, offset := 5, embedded := false, tag := "", pkgPath := "", byteOffset := 40 }, { name := "Num", type := 3, offset := 6, embedded := false, tag := "", pkgPath := "", byteOffset := 48 }, { name := "Value", type := 9, offset := 7, embedded := false, tag := "", pkgPath := "", byteOffset := 56 }, { name := "List", type := 36, offset := 8, embedded := false, tag := "", pkgPath := "", byteOffset := 72 }], 9, 96, .agg #[.int .i64 0, .int .i64 0, .int .i64 0, .int .i64 0, .int .i64 0, .int .i64 0, .int .i64 0, .string ⟨#[]⟩, .slice none 0 0]⟩
theorem tk38 : TIok Tryz.prog 38 ti38 := ⟨Tryz.underlying38, by kernel_rfl⟩
def ti40 : TI := ⟨.struct #[{ name := "Saga", type := 3, offset := 0, embedded := false, tag := "", pkgPath := "", byteOffset := 0 }, { name := "Step", type := 3, offset := 1, embedded := false, tag := "", pkgPath := "", byteOffset := 8 }, { name := "Phase", type := 3, offset := 2, embedded := false, tag := "", pkgPath := "", byteOffset := 16 }], 3, 24, .agg #[.int .i64 0, .int .i64 0, .int .i64 0]⟩
theorem tk40 : TIok Tryz.prog 40 ti40 := ⟨Tryz.underlying40, by kernel_rfl⟩
def ti42 : TI := ⟨.struct #[{ name := "From", type := 9, offset := 0, embedded := false, tag := "", pkgPath := "", byteOffset := 0 }, { name := "To", type := 9, offset := 1, embedded := false, tag := "", pkgPath := "", byteOffset := 16 }], 2, 32, .agg #[.string ⟨#[]⟩, .string ⟨#[]⟩]⟩
theorem tk42 : TIok Tryz.prog 42 ti42 := ⟨Tryz.underlying42, by kernel_rfl⟩
def ti43 : TI := ⟨.slice 251, 1, 24, .slice none 0 0⟩
theorem tk43 : TIok Tryz.prog 43 ti43 := ⟨Tryz.underlying43, by kernel_rfl⟩
def ti45 : TI := ⟨.struct #[{ name := "Name", type := 9, offset := 0, embedded := false, tag := "", pkgPath := "", byteOffset := 0 }, { name := "Retries", type := 3, offset := 1, embedded := false, tag := "", pkgPath := "", byteOffset := 16 }, { name := "Deadline", type := 3, offset := 2, embedded := false, tag := "", pkgPath := "", byteOffset := 24 }, { name := "Steps", type := 43, offset := 3, embedded := false, tag := "", pkgPath := "", byteOffset := 32 }], 4, 56, .agg #[.string ⟨#[]⟩, .int .i64 0, .int .i64 0, .slice none 0 0]⟩
theorem tk45 : TIok Tryz.prog 45 ti45 := ⟨Tryz.underlying45, by kernel_rfl⟩
def ti47 : TI := ⟨.struct #[{ name := "Eff", type := 40, offset := 0, embedded := false, tag := "", pkgPath := "", byteOffset := 0 }, { name := "Move", type := 3, offset := 3, embedded := false, tag := "", pkgPath := "", byteOffset := 24 }, { name := "In", type := 4, offset := 4, embedded := false, tag := "", pkgPath := "", byteOffset := 32 }, { name := "Group", type := 3, offset := 5, embedded := false, tag := "", pkgPath := "", byteOffset := 40 }], 6, 48, .agg #[.int .i64 0, .int .i64 0, .int .i64 0, .int .i64 0, .bool false, .int .i64 0]⟩
theorem tk47 : TIok Tryz.prog 47 ti47 := ⟨Tryz.underlying47, by kernel_rfl⟩
def ti49 : TI := ⟨.struct #[{ name := "Kind", type := 3, offset := 0, embedded := false, tag := "", pkgPath := "", byteOffset := 0 }, { name := "Call", type := 3, offset := 1, embedded := false, tag := "", pkgPath := "", byteOffset := 8 }, { name := "Saga", type := 3, offset := 2, embedded := false, tag := "", pkgPath := "", byteOffset := 16 }, { name := "Eff", type := 40, offset := 3, embedded := false, tag := "", pkgPath := "", byteOffset := 24 }, { name := "Key", type := 9, offset := 6, embedded := false, tag := "", pkgPath := "", byteOffset := 48 }, { name := "Delta", type := 2, offset := 7, embedded := false, tag := "", pkgPath := "", byteOffset := 64 }, { name := "Move", type := 3, offset := 8, embedded := false, tag := "", pkgPath := "", byteOffset := 72 }, { name := "R", type := 42, offset := 9, embedded := false, tag := "", pkgPath := "", byteOffset := 80 }, { name := "Group", type := 3, offset := 11, embedded := false, tag := "", pkgPath := "", byteOffset := 112 }, { name := "Def", type := 45, offset := 12, embedded := false, tag := "", pkgPath := "", byteOffset := 120 }, { name := "Item", type := 47, offset := 16, embedded := false, tag := "", pkgPath := "", byteOffset := 176 }, { name := "Res", type := 26, offset := 22, embedded := false, tag := "", pkgPath := "", byteOffset := 224 }, { name := "Data", type := 9, offset := 23, embedded := false, tag := "", pkgPath := "", byteOffset := 232 }], 24, 248, .agg #[.int .i64 0, .int .i64 0, .int .i64 0, .int .i64 0, .int .i64 0, .int .i64 0, .string ⟨#[]⟩, .int .i64 0, .int .i64 0, .string ⟨#[]⟩, .string ⟨#[]⟩, .int .i64 0, .string ⟨#[]⟩, .int .i64 0, .int .i64 0, .slice none 0 0, .int .i64 0, .int .i64 0, .int .i64 0, .int .i64 0, .bool false, .int .i64 0, .int .i64 0, .string ⟨#[]⟩]⟩
theorem tk49 : TIok Tryz.prog 49 ti49 := ⟨Tryz.underlying49, by kernel_rfl⟩
def ti55 : TI := ⟨.struct #[{ name := "Err", type := 26, offset := 0, embedded := false, tag := "", pkgPath := "", byteOffset := 0 }, { name := "Num", type := 2, offset := 1, embedded := false, tag := "", pkgPath := "", byteOffset := 8 }, { name := "Data", type := 9, offset := 2, embedded := false, tag := "", pkgPath := "", byteOffset := 16 }], 3, 32, .agg #[.int .i64 0, .int .i64 0, .string ⟨#[]⟩]⟩
theorem tk55 : TIok Tryz.prog 55 ti55 := ⟨Tryz.underlying55, by kernel_rfl⟩
def ti64 : TI := ⟨.map 3 3, 1, 8, .map none⟩
theorem tk64 : TIok Tryz.prog 64 ti64 := ⟨Tryz.underlying64, by kernel_rfl⟩
def ti69 : TI := ⟨.slice 5, 1, 24, .slice none 0 0⟩
theorem tk69 : TIok Tryz.prog 69 ti69 := ⟨Tryz.underlying69, by kernel_rfl⟩
def ti73 : TI := ⟨.int .u16, 1, 2, .int .u16 0⟩
theorem tk73 : TIok Tryz.prog 73 ti73 := ⟨Tryz.underlying73, by kernel_rfl⟩
def ti78 : TI := ⟨.map 3 85, 1, 8, .map none⟩
theorem tk78 : TIok Tryz.prog 78 ti78 := ⟨Tryz.underlying78, by kernel_rfl⟩
def ti80 : TI := ⟨.struct #[{ name := "n", type := 3, offset := 0, embedded := false, tag := "", pkgPath := "skald/drive", byteOffset := 0 }, { name := "groups", type := 3, offset := 1, embedded := false, tag := "", pkgPath := "skald/drive", byteOffset := 8 }, { name := "ticks", type := 3, offset := 2, embedded := false, tag := "", pkgPath := "skald/drive", byteOffset := 16 }, { name := "waits", type := 78, offset := 3, embedded := false, tag := "", pkgPath := "skald/drive", byteOffset := 24 }], 4, 32, .agg #[.int .i64 0, .int .i64 0, .int .i64 0, .map none]⟩
theorem tk80 : TIok Tryz.prog 80 ti80 := ⟨Tryz.underlying80, by kernel_rfl⟩
def ti81 : TI := ⟨.map 3 47, 1, 8, .map none⟩
theorem tk81 : TIok Tryz.prog 81 ti81 := ⟨Tryz.underlying81, by kernel_rfl⟩
def ti85 : TI := ⟨.struct #[{ name := "asked", type := 3, offset := 0, embedded := false, tag := "", pkgPath := "skald/drive", byteOffset := 0 }, { name := "last", type := 3, offset := 1, embedded := false, tag := "", pkgPath := "skald/drive", byteOffset := 8 }], 2, 16, .agg #[.int .i64 0, .int .i64 0]⟩
theorem tk85 : TIok Tryz.prog 85 ti85 := ⟨Tryz.underlying85, by kernel_rfl⟩
def ti87 : TI := ⟨.func #[3, 85] #[4] false, 1, 8, .nilFunc⟩
theorem tk87 : TIok Tryz.prog 87 ti87 := ⟨Tryz.underlying87, by kernel_rfl⟩
def ti96 : TI := ⟨.func #[137] #[] false, 1, 8, .nilFunc⟩
theorem tk96 : TIok Tryz.prog 96 ti96 := ⟨Tryz.underlying96, by kernel_rfl⟩
def ti98 : TI := ⟨.func #[40] #[55, 4] false, 1, 8, .nilFunc⟩
theorem tk98 : TIok Tryz.prog 98 ti98 := ⟨Tryz.underlying98, by kernel_rfl⟩
def ti105 : TI := ⟨.func #[47] #[4] false, 1, 8, .nilFunc⟩
theorem tk105 : TIok Tryz.prog 105 ti105 := ⟨Tryz.underlying105, by kernel_rfl⟩
def ti111 : TI := ⟨.struct #[{ name := "Slot", type := 3, offset := 0, embedded := false, tag := "", pkgPath := "", byteOffset := 0 }, { name := "B", type := 35, offset := 1, embedded := false, tag := "", pkgPath := "", byteOffset := 8 }, { name := "Value", type := 9, offset := 3, embedded := false, tag := "", pkgPath := "", byteOffset := 24 }], 4, 40, .agg #[.int .i64 0, .int .i64 0, .int .i64 0, .string ⟨#[]⟩]⟩
theorem tk111 : TIok Tryz.prog 111 ti111 := ⟨Tryz.underlying111, by kernel_rfl⟩
def ti114 : TI := ⟨.pointer 156, 1, 8, .pointer none⟩
theorem tk114 : TIok Tryz.prog 114 ti114 := ⟨Tryz.underlying114, by kernel_rfl⟩
def ti117 : TI := ⟨.int .u64, 1, 8, .int .u64 0⟩
theorem tk117 : TIok Tryz.prog 117 ti117 := ⟨Tryz.underlying117, by kernel_rfl⟩
def ti118 : TI := ⟨.slice 127, 1, 24, .slice none 0 0⟩
theorem tk118 : TIok Tryz.prog 118 ti118 := ⟨Tryz.underlying118, by kernel_rfl⟩
def ti121 : TI := ⟨.func #[128] #[4] false, 1, 8, .nilFunc⟩
theorem tk121 : TIok Tryz.prog 121 ti121 := ⟨Tryz.underlying121, by kernel_rfl⟩
def ti122 : TI := ⟨.func #[114, 128] #[] false, 1, 8, .nilFunc⟩
theorem tk122 : TIok Tryz.prog 122 ti122 := ⟨Tryz.underlying122, by kernel_rfl⟩
def ti123 : TI := ⟨.func #[146, 128] #[] false, 1, 8, .nilFunc⟩
theorem tk123 : TIok Tryz.prog 123 ti123 := ⟨Tryz.underlying123, by kernel_rfl⟩
def ti124 : TI := ⟨.func #[128] #[9] false, 1, 8, .nilFunc⟩
theorem tk124 : TIok Tryz.prog 124 ti124 := ⟨Tryz.underlying124, by kernel_rfl⟩
def ti125 : TI := ⟨.func #[128] #[] false, 1, 8, .nilFunc⟩
theorem tk125 : TIok Tryz.prog 125 ti125 := ⟨Tryz.underlying125, by kernel_rfl⟩
def ti127 : TI := ⟨.struct #[{ name := "ok", type := 121, offset := 0, embedded := false, tag := "", pkgPath := "skald/cmds", byteOffset := 0 }, { name := "write", type := 122, offset := 1, embedded := false, tag := "", pkgPath := "skald/cmds", byteOffset := 8 }, { name := "read", type := 123, offset := 2, embedded := false, tag := "", pkgPath := "skald/cmds", byteOffset := 16 }, { name := "text", type := 124, offset := 3, embedded := false, tag := "", pkgPath := "skald/cmds", byteOffset := 24 }, { name := "clear", type := 125, offset := 4, embedded := false, tag := "", pkgPath := "skald/cmds", byteOffset := 32 }], 5, 40, .agg #[.nilFunc, .nilFunc, .nilFunc, .nilFunc, .nilFunc]⟩
theorem tk127 : TIok Tryz.prog 127 ti127 := ⟨Tryz.underlying127, by kernel_rfl⟩
def ti128 : TI := ⟨.pointer 49, 1, 8, .pointer none⟩
theorem tk128 : TIok Tryz.prog 128 ti128 := ⟨Tryz.underlying128, by kernel_rfl⟩
def ti133 : TI := ⟨.int .u64, 1, 8, .int .u64 0⟩
theorem tk133 : TIok Tryz.prog 133 ti133 := ⟨Tryz.underlying133, by kernel_rfl⟩
def ti146 : TI := ⟨.pointer 196, 1, 8, .pointer none⟩
theorem tk146 : TIok Tryz.prog 146 ti146 := ⟨Tryz.underlying146, by kernel_rfl⟩
def ti156 : TI := ⟨.struct #[{ name := "made", type := 4, offset := 0, embedded := false, tag := "", pkgPath := "skald/wire", byteOffset := 0 }, { name := "b", type := 69, offset := 1, embedded := false, tag := "", pkgPath := "skald/wire", byteOffset := 8 }], 2, 32, .agg #[.bool false, .slice none 0 0]⟩
theorem tk156 : TIok Tryz.prog 156 ti156 := ⟨Tryz.underlying156, by kernel_rfl⟩
def ti164 : TI := ⟨.int .i64, 1, 8, .int .i64 0⟩
theorem tk164 : TIok Tryz.prog 164 ti164 := ⟨Tryz.underlying164, by kernel_rfl⟩
def ti172 : TI := ⟨.int .u32, 1, 4, .int .u32 0⟩
theorem tk172 : TIok Tryz.prog 172 ti172 := ⟨Tryz.underlying172, by kernel_rfl⟩
def ti179 : TI := ⟨.struct #[{ name := "word", type := 9, offset := 0, embedded := false, tag := "", pkgPath := "skald/msg", byteOffset := 0 }, { name := "uses", type := 3, offset := 1, embedded := false, tag := "", pkgPath := "skald/msg", byteOffset := 16 }, { name := "slot", type := 3, offset := 2, embedded := false, tag := "", pkgPath := "skald/msg", byteOffset := 24 }, { name := "low", type := 3, offset := 3, embedded := false, tag := "", pkgPath := "skald/msg", byteOffset := 32 }, { name := "high", type := 3, offset := 4, embedded := false, tag := "", pkgPath := "skald/msg", byteOffset := 40 }], 5, 48, .agg #[.string ⟨#[]⟩, .int .i64 0, .int .i64 0, .int .i64 0, .int .i64 0]⟩
theorem tk179 : TIok Tryz.prog 179 ti179 := ⟨Tryz.underlying179, by kernel_rfl⟩
def ti182 : TI := ⟨.slice 190, 1, 24, .slice none 0 0⟩
theorem tk182 : TIok Tryz.prog 182 ti182 := ⟨Tryz.underlying182, by kernel_rfl⟩
def ti184 : TI := ⟨.func #[179, 38] #[4] false, 1, 8, .nilFunc⟩
theorem tk184 : TIok Tryz.prog 184 ti184 := ⟨Tryz.underlying184, by kernel_rfl⟩
def ti185 : TI := ⟨.func #[38] #[4] false, 1, 8, .nilFunc⟩
theorem tk185 : TIok Tryz.prog 185 ti185 := ⟨Tryz.underlying185, by kernel_rfl⟩
def ti186 : TI := ⟨.func #[114, 38] #[] false, 1, 8, .nilFunc⟩
theorem tk186 : TIok Tryz.prog 186 ti186 := ⟨Tryz.underlying186, by kernel_rfl⟩
def ti187 : TI := ⟨.func #[38] #[9] false, 1, 8, .nilFunc⟩
theorem tk187 : TIok Tryz.prog 187 ti187 := ⟨Tryz.underlying187, by kernel_rfl⟩
def ti188 : TI := ⟨.func #[146, 241] #[] false, 1, 8, .nilFunc⟩
theorem tk188 : TIok Tryz.prog 188 ti188 := ⟨Tryz.underlying188, by kernel_rfl⟩
def ti190 : TI := ⟨.struct #[{ name := "use", type := 3, offset := 0, embedded := false, tag := "", pkgPath := "skald/msg", byteOffset := 0 }, { name := "ok", type := 184, offset := 1, embedded := false, tag := "", pkgPath := "skald/msg", byteOffset := 8 }, { name := "zero", type := 185, offset := 2, embedded := false, tag := "", pkgPath := "skald/msg", byteOffset := 16 }, { name := "write", type := 186, offset := 3, embedded := false, tag := "", pkgPath := "skald/msg", byteOffset := 24 }, { name := "text", type := 187, offset := 4, embedded := false, tag := "", pkgPath := "skald/msg", byteOffset := 32 }, { name := "read", type := 188, offset := 5, embedded := false, tag := "", pkgPath := "skald/msg", byteOffset := 40 }], 6, 48, .agg #[.int .i64 0, .nilFunc, .nilFunc, .nilFunc, .nilFunc, .nilFunc]⟩
theorem tk190 : TIok Tryz.prog 190 ti190 := ⟨Tryz.underlying190, by kernel_rfl⟩
def ti192 : TI := ⟨.func #[111] #[4] false, 1, 8, .nilFunc⟩
theorem tk192 : TIok Tryz.prog 192 ti192 := ⟨Tryz.underlying192, by kernel_rfl⟩
def ti196 : TI := ⟨.struct #[{ name := "made", type := 4, offset := 0, embedded := false, tag := "", pkgPath := "skald/wire", byteOffset := 0 }, { name := "failed", type := 4, offset := 1, embedded := false, tag := "", pkgPath := "skald/wire", byteOffset := 1 }, { name := "left", type := 69, offset := 2, embedded := false, tag := "", pkgPath := "skald/wire", byteOffset := 8 }], 3, 32, .agg #[.bool false, .bool false, .slice none 0 0]⟩
theorem tk196 : TIok Tryz.prog 196 ti196 := ⟨Tryz.underlying196, by kernel_rfl⟩
def ti200 : TI := ⟨.func #[69] #[117, 3] false, 1, 8, .nilFunc⟩
theorem tk200 : TIok Tryz.prog 200 ti200 := ⟨Tryz.underlying200, by kernel_rfl⟩
def ti202 : TI := ⟨.func #[69] #[2, 3] false, 1, 8, .nilFunc⟩
theorem tk202 : TIok Tryz.prog 202 ti202 := ⟨Tryz.underlying202, by kernel_rfl⟩
def ti204 : TI := ⟨.func #[69] #[9, 3] false, 1, 8, .nilFunc⟩
theorem tk204 : TIok Tryz.prog 204 ti204 := ⟨Tryz.underlying204, by kernel_rfl⟩
def ti211 : TI := ⟨.func #[128] #[210] false, 1, 8, .nilFunc⟩
theorem tk211 : TIok Tryz.prog 211 ti211 := ⟨Tryz.underlying211, by kernel_rfl⟩
def ti212 : TI := ⟨.func #[9] #[4] false, 1, 8, .nilFunc⟩
theorem tk212 : TIok Tryz.prog 212 ti212 := ⟨Tryz.underlying212, by kernel_rfl⟩
def ti213 : TI := ⟨.func #[9] #[9] false, 1, 8, .nilFunc⟩
theorem tk213 : TIok Tryz.prog 213 ti213 := ⟨Tryz.underlying213, by kernel_rfl⟩
def ti216 : TI := ⟨.pointer 3, 1, 8, .pointer none⟩
theorem tk216 : TIok Tryz.prog 216 ti216 := ⟨Tryz.underlying216, by kernel_rfl⟩
def ti217 : TI := ⟨.func #[128] #[216] false, 1, 8, .nilFunc⟩
theorem tk217 : TIok Tryz.prog 217 ti217 := ⟨Tryz.underlying217, by kernel_rfl⟩
def ti227 : TI := ⟨.int .u64, 1, 8, .int .u64 0⟩
theorem tk227 : TIok Tryz.prog 227 ti227 := ⟨Tryz.underlying227, by kernel_rfl⟩
def ti237 : TI := ⟨.array 12 179, 60, 576, .agg #[.string ⟨#[]⟩, .int .i64 0, .int .i64 0, .int .i64 0, .int .i64 0, .string ⟨#[]⟩, .int .i64 0, .int .i64 0, .int .i64 0, .int .i64 0, .string ⟨#[]⟩, .int .i64 0, .int .i64 0, .int .i64 0, .int .i64 0, .string ⟨#[]⟩, .int .i64 0, .int .i64 0, .int .i64 0, .int .i64 0, .string ⟨#[]⟩, .int .i64 0, .int .i64 0, .int .i64 0, .int .i64 0, .string ⟨#[]⟩, .int .i64 0, .int .i64 0, .int .i64 0, .int .i64 0, .string ⟨#[]⟩, .int .i64 0, .int .i64 0, .int .i64 0, .int .i64 0, .string ⟨#[]⟩, .int .i64 0, .int .i64 0, .int .i64 0, .int .i64 0, .string ⟨#[]⟩, .int .i64 0, .int .i64 0, .int .i64 0, .int .i64 0, .string ⟨#[]⟩, .int .i64 0, .int .i64 0, .int .i64 0, .int .i64 0, .string ⟨#[]⟩, .int .i64 0, .int .i64 0, .int .i64 0, .int .i64 0, .string ⟨#[]⟩, .int .i64 0, .int .i64 0, .int .i64 0, .int .i64 0]⟩
theorem tk237 : TIok Tryz.prog 237 ti237 := ⟨Tryz.underlying237, by kernel_rfl⟩
def ti241 : TI := ⟨.pointer 38, 1, 8, .pointer none⟩
theorem tk241 : TIok Tryz.prog 241 ti241 := ⟨Tryz.underlying241, by kernel_rfl⟩
def ti245 : TI := ⟨.array 3 3, 3, 24, .agg #[.int .i64 0, .int .i64 0, .int .i64 0]⟩
theorem tk245 : TIok Tryz.prog 245 ti245 := ⟨Tryz.underlying245, by kernel_rfl⟩
def ti251 : TI := ⟨.struct #[{ name := "Key", type := 9, offset := 0, embedded := false, tag := "", pkgPath := "", byteOffset := 0 }, { name := "Delta", type := 2, offset := 1, embedded := false, tag := "", pkgPath := "", byteOffset := 16 }], 2, 24, .agg #[.string ⟨#[]⟩, .int .i64 0]⟩
theorem tk251 : TIok Tryz.prog 251 ti251 := ⟨Tryz.underlying251, by kernel_rfl⟩
def ti254 : TI := ⟨.func #[21] #[4] false, 1, 8, .nilFunc⟩
theorem tk254 : TIok Tryz.prog 254 ti254 := ⟨Tryz.underlying254, by kernel_rfl⟩
def ti256 : TI := ⟨.slice 9, 1, 24, .slice none 0 0⟩
theorem tk256 : TIok Tryz.prog 256 ti256 := ⟨Tryz.underlying256, by kernel_rfl⟩
def ti258 : TI := ⟨.func #[251] #[4] false, 1, 8, .nilFunc⟩
theorem tk258 : TIok Tryz.prog 258 ti258 := ⟨Tryz.underlying258, by kernel_rfl⟩
def ti272 : TI := ⟨.array 256 4, 256, 256, .agg #[.bool false, .bool false, .bool false, .bool false, .bool false, .bool false, .bool false, .bool false, .bool false, .bool false, .bool false, .bool false, .bool false, .bool false, .bool false, .bool false, .bool false, .bool false, .bool false, .bool false, .bool false, .bool false, .bool false, .bool false, .bool false, .bool false, .bool false, .bool false, .bool false, .bool false, .bool false, .bool false, .bool false, .bool false, .bool false, .bool false, .bool false, .bool false, .bool false, .bool false, .bool false, .bool false, .bool false, .bool false, .bool false, .bool false, .bool false, .bool false, .bool false, .bool false, .bool false, .bool false, .bool false, .bool false, .bool false, .bool false, .bool false, .bool false, .bool false, .bool false, .bool false, .bool false, .bool false, .bool false, .bool false, .bool false, .bool false, .bool false, .bool false, .bool false, .bool false, .bool false, .bool false, .bool false, .bool false, .bool false, .bool false, .bool false, .bool false, .bool false, .bool false, .bool false, .bool false, .bool false, .bool false, .bool false, .bool false, .bool false, .bool false, .bool false, .bool false, .bool false, .bool false, .bool false, .bool false, .bool false, .bool false, .bool false, .bool false, .bool false, .bool false, .bool false, .bool false, .bool false, .bool false, .bool false, .bool false, .bool false, .bool false, .bool false, .bool false, .bool false, .bool false, .bool false, .bool false, .bool false, .bool false, .bool false, .bool false, .bool false, .bool false, .bool false, .bool false, .bool false, .bool false, .bool false, .bool false, .bool false, .bool false, .bool false, .bool false, .bool false, .bool false, .bool false, .bool false, .bool false, .bool false, .bool false, .bool false, .bool false, .bool false, .bool false, .bool false, .bool false, .bool false, .bool false, .bool false, .bool false, .bool false, .bool false, .bool false, .bool false, .bool false, .bool false, .bool false, .bool false, .bool false, .bool false, .bool false, .bool false, .bool false, .bool false, .bool false, .bool false, .bool false, .bool false, .bool false, .bool false, .bool false, .bool false, .bool false, .bool false, .bool false, .bool false, .bool false, .bool false, .bool false, .bool false, .bool false, .bool false, .bool false, .bool false, .bool false, .bool false, .bool false, .bool false, .bool false, .bool false, .bool false, .bool false, .bool false, .bool false, .bool false, .bool false, .bool false, .bool false, .bool false, .bool false, .bool false, .bool false, .bool false, .bool false, .bool false, .bool false, .bool false, .bool false, .bool false, .bool false, .bool false, .bool false, .bool false, .bool false, .bool false, .bool false, .bool false, .bool false, .bool false, .bool false, .bool false, .bool false, .bool false, .bool false, .bool false, .bool false, .bool false, .bool false, .bool false, .bool false, .bool false, .bool false, .bool false, .bool false, .bool false, .bool false, .bool false, .bool false, .bool false, .bool false, .bool false, .bool false, .bool false, .bool false, .bool false, .bool false, .bool false, .bool false, .bool false, .bool false, .bool false, .bool false, .bool false, .bool false, .bool false, .bool false, .bool false, .bool false]⟩
theorem tk272 : TIok Tryz.prog 272 ti272 := ⟨Tryz.underlying272, by kernel_rfl⟩
def ti276 : TI := ⟨.pointer 272, 1, 8, .pointer none⟩
theorem tk276 : TIok Tryz.prog 276 ti276 := ⟨Tryz.underlying276, by kernel_rfl⟩
def ti278 : TI := ⟨.array 24 5, 24, 24, .agg #[.int .u8 0, .int .u8 0, .int .u8 0, .int .u8 0, .int .u8 0, .int .u8 0, .int .u8 0, .int .u8 0, .int .u8 0, .int .u8 0, .int .u8 0, .int .u8 0, .int .u8 0, .int .u8 0, .int .u8 0, .int .u8 0, .int .u8 0, .int .u8 0, .int .u8 0, .int .u8 0, .int .u8 0, .int .u8 0, .int .u8 0, .int .u8 0]⟩
theorem tk278 : TIok Tryz.prog 278 ti278 := ⟨Tryz.underlying278, by kernel_rfl⟩
def ti283 : TI := ⟨.pointer 285, 1, 8, .pointer none⟩
theorem tk283 : TIok Tryz.prog 283 ti283 := ⟨Tryz.underlying283, by kernel_rfl⟩
def ti285 : TI := ⟨.struct #[{ name := "addr", type := 283, offset := 0, embedded := false, tag := "", pkgPath := "strings", byteOffset := 0 }, { name := "buf", type := 69, offset := 1, embedded := false, tag := "", pkgPath := "strings", byteOffset := 8 }], 2, 32, .agg #[.pointer none, .slice none 0 0]⟩
theorem tk285 : TIok Tryz.prog 285 ti285 := ⟨Tryz.underlying285, by kernel_rfl⟩
def ti301 : TI := ⟨.array 20 117, 20, 160, .agg #[.int .u64 0, .int .u64 0, .int .u64 0, .int .u64 0, .int .u64 0, .int .u64 0, .int .u64 0, .int .u64 0, .int .u64 0, .int .u64 0, .int .u64 0, .int .u64 0, .int .u64 0, .int .u64 0, .int .u64 0, .int .u64 0, .int .u64 0, .int .u64 0, .int .u64 0, .int .u64 0]⟩
theorem tk301 : TIok Tryz.prog 301 ti301 := ⟨Tryz.underlying301, by kernel_rfl⟩
def ti302 : TI := ⟨.array 65 5, 65, 65, .agg #[.int .u8 0, .int .u8 0, .int .u8 0, .int .u8 0, .int .u8 0, .int .u8 0, .int .u8 0, .int .u8 0, .int .u8 0, .int .u8 0, .int .u8 0, .int .u8 0, .int .u8 0, .int .u8 0, .int .u8 0, .int .u8 0, .int .u8 0, .int .u8 0, .int .u8 0, .int .u8 0, .int .u8 0, .int .u8 0, .int .u8 0, .int .u8 0, .int .u8 0, .int .u8 0, .int .u8 0, .int .u8 0, .int .u8 0, .int .u8 0, .int .u8 0, .int .u8 0, .int .u8 0, .int .u8 0, .int .u8 0, .int .u8 0, .int .u8 0, .int .u8 0, .int .u8 0, .int .u8 0, .int .u8 0, .int .u8 0, .int .u8 0, .int .u8 0, .int .u8 0, .int .u8 0, .int .u8 0, .int .u8 0, .int .u8 0, .int .u8 0, .int .u8 0, .int .u8 0, .int .u8 0, .int .u8 0, .int .u8 0, .int .u8 0, .int .u8 0, .int .u8 0, .int .u8 0, .int .u8 0, .int .u8 0, .int .u8 0, .int .u8 0, .int .u8 0, .int .u8 0]⟩
theorem tk302 : TIok Tryz.prog 302 ti302 := ⟨Tryz.underlying302, by kernel_rfl⟩
def ti303 : TI := ⟨.pointer 5, 1, 8, .pointer none⟩
theorem tk303 : TIok Tryz.prog 303 ti303 := ⟨Tryz.underlying303, by kernel_rfl⟩
def ti316 : TI := ⟨.array 16 172, 16, 64, .agg #[.int .u32 0, .int .u32 0, .int .u32 0, .int .u32 0, .int .u32 0, .int .u32 0, .int .u32 0, .int .u32 0, .int .u32 0, .int .u32 0, .int .u32 0, .int .u32 0, .int .u32 0, .int .u32 0, .int .u32 0, .int .u32 0]⟩
theorem tk316 : TIok Tryz.prog 316 ti316 := ⟨Tryz.underlying316, by kernel_rfl⟩
def ti317 : TI := ⟨.array 256 5, 256, 256, .agg #[.int .u8 0, .int .u8 0, .int .u8 0, .int .u8 0, .int .u8 0, .int .u8 0, .int .u8 0, .int .u8 0, .int .u8 0, .int .u8 0, .int .u8 0, .int .u8 0, .int .u8 0, .int .u8 0, .int .u8 0, .int .u8 0, .int .u8 0, .int .u8 0, .int .u8 0, .int .u8 0, .int .u8 0, .int .u8 0, .int .u8 0, .int .u8 0, .int .u8 0, .int .u8 0, .int .u8 0, .int .u8 0, .int .u8 0, .int .u8 0, .int .u8 0, .int .u8 0, .int .u8 0, .int .u8 0, .int .u8 0, .int .u8 0, .int .u8 0, .int .u8 0, .int .u8 0, .int .u8 0, .int .u8 0, .int .u8 0, .int .u8 0, .int .u8 0, .int .u8 0, .int .u8 0, .int .u8 0, .int .u8 0, .int .u8 0, .int .u8 0, .int .u8 0, .int .u8 0, .int .u8 0, .int .u8 0, .int .u8 0, .int .u8 0, .int .u8 0, .int .u8 0, .int .u8 0, .int .u8 0, .int .u8 0, .int .u8 0, .int .u8 0, .int .u8 0, .int .u8 0, .int .u8 0, .int .u8 0, .int .u8 0, .int .u8 0, .int .u8 0, .int .u8 0, .int .u8 0, .int .u8 0, .int .u8 0, .int .u8 0, .int .u8 0, .int .u8 0, .int .u8 0, .int .u8 0, .int .u8 0, .int .u8 0, .int .u8 0, .int .u8 0, .int .u8 0, .int .u8 0, .int .u8 0, .int .u8 0, .int .u8 0, .int .u8 0, .int .u8 0, .int .u8 0, .int .u8 0, .int .u8 0, .int .u8 0, .int .u8 0, .int .u8 0, .int .u8 0, .int .u8 0, .int .u8 0, .int .u8 0, .int .u8 0, .int .u8 0, .int .u8 0, .int .u8 0, .int .u8 0, .int .u8 0, .int .u8 0, .int .u8 0, .int .u8 0, .int .u8 0, .int .u8 0, .int .u8 0, .int .u8 0, .int .u8 0, .int .u8 0, .int .u8 0, .int .u8 0, .int .u8 0, .int .u8 0, .int .u8 0, .int .u8 0, .int .u8 0, .int .u8 0, .int .u8 0, .int .u8 0, .int .u8 0, .int .u8 0, .int .u8 0, .int .u8 0, .int .u8 0, .int .u8 0, .int .u8 0, .int .u8 0, .int .u8 0, .int .u8 0, .int .u8 0, .int .u8 0, .int .u8 0, .int .u8 0, .int .u8 0, .int .u8 0, .int .u8 0, .int .u8 0, .int .u8 0, .int .u8 0, .int .u8 0, .int .u8 0, .int .u8 0, .int .u8 0, .int .u8 0, .int .u8 0, .int .u8 0, .int .u8 0, .int .u8 0, .int .u8 0, .int .u8 0, .int .u8 0, .int .u8 0, .int .u8 0, .int .u8 0, .int .u8 0, .int .u8 0, .int .u8 0, .int .u8 0, .int .u8 0, .int .u8 0, .int .u8 0, .int .u8 0, .int .u8 0, .int .u8 0, .int .u8 0, .int .u8 0, .int .u8 0, .int .u8 0, .int .u8 0, .int .u8 0, .int .u8 0, .int .u8 0, .int .u8 0, .int .u8 0, .int .u8 0, .int .u8 0, .int .u8 0, .int .u8 0, .int .u8 0, .int .u8 0, .int .u8 0, .int .u8 0, .int .u8 0, .int .u8 0, .int .u8 0, .int .u8 0, .int .u8 0, .int .u8 0, .int .u8 0, .int .u8 0, .int .u8 0, .int .u8 0, .int .u8 0, .int .u8 0, .int .u8 0, .int .u8 0, .int .u8 0, .int .u8 0, .int .u8 0, .int .u8 0, .int .u8 0, .int .u8 0, .int .u8 0, .int .u8 0, .int .u8 0, .int .u8 0, .int .u8 0, .int .u8 0, .int .u8 0, .int .u8 0, .int .u8 0, .int .u8 0, .int .u8 0, .int .u8 0, .int .u8 0, .int .u8 0, .int .u8 0, .int .u8 0, .int .u8 0, .int .u8 0, .int .u8 0, .int .u8 0, .int .u8 0, .int .u8 0, .int .u8 0, .int .u8 0, .int .u8 0, .int .u8 0, .int .u8 0, .int .u8 0, .int .u8 0, .int .u8 0, .int .u8 0, .int .u8 0, .int .u8 0, .int .u8 0, .int .u8 0, .int .u8 0, .int .u8 0, .int .u8 0, .int .u8 0, .int .u8 0, .int .u8 0, .int .u8 0, .int .u8 0, .int .u8 0, .int .u8 0, .int .u8 0, .int .u8 0, .int .u8 0]⟩
theorem tk317 : TIok Tryz.prog 317 ti317 := ⟨Tryz.underlying317, by kernel_rfl⟩
def ti319 : TI := ⟨.struct #[{ name := "lo", type := 5, offset := 0, embedded := false, tag := "", pkgPath := "unicode/utf8", byteOffset := 0 }, { name := "hi", type := 5, offset := 1, embedded := false, tag := "", pkgPath := "unicode/utf8", byteOffset := 1 }], 2, 2, .agg #[.int .u8 0, .int .u8 0]⟩
theorem tk319 : TIok Tryz.prog 319 ti319 := ⟨Tryz.underlying319, by kernel_rfl⟩
def ti320 : TI := ⟨.array 16 319, 32, 32, .agg #[.int .u8 0, .int .u8 0, .int .u8 0, .int .u8 0, .int .u8 0, .int .u8 0, .int .u8 0, .int .u8 0, .int .u8 0, .int .u8 0, .int .u8 0, .int .u8 0, .int .u8 0, .int .u8 0, .int .u8 0, .int .u8 0, .int .u8 0, .int .u8 0, .int .u8 0, .int .u8 0, .int .u8 0, .int .u8 0, .int .u8 0, .int .u8 0, .int .u8 0, .int .u8 0, .int .u8 0, .int .u8 0, .int .u8 0, .int .u8 0, .int .u8 0, .int .u8 0]⟩
theorem tk320 : TIok Tryz.prog 320 ti320 := ⟨Tryz.underlying320, by kernel_rfl⟩
def ti323 : TI := ⟨.array 32 5, 32, 32, .agg #[.int .u8 0, .int .u8 0, .int .u8 0, .int .u8 0, .int .u8 0, .int .u8 0, .int .u8 0, .int .u8 0, .int .u8 0, .int .u8 0, .int .u8 0, .int .u8 0, .int .u8 0, .int .u8 0, .int .u8 0, .int .u8 0, .int .u8 0, .int .u8 0, .int .u8 0, .int .u8 0, .int .u8 0, .int .u8 0, .int .u8 0, .int .u8 0, .int .u8 0, .int .u8 0, .int .u8 0, .int .u8 0, .int .u8 0, .int .u8 0, .int .u8 0, .int .u8 0]⟩
theorem tk323 : TIok Tryz.prog 323 ti323 := ⟨Tryz.underlying323, by kernel_rfl⟩
def ti324 : TI := ⟨.array 64 5, 64, 64, .agg #[.int .u8 0, .int .u8 0, .int .u8 0, .int .u8 0, .int .u8 0, .int .u8 0, .int .u8 0, .int .u8 0, .int .u8 0, .int .u8 0, .int .u8 0, .int .u8 0, .int .u8 0, .int .u8 0, .int .u8 0, .int .u8 0, .int .u8 0, .int .u8 0, .int .u8 0, .int .u8 0, .int .u8 0, .int .u8 0, .int .u8 0, .int .u8 0, .int .u8 0, .int .u8 0, .int .u8 0, .int .u8 0, .int .u8 0, .int .u8 0, .int .u8 0, .int .u8 0, .int .u8 0, .int .u8 0, .int .u8 0, .int .u8 0, .int .u8 0, .int .u8 0, .int .u8 0, .int .u8 0, .int .u8 0, .int .u8 0, .int .u8 0, .int .u8 0, .int .u8 0, .int .u8 0, .int .u8 0, .int .u8 0, .int .u8 0, .int .u8 0, .int .u8 0, .int .u8 0, .int .u8 0, .int .u8 0, .int .u8 0, .int .u8 0, .int .u8 0, .int .u8 0, .int .u8 0, .int .u8 0, .int .u8 0, .int .u8 0, .int .u8 0, .int .u8 0]⟩
theorem tk324 : TIok Tryz.prog 324 ti324 := ⟨Tryz.underlying324, by kernel_rfl⟩
def TB : TR := (.node (.node (.node (.node (.node (.node (.node .leaf 2 ti2 .leaf) 3 ti3 .leaf) 4 ti4 (.node (.node .leaf 5 ti5 .leaf) 9 ti9 .leaf)) 20 ti20 (.node (.node (.node .leaf 21 ti21 .leaf) 22 ti22 .leaf) 23 ti23 (.node (.node .leaf 25 ti25 .leaf) 26 ti26 .leaf))) 29 ti29 (.node (.node (.node (.node .leaf 31 ti31 .leaf) 32 ti32 .leaf) 35 ti35 (.node (.node .leaf 36 ti36 .leaf) 38 ti38 .leaf)) 40 ti40 (.node (.node (.node .leaf 42 ti42 .leaf) 43 ti43 .leaf) 45 ti45 (.node .leaf 47 ti47 .leaf)))) 49 ti49 (.node (.node (.node (.node (.node .leaf 55 ti55 .leaf) 64 ti64 .leaf) 69 ti69 (.node (.node .leaf 73 ti73 .leaf) 78 ti78 .leaf)) 80 ti80 (.node (.node (.node .leaf 81 ti81 .leaf) 85 ti85 .leaf) 87 ti87 (.node (.node .leaf 96 ti96 .leaf) 98 ti98 .leaf))) 105 ti105 (.node (.node (.node (.node .leaf 111 ti111 .leaf) 114 ti114 .leaf) 117 ti117 (.node (.node .leaf 118 ti118 .leaf) 121 ti121 .leaf)) 122 ti122 (.node (.node (.node .leaf 123 ti123 .leaf) 124 ti124 .leaf) 125 ti125 (.node .leaf 127 ti127 .leaf))))) 128 ti128 (.node (.node (.node (.node (.node (.node .leaf 133 ti133 .leaf) 146 ti146 .leaf) 156 ti156 (.node (.node .leaf 164 ti164 .leaf) 172 ti172 .leaf)) 179 ti179 (.node (.node (.node .leaf 182 ti182 .leaf) 184 ti184 .leaf) 185 ti185 (.node (.node .leaf 186 ti186 .leaf) 187 ti187 .leaf))) 188 ti188 (.node (.node (.node (.node .leaf 190 ti190 .leaf) 192 ti192 .leaf) 196 ti196 (.node (.node .leaf 200 ti200 .leaf) 202 ti202 .leaf)) 204 ti204 (.node (.node (.node .leaf 211 ti211 .leaf) 212 ti212 .leaf) 213 ti213 (.node .leaf 216 ti216 .leaf)))) 217 ti217 (.node (.node (.node (.node (.node .leaf 227 ti227 .leaf) 237 ti237 .leaf) 241 ti241 (.node (.node .leaf 245 ti245 .leaf) 251 ti251 .leaf)) 254 ti254 (.node (.node (.node .leaf 256 ti256 .leaf) 258 ti258 .leaf) 272 ti272 (.node (.node .leaf 276 ti276 .leaf) 278 ti278 .leaf))) 283 ti283 (.node (.node (.node (.node .leaf 285 ti285 .leaf) 301 ti301 .leaf) 302 ti302 (.node (.node .leaf 303 ti303 .leaf) 316 ti316 .leaf)) 317 ti317 (.node (.node (.node .leaf 319 ti319 .leaf) 320 ti320 .leaf) 323 ti323 (.node .leaf 324 ti324 .leaf))))))
theorem TBok : TOk Tryz.prog TB := (TOk.node (TOk.node (TOk.node (TOk.node (TOk.node (TOk.node (TOk.node TOk.leaf tk2 TOk.leaf) tk3 TOk.leaf) tk4 (TOk.node (TOk.node TOk.leaf tk5 TOk.leaf) tk9 TOk.leaf)) tk20 (TOk.node (TOk.node (TOk.node TOk.leaf tk21 TOk.leaf) tk22 TOk.leaf) tk23 (TOk.node (TOk.node TOk.leaf tk25 TOk.leaf) tk26 TOk.leaf))) tk29 (TOk.node (TOk.node (TOk.node (TOk.node TOk.leaf tk31 TOk.leaf) tk32 TOk.leaf) tk35 (TOk.node (TOk.node TOk.leaf tk36 TOk.leaf) tk38 TOk.leaf)) tk40 (TOk.node (TOk.node (TOk.node TOk.leaf tk42 TOk.leaf) tk43 TOk.leaf) tk45 (TOk.node TOk.leaf tk47 TOk.leaf)))) tk49 (TOk.node (TOk.node (TOk.node (TOk.node (TOk.node TOk.leaf tk55 TOk.leaf) tk64 TOk.leaf) tk69 (TOk.node (TOk.node TOk.leaf tk73 TOk.leaf) tk78 TOk.leaf)) tk80 (TOk.node (TOk.node (TOk.node TOk.leaf tk81 TOk.leaf) tk85 TOk.leaf) tk87 (TOk.node (TOk.node TOk.leaf tk96 TOk.leaf) tk98 TOk.leaf))) tk105 (TOk.node (TOk.node (TOk.node (TOk.node TOk.leaf tk111 TOk.leaf) tk114 TOk.leaf) tk117 (TOk.node (TOk.node TOk.leaf tk118 TOk.leaf) tk121 TOk.leaf)) tk122 (TOk.node (TOk.node (TOk.node TOk.leaf tk123 TOk.leaf) tk124 TOk.leaf) tk125 (TOk.node TOk.leaf tk127 TOk.leaf))))) tk128 (TOk.node (TOk.node (TOk.node (TOk.node (TOk.node (TOk.node TOk.leaf tk133 TOk.leaf) tk146 TOk.leaf) tk156 (TOk.node (TOk.node TOk.leaf tk164 TOk.leaf) tk172 TOk.leaf)) tk179 (TOk.node (TOk.node (TOk.node TOk.leaf tk182 TOk.leaf) tk184 TOk.leaf) tk185 (TOk.node (TOk.node TOk.leaf tk186 TOk.leaf) tk187 TOk.leaf))) tk188 (TOk.node (TOk.node (TOk.node (TOk.node TOk.leaf tk190 TOk.leaf) tk192 TOk.leaf) tk196 (TOk.node (TOk.node TOk.leaf tk200 TOk.leaf) tk202 TOk.leaf)) tk204 (TOk.node (TOk.node (TOk.node TOk.leaf tk211 TOk.leaf) tk212 TOk.leaf) tk213 (TOk.node TOk.leaf tk216 TOk.leaf)))) tk217 (TOk.node (TOk.node (TOk.node (TOk.node (TOk.node TOk.leaf tk227 TOk.leaf) tk237 TOk.leaf) tk241 (TOk.node (TOk.node TOk.leaf tk245 TOk.leaf) tk251 TOk.leaf)) tk254 (TOk.node (TOk.node (TOk.node TOk.leaf tk256 TOk.leaf) tk258 TOk.leaf) tk272 (TOk.node (TOk.node TOk.leaf tk276 TOk.leaf) tk278 TOk.leaf))) tk283 (TOk.node (TOk.node (TOk.node (TOk.node TOk.leaf tk285 TOk.leaf) tk301 TOk.leaf) tk302 (TOk.node (TOk.node TOk.leaf tk303 TOk.leaf) tk316 TOk.leaf)) tk317 (TOk.node (TOk.node (TOk.node TOk.leaf tk319 TOk.leaf) tk320 TOk.leaf) tk323 (TOk.node TOk.leaf tk324 TOk.leaf))))))
end Go.Proofs.YthmjkaljkgjicaaGreatDoor

namespace Go.X
open Go
def sokB (P : Program) (L : List Nat) : Bool := L.all fun t => !P.stoodInHeld t && !P.eqGuardType P.depth t && (P.fieldsOf t).toList.all fun f => f.name != "_"
theorem sokB_spec {P : Program} {L : List Nat} (h : sokB P L = true) : SOk P L := by
  intro t ht
  have := List.all_eq_true.1 h t ht
  simp only [Bool.and_eq_true, Bool.not_eq_true', List.all_eq_true, bne_iff_ne, ne_eq] at this
  exact ⟨this.1.1, this.1.2, this.2⟩
end Go.X
namespace Go.Proofs.YthmjkaljkgjicaaGreatDoor
open Go Go.X
theorem mixed : Tryz.prog.follows .mixedOrders = true := by kernel_rfl
theorem sok : SOk Tryz.prog [35, 40, 42, 47] := sokB_spec (by kernel_rfl)
/-- a call of f is walked in its place -/
def InSt (f : Nat) (F : Func) (k : Nat) : Prop := ∀ {n : Nat} {x : Code} {rs : List ResultVar} {W : World} {S : Nat → Prop} {r : Option Nat} {args : List SV} {H : List Blk} {nx : K1},
  Nat.ble (lenL args) k = true → F.body = some x → F.results.toList = rs → (∀ A : Ass, snocF H (.ext 0 A) (fun H' => envF 0 args (fun E => Run ⟨Tryz.prog, TB, k, W, S, none, TBok⟩ x E H' (inK ⟨Tryz.prog, TB, k, W, S, none, TBok⟩ A rs nx)))) → CallK ⟨Tryz.prog, TB, n, W, S, r, TBok⟩ f args H nx
theorem InSt.mk' {f : Nat} {F : Func} {k : Nat} (hf : Tryz.prog.funcs[f]? = some F) (hnm : (F.name == "runtime.NumGoroutine") = false) (hn : F.ntmps = k) : InSt f F k :=
  fun hlen hb hrs h => CallK.inline hf hb hnm hn hlen hrs h
end Go.Proofs.YthmjkaljkgjicaaGreatDoor

namespace Go.Proofs.YthmjkaljkgjicaaGreatDoor
open Go Go.X
set_option maxRecDepth 100000
set_option maxHeartbeats 0
theorem shl_u64 {x i : Nat} (hi : 7 * i ≤ 64) (h : x * 2 ^ (7 * i) < 2 ^ 64) : IntKind.u64.wrap ((x : Int) * 2 ^ min ((7 * (i : Int)).toNat) IntKind.u64.bits) = ((x * 2 ^ (7 * i) : Nat) : Int) := by
  have e : min ((7 * (i : Int)).toNat) IntKind.u64.bits = 7 * i := by simp only [IntKind.bits]; omega
  rw [e]
  have e2 : (x : Int) * 2 ^ (7 * i) = ((x * 2 ^ (7 * i) : Nat) : Int) := by push_cast; rfl
  rw [e2]
  exact IntWalk.u64_in _ (by omega)
theorem byte_room {c i : Nat} (hc : c < 256) (hi : i ≤ 9) (h9 : i = 9 → c ≤ 1) : c % 128 * 2 ^ (7 * i) < 2 ^ 64 := by
  have : i = 0 ∨ i = 1 ∨ i = 2 ∨ i = 3 ∨ i = 4 ∨ i = 5 ∨ i = 6 ∨ i = 7 ∨ i = 8 ∨ i = 9 := by omega
  rcases this with rfl | rfl | rfl | rfl | rfl | rfl | rfl | rfl | rfl | rfl <;> simp <;> omega
theorem numG_step {l : List UInt8} {i s : Nat} (hi : i < l.length) : numG i s (l.drop i) =
    if (i = 9 ∧ 1 < (l.getD i 0).toNat) ∨ (0 < i ∧ (l.getD i 0).toNat = 0) then (0, 0) else if (l.getD i 0).toNat < 128 then (s + (l.getD i 0).toNat % 128 * 2 ^ (7 * i), i + 1) else numG (i + 1) (s + (l.getD i 0).toNat % 128 * 2 ^ (7 * i)) (l.drop (i + 1)) := by
  rw [List.drop_eq_getElem_cons hi, numG]
  simp [List.getD, List.getElem?_eq_getElem hi]
theorem acc_room {s x i : Nat} (hs : s < 2 ^ (7 * i)) (hx : x < 128) : s + x * 2 ^ (7 * i) < 2 ^ (7 * (i + 1)) := by
  have e : 2 ^ (7 * (i + 1)) = 128 * 2 ^ (7 * i) := by rw [show 7 * (i + 1) = 7 + 7 * i by omega, Nat.pow_add]
  have : x * 2 ^ (7 * i) ≤ 127 * 2 ^ (7 * i) := Nat.mul_le_mul_right _ (by omega)
  omega
theorem pow_room {s i : Nat} (hs : s < 2 ^ (7 * i)) (hi : i ≤ 9) : s < 2 ^ 64 := Nat.lt_of_lt_of_le hs (Nat.pow_le_pow_right (by omega) (by omega))
theorem number196 {a : Option Addr} {n cap : Nat} {l : List UInt8} {w : World} (h : RdS w 5 1 a n cap (bcells l)) (hl : n ≤ 1152921504606846976) :
    Pu Tryz.prog 117 #[.slice a n cap] w (.tuple #[.int .u64 (numR l).1, .int .i64 (numR l).2]) := by
  have hs := fun n' r H => Sees.old (c := ⟨Tryz.prog, TB, n', w, noS, r, TBok⟩) (H := H) h.old
  have hlen : l.length = n := by
    obtain ⟨T, h1, _⟩ := h
    have := SlA.len h1
    rw [bcells_length, Nat.mul_one] at this
    exact this
  have hc : ∀ i, i < n → ((bcells l).drop ((i : Int).toNat * 1)).take 1 = denL [.v (bcell (l.getD i 0))] := by
    intro i hi
    have hi' : i < (bcells l).length := by rw [bcells_length]; omega
    rw [Int.toNat_natCast, Nat.mul_one, List.drop_eq_getElem_cons hi']
    simp [bcells, denL, den, List.getD, List.getElem?_eq_getElem (show i < l.length by omega)]
  refine enter_sound TBok Tryz.func117 rfl rfl Tryz.ntmps117 [.v (.slice a n cap)] (Kn.start w noS) rfl rfl ?_
  conv => whnf
  repeat' (first
 | with_reducible (first | refine r_seq (fun KS hS => ?_) | (refine hS _ _ ?_; clear hS KS) | (refine hA _ ?_; clear hA KA) | (refine hB _ ?_; clear hB KB) | refine r_block ?_)
 | ((with_reducible (first | refine r_region ?_ | refine r_cond (fun KA hA KB hB => ?_) | refine r_ret ?_ | refine r_skip ?_ | refine r_exit ?_ | refine And.intro rfl ?_ | intro b)); conv => whnf)
 | ((with_reducible refine WrapK.i64 ?_ ?_); (focus omega); conv => whnf)
 | ((with_reducible apply OpK.more); (focus refine sok); (conv => whnf); fail_if_success guard_target =ₛ False)
 | ((with_reducible (first | refine InAt.mk (fun K' hK => ?_) | refine AnyAt.mk (fun K' hK => ?_) | (refine hK _ ?_; clear hK K') | (refine hK _ _ ?_; clear hK K'))); conv => whnf)
 | ((refine And.intro ?_ ?_); all_goals (conv => whnf))
 | (apply r_quiet; refine mixed; kernel_rfl; kernel_rfl; kernel_rfl; conv => whnf)
 | ((first | refine if_t (by decide) ?_ | refine if_f (by decide) ?_ | refine if_decT (by omega) ?_ | refine if_decF (by omega) ?_ | refine if_ndecT (by omega) ?_ | refine if_ndecF (by omega) ?_); conv => whnf)
 | ((first | refine if_dec (fun h => ?_) (fun h => ?_) | refine if_ndec (fun h => ?_) (fun h => ?_) | refine if_cond (fun h => ?_) (fun h => ?_)); all_goals (conv => whnf))
 | with_reducible apply_assumption -symm -exfalso)
  refine r_loop (α := Nat × Nat) (fun x => [(7, .v (.slice a n cap)), (8, .v (.int .i64 n)), (9, .v (.int .i64 x.1)), (4, .v (.int .u64 x.2))]) (fun _ => [])
    (fun x => x.1 ≤ n ∧ x.1 ≤ 9 ∧ x.2 < 2 ^ (7 * x.1) ∧ numR l = numG x.1 x.2 (l.drop x.1)) (fun x => n - x.1) (0, 0) ⟨by simp, by simp, by simp, rfl⟩ ?_ (HSub.refl _) ?_
  · repeat' (first | exact Sub.nil | (refine Sub.cons rfl rfl ?_))
  rintro ⟨i, s⟩ ⟨h1, h2, h3, h4⟩ KL hL
  dsimp only at h1 h2 h3 h4 hL ⊢
  have hb := (l.getD i 0).toNat_lt
  have hb2 : (l.getD i 0).toNat % 128 < 128 := Nat.mod_lt _ (by omega)
  have hp0 := pow_room h3 h2
  by_cases hi : i < n
  · have hst := numG_step (s := s) (show i < l.length by omega)
    rw [← h4] at hst
    have hrm := acc_room h3 hb2
    conv => whnf
    repeat' (first
 | with_reducible (first | refine r_seq (fun KS hS => ?_) | (refine hS _ _ ?_; clear hS KS) | (refine hA _ ?_; clear hA KA) | (refine hB _ ?_; clear hB KB) | refine r_block ?_)
 | ((with_reducible (first | refine r_region ?_ | refine r_cond (fun KA hA KB hB => ?_) | refine r_ret ?_ | refine r_skip ?_ | refine r_exit ?_ | refine And.intro rfl ?_ | intro b)); conv => whnf)
 | ((with_reducible refine WrapK.i64 ?_ ?_); (focus omega); conv => whnf)
 | ((with_reducible refine OpK.id ?_); (first | refine OpK.idx rfl rfl rfl rfl rfl rfl rfl (hs _ _ _) (by omega) (by omega) (hc i (by omega)) (fun b off hp => ?_) | refine OpK.ldp rfl rfl hp (List.cons_ne_nil _ _) ?_); conv => whnf)
 | (refine BitK.eq (bits_andNot _) ?_; conv => whnf)
 | ((with_reducible refine WrapK.id ?_); refine WrapK.eq (IntWalk.u64_in _ (by omega)) ?_; conv => whnf)
 | ((have hroom := byte_room hb h2 (by omega)); refine OpK.shl rfl rfl rfl (by omega) (shl_u64 (by omega) hroom) ?_; conv => whnf)
 | (refine BitK.eq (bits_or64 _ _ _ h3 hroom hp0) ?_; conv => whnf)
 | (rw [if_neg (by omega), if_neg (by omega)] at hst; refine hL (i + 1, _) _ _ ⟨by dsimp only; omega, by dsimp only; omega, hrm, hst⟩ (by dsimp only; omega) ?_ (HSub.refl _); repeat' (first | exact Sub.nil | (refine Sub.cons rfl rfl ?_)))
 | ((with_reducible apply OpK.more); (focus refine sok); (conv => whnf); fail_if_success guard_target =ₛ False)
 | ((with_reducible (first | refine InAt.mk (fun K' hK => ?_) | refine AnyAt.mk (fun K' hK => ?_) | (refine hK _ ?_; clear hK K') | (refine hK _ _ ?_; clear hK K'))); conv => whnf)
 | ((refine And.intro ?_ ?_); all_goals (conv => whnf))
 | (apply r_quiet; refine mixed; kernel_rfl; kernel_rfl; kernel_rfl; conv => whnf)
 | ((first | refine if_t (by decide) ?_ | refine if_f (by decide) ?_ | refine if_decT (by omega) ?_ | refine if_decF (by omega) ?_ | refine if_ndecT (by omega) ?_ | refine if_ndecF (by omega) ?_); conv => whnf)
 | ((first | refine if_dec (fun h => ?_) (fun h => ?_) | refine if_ndec (fun h => ?_) (fun h => ?_) | refine if_cond (fun h => ?_) (fun h => ?_)); all_goals (conv => whnf))
 | with_reducible apply_assumption -symm -exfalso)
    all_goals (refine FinK.pu ?_; rw [hst]; simp only [den, denL]; first | (rw [if_pos (by omega)]; rfl) | (rw [if_neg (by omega), if_pos (by omega)]; simp [List.map]))
  · have hlast : l.drop i = [] := List.drop_of_length_le (by omega)
    rw [hlast] at h4
    conv => whnf
    repeat' (first
 | with_reducible (first | refine r_seq (fun KS hS => ?_) | (refine hS _ _ ?_; clear hS KS) | (refine hA _ ?_; clear hA KA) | (refine hB _ ?_; clear hB KB) | refine r_block ?_)
 | ((with_reducible (first | refine r_region ?_ | refine r_cond (fun KA hA KB hB => ?_) | refine r_ret ?_ | refine r_skip ?_ | refine r_exit ?_ | refine And.intro rfl ?_ | intro b)); conv => whnf)
 | ((with_reducible refine WrapK.i64 ?_ ?_); (focus omega); conv => whnf)
 | ((with_reducible apply OpK.more); (focus refine sok); (conv => whnf); fail_if_success guard_target =ₛ False)
 | ((with_reducible (first | refine InAt.mk (fun K' hK => ?_) | refine AnyAt.mk (fun K' hK => ?_) | (refine hK _ ?_; clear hK K') | (refine hK _ _ ?_; clear hK K'))); conv => whnf)
 | ((refine And.intro ?_ ?_); all_goals (conv => whnf))
 | (apply r_quiet; refine mixed; kernel_rfl; kernel_rfl; kernel_rfl; conv => whnf)
 | ((first | refine if_t (by decide) ?_ | refine if_f (by decide) ?_ | refine if_decT (by omega) ?_ | refine if_decF (by omega) ?_ | refine if_ndecT (by omega) ?_ | refine if_ndecF (by omega) ?_); conv => whnf)
 | ((first | refine if_dec (fun h => ?_) (fun h => ?_) | refine if_ndec (fun h => ?_) (fun h => ?_) | refine if_cond (fun h => ?_) (fun h => ?_)); all_goals (conv => whnf))
 | with_reducible apply_assumption -symm -exfalso)
    refine FinK.pu ?_
    rw [h4]
    rfl
end Go.Proofs.YthmjkaljkgjicaaGreatDoor

namespace Go.Proofs.YthmjkaljkgjicaaGreatDoor
open Go Go.X
set_option maxRecDepth 100000
theorem in132 : InSt 77 Tryz.f77 4 := InSt.mk' Tryz.func77 rfl Tryz.ntmps77
theorem in279 : InSt 222 Tryz.f222 48 := InSt.mk' Tryz.func222 rfl Tryz.ntmps222
theorem in193 : InSt 114 Tryz.f114 10 := InSt.mk' Tryz.func114 rfl Tryz.ntmps114
theorem in194 : InSt 115 Tryz.f115 48 := InSt.mk' Tryz.func115 rfl Tryz.ntmps115
theorem in198 : InSt 119 Tryz.f119 48 := InSt.mk' Tryz.func119 rfl Tryz.ntmps119
theorem in84 : InSt 65 Tryz.f65 8 := InSt.mk' Tryz.func65 rfl Tryz.ntmps65
theorem in134 : InSt 90 Tryz.f90 10 := InSt.mk' Tryz.func90 rfl Tryz.ntmps90
theorem in135 : InSt 91 Tryz.f91 10 := InSt.mk' Tryz.func91 rfl Tryz.ntmps91
theorem in113 : InSt 68 Tryz.f68 7 := InSt.mk' Tryz.func68 rfl Tryz.ntmps68
theorem in82 : InSt 49 Tryz.f49 3 := InSt.mk' Tryz.func49 rfl Tryz.ntmps49
theorem in195 : InSt 116 Tryz.f116 14 := InSt.mk' Tryz.func116 rfl Tryz.ntmps116
theorem in199 : InSt 120 Tryz.f120 37 := InSt.mk' Tryz.func120 rfl Tryz.ntmps120
theorem in331 : InSt 275 Tryz.f275 10 := InSt.mk' Tryz.func275 rfl Tryz.ntmps275
theorem in294 : InSt 230 Tryz.f230 9 := InSt.mk' Tryz.func230 rfl Tryz.ntmps230
theorem in322 : InSt 262 Tryz.f262 8 := InSt.mk' Tryz.func262 rfl Tryz.ntmps262
theorem in295 : InSt 231 Tryz.f231 5 := InSt.mk' Tryz.func231 rfl Tryz.ntmps231
end Go.Proofs.YthmjkaljkgjicaaGreatDoor

namespace Go.Proofs.YthmjkaljkgjicaaGreatDoor
open Go Go.X
set_option maxRecDepth 100000
set_option maxHeartbeats 0
theorem uvar_lt {n : Nat} (h : n < 128) : uvar n = [UInt8.ofNat n] := by rw [uvar, dif_pos h]
theorem uvar_ge {n : Nat} (h : ¬ n < 128) : uvar n = UInt8.ofNat (n % 128 + 128) :: uvar (n / 128) := by rw [uvar, dif_neg h]
theorem uvar_len (n : Nat) : ∀ k, n < 128 ^ (k + 1) → (uvar n).length ≤ k + 1 := by
  induction n using Nat.strongRecOn with
  | _ n ih =>
    intro k hk
    by_cases h : n < 128
    · rw [uvar_lt h]; simp
    · rw [uvar_ge h]
      cases k with
      | zero => simp at hk; omega
      | succ k =>
        have : n / 128 < 128 ^ (k + 1) := by rw [Nat.div_lt_iff_lt_mul (by omega), ← Nat.pow_succ]; exact hk
        have := ih (n / 128) (by omega) k this
        simp; omega
theorem uvar_len64 {n : Nat} (h : n < 2 ^ 64) : (uvar n).length ≤ 10 := uvar_len n 9 (Nat.lt_of_lt_of_le h (by decide))
theorem shr7 (m : Nat) : (m : Int).fdiv (2 ^ min (Int.toNat 7) IntKind.u64.bits) = ((m / 128 : Nat) : Int) := by
  have e : (2 : Int) ^ min (Int.toNat 7) IntKind.u64.bits = 128 := by decide
  rw [e, Int.fdiv_eq_ediv_of_nonneg _ (by omega)]
  omega
theorem u8_wrap (m : Nat) : IntKind.u8.wrap (m : Int) = ((m % 256 : Nat) : Int) := by rw [IntKind.wrap_u8]; omega
def byteX (c : UInt8) : List SV := [.v (bcell c)]
def ulast (n : Nat) : Nat := if n < 128 then n else ulast (n / 128)
termination_by n
decreasing_by omega
theorem ulast_lt {n : Nat} (h : n < 128) : ulast n = n := by rw [ulast, if_pos h]
theorem ulast_ge {n : Nat} (h : ¬ n < 128) : ulast n = ulast (n / 128) := by rw [ulast, if_neg h]
theorem Upd.a2 {x y z : Blk} {H : List Blk} : Upd (z :: x :: H) x y (z :: y :: H) := .tail .head
theorem digits209 {b : Nat} {n : Nat} (hn : n < 2 ^ 64) : ItS Tryz.prog 123 (denL [.loc b 1 0]) [.blk 1 b [.v (.int .u64 n)] 117] [.blk 1 b [.v (.int .u64 (ulast n))] 117] (((uvar n).map byteX).map denL) := by
  intro J yv hyv w
  refine enter_fr TBok (H := .ext 0 (J 0) :: [.blk 1 b [.v (.int .u64 n)] 117]) all_foot Tryz.func123 rfl rfl Tryz.ntmps123 [.v yv, .loc b 1 0] rfl rfl ?_
  intro S
  conv => whnf
  repeat' (first
 | with_reducible (first | refine r_seq (fun KS hS => ?_) | (refine hS _ _ ?_; clear hS KS) | (refine hA _ ?_; clear hA KA) | (refine hB _ ?_; clear hB KB) | refine r_block ?_)
 | ((with_reducible (first | refine r_region ?_ | refine r_cond (fun KA hA KB hB => ?_) | refine r_ret ?_ | refine r_skip ?_ | refine r_exit ?_ | refine And.intro rfl ?_ | intro b)); conv => whnf)
 | ((with_reducible refine WrapK.i64 ?_ ?_); (focus omega); conv => whnf)
 | ((with_reducible apply OpK.more); (focus refine sok); (conv => whnf); fail_if_success guard_target =ₛ False)
 | ((with_reducible (first | refine InAt.mk (fun K' hK => ?_) | refine AnyAt.mk (fun K' hK => ?_) | (refine hK _ ?_; clear hK K') | (refine hK _ _ ?_; clear hK K'))); conv => whnf)
 | ((refine And.intro ?_ ?_); all_goals (conv => whnf))
 | (apply r_quiet; refine mixed; kernel_rfl; kernel_rfl; kernel_rfl; conv => whnf)
 | ((first | refine if_t (by decide) ?_ | refine if_f (by decide) ?_ | refine if_decT (by omega) ?_ | refine if_decF (by omega) ?_ | refine if_ndecT (by omega) ?_ | refine if_ndecF (by omega) ?_); conv => whnf)
 | ((first | refine if_dec (fun h => ?_) (fun h => ?_) | refine if_ndec (fun h => ?_) (fun h => ?_) | refine if_cond (fun h => ?_) (fun h => ?_)); all_goals (conv => whnf))
 | with_reducible apply_assumption -symm -exfalso)
  refine r_loop (α := Nat × Nat) (fun _ => [(0, .v yv), (1, .loc b 1 0)]) (fun x => [.ext 0 (J x.1), .blk 1 b [.v (.int .u64 x.2)] 117])
    (fun x => (uvar n).drop x.1 = uvar x.2 ∧ x.2 < 2 ^ 64 ∧ ulast x.2 = ulast n) (fun x => x.2) (0, n) ⟨rfl, hn, rfl⟩ ?_ (HSub.refl _) ?_
  · repeat' (first | exact Sub.nil | (refine Sub.cons rfl rfl ?_))
  rintro ⟨k, m⟩ ⟨h1, h2, h3⟩ KL hL
  dsimp only at h1 h2 h3 hL ⊢
  by_cases hm : m < 128
  · rw [uvar_lt hm] at h1
    have hk : (uvar n)[k]? = some (UInt8.ofNat m) := by
      have := congrArg (fun l => l[0]?) h1
      simpa using this
    have hlen : (uvar n).length = k + 1 := by
      have := congrArg List.length h1
      simp at this
      omega
    have hy := hyv k [bcell (UInt8.ofNat m)] (by simp [hk, byteX, denL, den])
    have hv : IntKind.u8.wrap (m : Int) = ((UInt8.ofNat m).toNat : Int) := by rw [u8_wrap]; simp
    conv => whnf
    repeat' (first
 | with_reducible (first | refine r_seq (fun KS hS => ?_) | (refine hS _ _ ?_; clear hS KS) | (refine hA _ ?_; clear hA KA) | (refine hB _ ?_; clear hB KB) | refine r_block ?_)
 | ((with_reducible (first | refine r_region ?_ | refine r_cond (fun KA hA KB hB => ?_) | refine r_ret ?_ | refine r_skip ?_ | refine r_exit ?_ | refine And.intro rfl ?_ | intro b)); conv => whnf)
 | ((with_reducible refine WrapK.i64 ?_ ?_); (focus omega); conv => whnf)
 | ((with_reducible refine WrapK.id ?_); refine WrapK.eq hv ?_; conv => whnf)
 | ((with_reducible refine CallV.id ?_); refine CallV.fr Upd.head (v := .bool true) (y := .ext 0 (J (k + 1))) (fun w S h1 h2 => hy w S h1 h2) ?_; conv => whnf)
 | ((with_reducible apply OpK.more); (focus refine sok); (conv => whnf); fail_if_success guard_target =ₛ False)
 | ((with_reducible (first | refine InAt.mk (fun K' hK => ?_) | refine AnyAt.mk (fun K' hK => ?_) | (refine hK _ ?_; clear hK K') | (refine hK _ _ ?_; clear hK K'))); conv => whnf)
 | ((refine And.intro ?_ ?_); all_goals (conv => whnf))
 | (apply r_quiet; refine mixed; kernel_rfl; kernel_rfl; kernel_rfl; conv => whnf)
 | ((first | refine if_t (by decide) ?_ | refine if_f (by decide) ?_ | refine if_decT (by omega) ?_ | refine if_decF (by omega) ?_ | refine if_ndecT (by omega) ?_ | refine if_ndecF (by omega) ?_); conv => whnf)
 | ((first | refine if_dec (fun h => ?_) (fun h => ?_) | refine if_ndec (fun h => ?_) (fun h => ?_) | refine if_cond (fun h => ?_) (fun h => ?_)); all_goals (conv => whnf))
 | with_reducible apply_assumption -symm -exfalso)
    rw [← h3, ulast_lt hm, List.length_map, List.length_map, hlen]
    exact FinK.frL rfl (HSub.refl _)
  · rw [uvar_ge hm] at h1
    have hk : (uvar n)[k]? = some (UInt8.ofNat (m % 128 + 128)) := by
      have := congrArg (fun l => l[0]?) h1
      simpa using this
    have hd : (uvar n).drop (k + 1) = uvar (m / 128) := by
      have := congrArg (fun l => l.drop 1) h1
      simpa [List.drop_drop, Nat.add_comm] using this
    have hy := hyv k [bcell (UInt8.ofNat (m % 128 + 128))] (by simp [hk, byteX, denL, den])
    rw [ulast_ge hm] at h3
    have hv : IntKind.u8.wrap (bitN .or .u8 ((m % 256 : Nat) : Int) 128) = ((UInt8.ofNat (m % 128 + 128)).toNat : Int) := by
      rw [bits_or128 _ (Nat.mod_lt _ (by omega))]
      simp
      omega
    conv => whnf
    repeat' (first
 | with_reducible (first | refine r_seq (fun KS hS => ?_) | (refine hS _ _ ?_; clear hS KS) | (refine hA _ ?_; clear hA KA) | (refine hB _ ?_; clear hB KB) | refine r_block ?_)
 | ((with_reducible (first | refine r_region ?_ | refine r_cond (fun KA hA KB hB => ?_) | refine r_ret ?_ | refine r_skip ?_ | refine r_exit ?_ | refine And.intro rfl ?_ | intro b)); conv => whnf)
 | ((with_reducible refine WrapK.i64 ?_ ?_); (focus omega); conv => whnf)
 | ((with_reducible refine WrapK.id ?_); refine WrapK.eq (u8_wrap m) ?_; conv => whnf)
 | (refine BitK.eq hv ?_; conv => whnf)
 | ((with_reducible refine CallV.id ?_); refine CallV.fr Upd.head (v := .bool true) (y := .ext 0 (J (k + 1))) (fun w S h1 h2 => hy w S h1 h2) ?_; conv => whnf)
 | ((with_reducible refine OpK.id ?_); refine OpK.shr rfl rfl rfl (by omega) (shr7 m) ?_; conv => whnf)
 | (refine hL (k + 1, m / 128) _ _ ⟨hd, by dsimp only; omega, h3⟩ (by dsimp only; omega) ?_ (HSub.refl _); repeat' (first | exact Sub.nil | (refine Sub.cons rfl rfl ?_)))
 | ((with_reducible apply OpK.more); (focus refine sok); (conv => whnf); fail_if_success guard_target =ₛ False)
 | ((with_reducible (first | refine InAt.mk (fun K' hK => ?_) | refine AnyAt.mk (fun K' hK => ?_) | (refine hK _ ?_; clear hK K') | (refine hK _ _ ?_; clear hK K'))); conv => whnf)
 | ((refine And.intro ?_ ?_); all_goals (conv => whnf))
 | (apply r_quiet; refine mixed; kernel_rfl; kernel_rfl; kernel_rfl; conv => whnf)
 | ((first | refine if_t (by decide) ?_ | refine if_f (by decide) ?_ | refine if_decT (by omega) ?_ | refine if_decF (by omega) ?_ | refine if_ndecT (by omega) ?_ | refine if_ndecF (by omega) ?_); conv => whnf)
 | ((first | refine if_dec (fun h => ?_) (fun h => ?_) | refine if_ndec (fun h => ?_) (fun h => ?_) | refine if_cond (fun h => ?_) (fun h => ?_)); all_goals (conv => whnf))
 | with_reducible apply_assumption -symm -exfalso)
/-- a writer, and what it holds -/
def WrA (p : Nat) (l : List UInt8) : Ass :=
  ⟨fun w S => ∃ a cap, Holds w [.blk 10 p [.v (.bool true), .v (.slice a l.length cap)] 156, .ext 11 (SlA 5 1 a l.length cap (bcells l))] S, fun _ _ _ h ⟨a, cap, hx⟩ => ⟨a, cap, hx.loc h⟩⟩
def pv (p : Nat) : Value := .pointer (some ⟨p, 0, none⟩)
theorem WrA.open {w : World} {S : Nat → Prop} {X Y : List Blk} {p j : Nat} {l : List UInt8} (h : Holds w (X ++ .ext j (WrA p l) :: Y) S) :
    ∃ (z : Option Addr × Nat) (S' : Nat → Prop), Holds w (X ++ .blk 10 p [.v (.bool true), .v (.slice z.1 l.length z.2)] 156 :: .ext 11 (SlA 5 1 z.1 l.length z.2 (bcells l)) :: Y) S' ∧ ∀ k, S' k → S k := by
  obtain ⟨TX, TY, h1, h2, h3, h4⟩ := h.split _ _
  cases h2 with
  | @cons _ _ Sx T hx hb hY hd =>
    obtain ⟨a, cap, hz⟩ := hx
    obtain ⟨T', q1, q2⟩ := Holds.glue _ _ hz hY hd
    obtain ⟨T'', q3, q4⟩ := Holds.glue _ _ h1 q1 (fun k hk hk' => h3 k hk ((q2 k).1 hk'))
    exact ⟨(a, cap), T'', q3, fun k hk => (h4 k).2 (((q4 k).1 hk).imp id (q2 k).1)⟩
theorem WrA.close {p j : Nat} {l : List UInt8} {a n cap} {cs : List Value} {i1 i2 : Nat} (hn : n = l.length) (hc : cs = bcells l) : HSub [.ext j (WrA p l)] [.blk i1 p [.v (.bool true), .v (.slice a n cap)] 156, .ext i2 (SlA 5 1 a n cap cs)] :=
  HSub.close fun w S h => by
    subst hn hc
    cases h with
    | @cons _ _ S1 T1 hx hb hH hd =>
      cases hH with
      | @cons _ _ S2 T2 hx2 hb2 hH2 hd2 =>
        cases hH2
        exact ⟨a, cap, .cons (x := .blk 10 p _ 156) hx hb (.cons (x := .ext 11 _) hx2 hb2 .nil hd2) hd⟩
theorem uint83 {p n : Nat} {l : List UInt8} (hn : n < 2 ^ 64) (hl : l.length ≤ 1099511627776) (w : World) : Fr Tryz.prog 50 #[pv p, .int .u64 n] w (WrA p l) (.tuple #[]) (WrA p (l ++ uvar n)) := by
  refine enter_fr TBok (A' := WrA p (l ++ uvar n)) (H := [.ext 12 (WrA p l)]) one_foot Tryz.func50 rfl rfl Tryz.ntmps50 [.loc p 10 0, .v (.int .u64 n)] rfl rfl ?_
  intro S
  refine Run.open (α := Option Addr × Nat) (A := []) (B := []) (fun z => [.blk 10 p [.v (.bool true), .v (.slice z.1 l.length z.2)] 156, .ext 11 (SlA 5 1 z.1 l.length z.2 (bcells l))]) (fun w S h => WrA.open (X := []) (Y := []) h) ?_
  rintro ⟨a, cap⟩
  dsimp only
  conv => whnf
  repeat' (first
 | with_reducible (first | refine r_seq (fun KS hS => ?_) | (refine hS _ _ ?_; clear hS KS) | (refine hA _ ?_; clear hA KA) | (refine hB _ ?_; clear hB KB) | refine r_block ?_)
 | ((with_reducible (first | refine r_region ?_ | refine r_cond (fun KA hA KB hB => ?_) | refine r_ret ?_ | refine r_skip ?_ | refine r_exit ?_ | refine And.intro rfl ?_ | intro b)); conv => whnf)
 | ((with_reducible refine WrapK.i64 ?_ ?_); (focus omega); conv => whnf)
 | (apply in132; rfl; rfl; rfl; intro A; conv => whnf)
 | ((with_reducible apply OpK.more); (focus refine sok); (conv => whnf); fail_if_success guard_target =ₛ False)
 | ((with_reducible (first | refine InAt.mk (fun K' hK => ?_) | refine AnyAt.mk (fun K' hK => ?_) | (refine hK _ ?_; clear hK K') | (refine hK _ _ ?_; clear hK K'))); conv => whnf)
 | ((refine And.intro ?_ ?_); all_goals (conv => whnf))
 | (apply r_quiet; refine mixed; kernel_rfl; kernel_rfl; kernel_rfl; conv => whnf)
 | ((first | refine if_t (by decide) ?_ | refine if_f (by decide) ?_ | refine if_decT (by omega) ?_ | refine if_decF (by omega) ?_ | refine if_ndecT (by omega) ?_ | refine if_ndecF (by omega) ?_); conv => whnf)
 | ((first | refine if_dec (fun h => ?_) (fun h => ?_) | refine if_ndec (fun h => ?_) (fun h => ?_) | refine if_cond (fun h => ?_) (fun h => ?_)); all_goals (conv => whnf))
 | with_reducible apply_assumption -symm -exfalso)
  rename_i bt
  have h10 := uvar_len64 hn
  refine r_rangeFunc (fun i => [.blk 11 bt [.loc p 10 0] 114, .ext 12 (WrA p (l ++ (uvar n).take i))]) ((uvar n).map byteX) 14 rfl ?_
    (digits209 (b := b) hn) (by simp [byteX]) (by decide) ?_ ?_
  · rw [List.take_zero, List.append_nil]
    exact HSub.keep rfl (HSub.keep rfl (WrA.close rfl rfl))
  · intro i x hx lp rc W' S'
    obtain ⟨c, hc, rfl⟩ : ∃ c, (uvar n)[i]? = some c ∧ byteX c = x := by simpa using hx
    have hi : i < (uvar n).length := (List.getElem?_eq_some_iff.1 hc).1
    have hlen : (l ++ (uvar n).take i).length = l.length + i := by simp; omega
    have hnx : l ++ (uvar n).take (i + 1) = l ++ (uvar n).take i ++ [c] := by rw [List.take_add_one, hc]; simp
    have hlen1 : (l ++ (uvar n).take i).length + 1 = (l ++ (uvar n).take (i + 1)).length := by rw [hnx]; simp only [List.length_append, List.length_singleton]
    have hcs1 : bcells (l ++ (uvar n).take i) ++ [bcell c] = bcells (l ++ (uvar n).take (i + 1)) := by rw [hnx, bcells_append (l ++ (uvar n).take i)]; rfl
    conv => whnf
    repeat' (first
 | with_reducible (first | refine r_seq (fun KS hS => ?_) | (refine hS _ _ ?_; clear hS KS) | (refine hA _ ?_; clear hA KA) | (refine hB _ ?_; clear hB KB) | refine r_block ?_)
 | ((with_reducible (first | refine r_region ?_ | refine r_cond (fun KA hA KB hB => ?_) | refine r_ret ?_ | refine r_skip ?_ | refine r_exit ?_ | refine And.intro rfl ?_ | intro b)); conv => whnf)
 | ((with_reducible refine WrapK.i64 ?_ ?_); (focus omega); conv => whnf)
 | ((with_reducible apply OpK.more); (focus refine sok); (conv => whnf); fail_if_success guard_target =ₛ False)
 | ((with_reducible (first | refine InAt.mk (fun K' hK => ?_) | refine AnyAt.mk (fun K' hK => ?_) | (refine hK _ ?_; clear hK K') | (refine hK _ _ ?_; clear hK K'))); conv => whnf)
 | ((refine And.intro ?_ ?_); all_goals (conv => whnf))
 | (apply r_quiet; refine mixed; kernel_rfl; kernel_rfl; kernel_rfl; conv => whnf)
 | ((first | refine if_t (by decide) ?_ | refine if_f (by decide) ?_ | refine if_decT (by omega) ?_ | refine if_decF (by omega) ?_ | refine if_ndecT (by omega) ?_ | refine if_ndecF (by omega) ?_); conv => whnf)
 | ((first | refine if_dec (fun h => ?_) (fun h => ?_) | refine if_ndec (fun h => ?_) (fun h => ?_) | refine if_cond (fun h => ?_) (fun h => ?_)); all_goals (conv => whnf))
 | with_reducible apply_assumption -symm -exfalso)
    refine ⟨_, rfl, ?_⟩
    refine r_block ?_
    refine Run.open (α := Option Addr × Nat) (A := []) (B := []) (fun z => [.ext 14 (lrA lp { rc with state := .busy }), .blk 11 bt [.loc p 10 0] 114, .blk 10 p [.v (.bool true), .v (.slice z.1 (l ++ (uvar n).take i).length z.2)] 156, .ext 11 (SlA 5 1 z.1 (l ++ (uvar n).take i).length z.2 (bcells (l ++ (uvar n).take i)))]) (fun w S h => WrA.open (X := [_, _]) (Y := []) h) ?_
    rintro ⟨a, cap⟩
    dsimp only
    apply r_any
    · refine mixed
    · kernel_rfl
    · kernel_rfl
    conv => whnf
    repeat' (first
 | with_reducible (first | refine r_seq (fun KS hS => ?_) | (refine hS _ _ ?_; clear hS KS) | (refine hA _ ?_; clear hA KA) | (refine hB _ ?_; clear hB KB) | refine r_block ?_)
 | ((with_reducible (first | refine r_region ?_ | refine r_cond (fun KA hA KB hB => ?_) | refine r_ret ?_ | refine r_skip ?_ | refine r_exit ?_ | refine And.intro rfl ?_ | intro b)); conv => whnf)
 | ((with_reducible refine WrapK.i64 ?_ ?_); (focus omega); conv => whnf)
 | ((with_reducible refine OpK.id ?_); refine OpK.app (k := 1) rfl rfl rfl rfl rfl rfl rfl rfl (by repeat (first | with_reducible apply At.head | apply At.tail)) (SrcK.slc rfl rfl (by repeat (first | constructor | apply List.Mem.tail)) (Nat.le_refl _) rfl) (by rw [hlen]; show (_ + 1) * (1 + 1) ≤ 140737488355328; omega) (fun a' cap' => ?_); conv => whnf)
 | ((with_reducible apply OpK.more); (focus refine sok); (conv => whnf); fail_if_success guard_target =ₛ False)
 | ((with_reducible (first | refine InAt.mk (fun K' hK => ?_) | refine AnyAt.mk (fun K' hK => ?_) | (refine hK _ ?_; clear hK K') | (refine hK _ _ ?_; clear hK K'))); conv => whnf)
 | ((refine And.intro ?_ ?_); all_goals (conv => whnf))
 | (apply r_quiet; refine mixed; kernel_rfl; kernel_rfl; kernel_rfl; conv => whnf)
 | ((first | refine if_t (by decide) ?_ | refine if_f (by decide) ?_ | refine if_decT (by omega) ?_ | refine if_decF (by omega) ?_ | refine if_ndecT (by omega) ?_ | refine if_ndecF (by omega) ?_); conv => whnf)
 | ((first | refine if_dec (fun h => ?_) (fun h => ?_) | refine if_ndec (fun h => ?_) (fun h => ?_) | refine if_cond (fun h => ?_) (fun h => ?_)); all_goals (conv => whnf))
 | with_reducible apply_assumption -symm -exfalso)
    all_goals (refine ⟨HSub.drop (HSub.ext (fun _ _ h => h) (HSub.keep rfl (WrA.close hlen1 hcs1)))⟩)
  · conv => whnf
    rw [List.length_map, List.take_length]
    exact FinK.fr (y := .ext 0 (WrA p (l ++ uvar n))) rfl (HSub.drop (HSub.drop (HSub.ext (fun _ _ h => h) HSub.nil))) (fun _ _ h => h)
end Go.Proofs.YthmjkaljkgjicaaGreatDoor

namespace Go.Proofs.YthmjkaljkgjicaaGreatDoor
open Go Go.X
set_option maxRecDepth 100000
set_option maxHeartbeats 0
theorem bone (l : List UInt8) : ∀ u ∈ bcells l, u.oneCell' = true := by
  intro u hu
  obtain ⟨b, _, rfl⟩ := List.mem_map.1 hu
  rfl
theorem clone191 {a : Option Addr} {n cap : Nat} {l : List UInt8} {w : World} (h : RdS w 5 1 a n cap (bcells l)) (hl : n ≤ 1099511627776) :
    FrZ Tryz.prog 112 #[.slice a n cap] w emp (fun z : Option Addr × Nat => .slice z.1 n z.2) (fun z => SlA 5 1 z.1 n z.2 (bcells l)) := by
  refine enter_frZ TBok (H := []) emp_foot Tryz.func112 rfl rfl Tryz.ntmps112 [.v (.slice a n cap)] rfl rfl ?_
  intro S hS _
  have hs := fun n' r H => Sees.old (c := ⟨Tryz.prog, TB, n', w, S, r, TBok⟩) (H := H) (h.oldE hS)
  have hlen := h.len
  cases a with
  | none =>
    obtain ⟨rfl, rfl, hb⟩ : n = 0 ∧ cap = 0 ∧ bcells l = [] := by
      obtain ⟨T, h1, _⟩ := h
      rcases h1 with ⟨_, h2, h3, h4⟩ | ⟨b, _, _, _, _, h2, _⟩
      · exact ⟨h2, h3, h4⟩
      · cases h2
    conv => whnf
    repeat' (first
 | with_reducible (first | refine r_seq (fun KS hS => ?_) | (refine hS _ _ ?_; clear hS KS) | (refine hA _ ?_; clear hA KA) | (refine hB _ ?_; clear hB KB) | refine r_block ?_)
 | ((with_reducible (first | refine r_region ?_ | refine r_cond (fun KA hA KB hB => ?_) | refine r_ret ?_ | refine r_skip ?_ | refine r_exit ?_ | refine And.intro rfl ?_ | intro b)); conv => whnf)
 | ((with_reducible refine WrapK.i64 ?_ ?_); (focus omega); conv => whnf)
 | ((with_reducible refine OpK.id ?_); refine OpK.slNil (b := true) rfl rfl rfl rfl rfl (.inl ⟨rfl, rfl⟩) ?_; conv => whnf)
 | ((with_reducible apply OpK.more); (focus refine sok); (conv => whnf); fail_if_success guard_target =ₛ False)
 | ((with_reducible (first | refine InAt.mk (fun K' hK => ?_) | refine AnyAt.mk (fun K' hK => ?_) | (refine hK _ ?_; clear hK K') | (refine hK _ _ ?_; clear hK K'))); conv => whnf)
 | ((refine And.intro ?_ ?_); all_goals (conv => whnf))
 | (apply r_quiet; refine mixed; kernel_rfl; kernel_rfl; kernel_rfl; conv => whnf)
 | ((first | refine if_t (by decide) ?_ | refine if_f (by decide) ?_ | refine if_decT (by omega) ?_ | refine if_decF (by omega) ?_ | refine if_ndecT (by omega) ?_ | refine if_ndecF (by omega) ?_); conv => whnf)
 | ((first | refine if_dec (fun h => ?_) (fun h => ?_) | refine if_ndec (fun h => ?_) (fun h => ?_) | refine if_cond (fun h => ?_) (fun h => ?_)); all_goals (conv => whnf))
 | with_reducible apply_assumption -symm -exfalso)
    exact FinK.frZ (i := 0) (none, 0) rfl (HSub.trans (HSub.close (A := SlA 5 1 none 0 0 (bcells l)) fun w S _ => .inl ⟨rfl, rfl, rfl, hb⟩) (HSub.refl []))
  | some a =>
    conv => whnf
    repeat' (first
 | with_reducible (first | refine r_seq (fun KS hS => ?_) | (refine hS _ _ ?_; clear hS KS) | (refine hA _ ?_; clear hA KA) | (refine hB _ ?_; clear hB KB) | refine r_block ?_)
 | ((with_reducible (first | refine r_region ?_ | refine r_cond (fun KA hA KB hB => ?_) | refine r_ret ?_ | refine r_skip ?_ | refine r_exit ?_ | refine And.intro rfl ?_ | intro b)); conv => whnf)
 | ((with_reducible refine WrapK.i64 ?_ ?_); (focus omega); conv => whnf)
 | ((with_reducible refine OpK.id ?_); (first | refine OpK.slNil (b := false) rfl rfl rfl rfl rfl (.inl ⟨rfl, rfl⟩) ?_ | (refine OpK.appS (k := 1) rfl rfl rfl rfl rfl rfl rfl rfl At.head rfl (SrcK.sees rfl rfl (hs _ _ _) (bone l)) (by show (0 + n) * (1 + 1) ≤ 140737488355328; omega) (fun a' cap' => ?_))); conv => whnf)
 | ((with_reducible apply OpK.more); (focus refine sok); (conv => whnf); fail_if_success guard_target =ₛ False)
 | ((with_reducible (first | refine InAt.mk (fun K' hK => ?_) | refine AnyAt.mk (fun K' hK => ?_) | (refine hK _ ?_; clear hK K') | (refine hK _ _ ?_; clear hK K'))); conv => whnf)
 | ((refine And.intro ?_ ?_); all_goals (conv => whnf))
 | (apply r_quiet; refine mixed; kernel_rfl; kernel_rfl; kernel_rfl; conv => whnf)
 | ((first | refine if_t (by decide) ?_ | refine if_f (by decide) ?_ | refine if_decT (by omega) ?_ | refine if_decF (by omega) ?_ | refine if_ndecT (by omega) ?_ | refine if_ndecF (by omega) ?_); conv => whnf)
 | ((first | refine if_dec (fun h => ?_) (fun h => ?_) | refine if_ndec (fun h => ?_) (fun h => ?_) | refine if_cond (fun h => ?_) (fun h => ?_)); all_goals (conv => whnf))
 | with_reducible apply_assumption -symm -exfalso)
    exact FinK.frZ (a', cap') (by rw [Nat.zero_add]; rfl) (by rw [Nat.zero_add]; exact HSub.refl _)
/-- a reader, and what is left -/
def RdH (p : Nat) : RSt → Option Addr × Nat → List Blk
  | none, _ => [.blk 10 p [.v (.bool true), .v (.bool true), .v (.slice none 0 0)] 196]
  | some l, z => [.blk 10 p [.v (.bool true), .v (.bool false), .v (.slice z.1 l.length z.2)] 196, .ext 11 (SlA 5 1 z.1 l.length z.2 (bcells l))]
def RdA (p : Nat) (st : RSt) : Ass :=
  ⟨fun w S => ∃ z, Holds w (RdH p st z) S, fun _ _ _ h ⟨z, hx⟩ => ⟨z, hx.loc h⟩⟩
theorem RdA.open {w : World} {S : Nat → Prop} {X Y : List Blk} {p j : Nat} {st : RSt} (h : Holds w (X ++ .ext j (RdA p st) :: Y) S) :
    ∃ (z : Option Addr × Nat) (S' : Nat → Prop), Holds w (X ++ (RdH p st z ++ Y)) S' ∧ ∀ k, S' k → S k := by
  obtain ⟨TX, TY, h1, h2, h3, h4⟩ := h.split _ _
  cases h2 with
  | @cons _ _ Sx T hx hb hY hd =>
    obtain ⟨z, hz⟩ := hx
    obtain ⟨T', q1, q2⟩ := Holds.glue _ _ hz hY hd
    obtain ⟨T'', q3, q4⟩ := Holds.glue _ _ h1 q1 (fun k hk hk' => h3 k hk ((q2 k).1 hk'))
    exact ⟨z, T'', q3, fun k hk => (h4 k).2 (((q4 k).1 hk).imp id (q2 k).1)⟩
theorem RdA.close {p j : Nat} {l : List UInt8} {a n cap} {cs : List Value} {i1 i2 : Nat} (hn : n = l.length) (hc : cs = bcells l) : HSub [.ext j (RdA p (some l))] [.blk i1 p [.v (.bool true), .v (.bool false), .v (.slice a n cap)] 196, .ext i2 (SlA 5 1 a n cap cs)] :=
  HSub.close fun w S h => by
    subst hn hc
    cases h with
    | @cons _ _ S1 T1 hx hb hH hd =>
      cases hH with
      | @cons _ _ S2 T2 hx2 hb2 hH2 hd2 =>
        cases hH2
        exact ⟨(a, cap), .cons (x := .blk 10 p _ 196) hx hb (.cons (x := .ext 11 _) hx2 hb2 .nil hd2) hd⟩
theorem RdA.closeN {p j : Nat} {i1 : Nat} : HSub [.ext j (RdA p none)] [.blk i1 p [.v (.bool true), .v (.bool true), .v (.slice none 0 0)] 196] :=
  HSub.close fun w S h => by
    cases h with
    | @cons _ _ S1 T1 hx hb hH hd =>
      cases hH
      exact ⟨(none, 0), .cons (x := .blk 10 p _ 196) hx hb .nil hd⟩
def RB (st : RSt) : Prop := ∀ l, st = some l → l.length ≤ 1099511627776
theorem uint192 {p : Nat} {st : RSt} (hb : RB st) (w : World) : Fr Tryz.prog 113 #[pv p] w (RdA p st) (.int .u64 (rdU st).1) (RdA p (rdU st).2) := by
  refine enter_fr TBok (A' := RdA p (rdU st).2) (H := [.ext 12 (RdA p st)]) one_foot Tryz.func113 rfl rfl Tryz.ntmps113 [.loc p 10 0] rfl rfl ?_
  intro S
  refine Run.open (α := Option Addr × Nat) (A := []) (B := []) (fun z => RdH p st z ++ []) (fun w S h => RdA.open (X := []) (Y := []) h) ?_
  rintro ⟨a, cap⟩
  cases st with
  | none =>
    dsimp only [RdH, List.cons_append, List.nil_append]
    conv => whnf
    repeat' (first
 | with_reducible (first | refine r_seq (fun KS hS => ?_) | (refine hS _ _ ?_; clear hS KS) | (refine hA _ ?_; clear hA KA) | (refine hB _ ?_; clear hB KB) | refine r_block ?_)
 | ((with_reducible (first | refine r_region ?_ | refine r_cond (fun KA hA KB hB => ?_) | refine r_ret ?_ | refine r_skip ?_ | refine r_exit ?_ | refine And.intro rfl ?_ | intro b)); conv => whnf)
 | ((with_reducible refine WrapK.i64 ?_ ?_); (focus omega); conv => whnf)
 | ((with_reducible refine CallK.id ?_); (first | apply in279 | apply in193); rfl; rfl; rfl; intro A; conv => whnf)
 | ((with_reducible apply OpK.more); (focus refine sok); (conv => whnf); fail_if_success guard_target =ₛ False)
 | ((with_reducible (first | refine InAt.mk (fun K' hK => ?_) | refine AnyAt.mk (fun K' hK => ?_) | (refine hK _ ?_; clear hK K') | (refine hK _ _ ?_; clear hK K'))); conv => whnf)
 | ((refine And.intro ?_ ?_); all_goals (conv => whnf))
 | (apply r_quiet; refine mixed; kernel_rfl; kernel_rfl; kernel_rfl; conv => whnf)
 | ((first | refine if_t (by decide) ?_ | refine if_f (by decide) ?_ | refine if_decT (by omega) ?_ | refine if_decF (by omega) ?_ | refine if_ndecT (by omega) ?_ | refine if_ndecF (by omega) ?_); conv => whnf)
 | ((first | refine if_dec (fun h => ?_) (fun h => ?_) | refine if_ndec (fun h => ?_) (fun h => ?_) | refine if_cond (fun h => ?_) (fun h => ?_)); all_goals (conv => whnf))
 | with_reducible apply_assumption -symm -exfalso)
    exact FinK.fr (y := .ext 0 (RdA p none)) rfl RdA.closeN (fun _ _ h => h)
  | some l =>
    have hl := hb l rfl
    have hR := numR_le l
    dsimp only [RdH, List.cons_append, List.nil_append]
    conv => whnf
    repeat' (first
 | with_reducible (first | refine r_seq (fun KS hS => ?_) | (refine hS _ _ ?_; clear hS KS) | (refine hA _ ?_; clear hA KA) | (refine hB _ ?_; clear hB KB) | refine r_block ?_)
 | ((with_reducible (first | refine r_region ?_ | refine r_cond (fun KA hA KB hB => ?_) | refine r_ret ?_ | refine r_skip ?_ | refine r_exit ?_ | refine And.intro rfl ?_ | intro b)); conv => whnf)
 | ((with_reducible refine WrapK.i64 ?_ ?_); (focus omega); conv => whnf)
 | ((with_reducible refine CallK.id ?_); (first | apply in279 | apply in193); rfl; rfl; rfl; intro A; conv => whnf)
 | ((with_reducible refine CallK.at 117 ?_); refine CallK.puW (fun ms w hk => number196 (l := l) (Sees.rd (Sees.ext (by repeat (first | with_reducible apply At.head | apply At.tail))) hk) (by omega)) ?_; conv => whnf)
 | ((with_reducible refine OpK.id ?_); refine OpK.slE (k := 1) rfl rfl rfl rfl rfl rfl (by repeat (first | with_reducible apply At.head | apply At.tail)) ?_; conv => whnf)
 | (refine ⟨by omega, by omega, by omega, fun a' => ?_⟩; conv => whnf)
 | ((with_reducible apply OpK.more); (focus refine sok); (conv => whnf); fail_if_success guard_target =ₛ False)
 | ((with_reducible (first | refine InAt.mk (fun K' hK => ?_) | refine AnyAt.mk (fun K' hK => ?_) | (refine hK _ ?_; clear hK K') | (refine hK _ _ ?_; clear hK K'))); conv => whnf)
 | ((refine And.intro ?_ ?_); all_goals (conv => whnf))
 | (apply r_quiet; refine mixed; kernel_rfl; kernel_rfl; kernel_rfl; conv => whnf)
 | ((first | refine if_t (by decide) ?_ | refine if_f (by decide) ?_ | refine if_decT (by omega) ?_ | refine if_decF (by omega) ?_ | refine if_ndecT (by omega) ?_ | refine if_ndecF (by omega) ?_); conv => whnf)
 | ((first | refine if_dec (fun h => ?_) (fun h => ?_) | refine if_ndec (fun h => ?_) (fun h => ?_) | refine if_cond (fun h => ?_) (fun h => ?_)); all_goals (conv => whnf))
 | with_reducible apply_assumption -symm -exfalso)
    · rw [show rdU (some l) = (0, none) from if_pos (by omega)]
      exact FinK.fr (y := .ext 0 (RdA p none)) rfl (HSub.trans (RdA.closeN (i1 := 10)) (HSub.keep rfl (HSub.drop HSub.nil))) (fun _ _ h => h)
    · rw [show rdU (some l) = ((numR l).1, some (l.drop (numR l).2)) from if_neg (by omega)]
      exact FinK.fr (y := .ext 0 (RdA p (some (l.drop (numR l).2)))) rfl (RdA.close (bc_len _ _) (bc_drop _ _)) (fun _ _ h => h)
theorem RB.U {st : RSt} (h : RB st) : RB (rdU st).2 := by
  intro l hl
  cases st with
  | none => cases hl
  | some l' =>
    simp only [rdU] at hl
    split at hl
    · cases hl
    · simp only [Option.some.injEq] at hl
      subst hl
      have := h l' rfl
      simp; omega
theorem numG_lt : ∀ (l : List UInt8) (i a : Nat), a < 2 ^ (7 * i) → i ≤ 9 → (numG i a l).1 < 2 ^ 64
  | [], i, a, _, _ => by simp [numG]
  | c :: l, i, a, ha, hi => by
    rw [numG]
    split
    · simp
    · rename_i hc
      have hb := c.toNat_lt
      have h1 := byte_room (c := c.toNat) (i := i) hb hi (by omega)
      have h2 := acc_room (x := c.toNat % 128) ha (Nat.mod_lt _ (by omega))
      by_cases h9 : i = 9
      · subst h9
        rw [if_pos (by omega)]
        have hh : c.toNat % 128 ≤ 1 := by omega
        have h3 : c.toNat % 128 * 2 ^ (7 * 9) ≤ 1 * 2 ^ (7 * 9) := Nat.mul_le_mul_right _ hh
        exact Nat.lt_of_lt_of_le (Nat.add_lt_add_of_lt_of_le ha h3) (by decide)
      · split
        · exact pow_room h2 (by omega)
        · exact numG_lt l (i + 1) _ h2 (by omega)
theorem numR_lt (l : List UInt8) : (numR l).1 < 2 ^ 64 := numG_lt l 0 0 (by simp) (by omega)
theorem rdU_lt (st : RSt) : (rdU st).1 < 2 ^ 64 := by
  cases st with
  | none => simp [rdU]
  | some l =>
    simp only [rdU]
    split
    · simp
    · exact numR_lt l
theorem fail193 {p : Nat} {st : RSt} (w : World) : Fr Tryz.prog 114 #[pv p] w (RdA p st) (.tuple #[]) (RdA p none) := by
  refine enter_fr TBok (A' := RdA p none) (H := [.ext 12 (RdA p st)]) one_foot Tryz.func114 rfl rfl Tryz.ntmps114 [.loc p 10 0] rfl rfl ?_
  intro S
  refine Run.open (α := Option Addr × Nat) (A := []) (B := []) (fun z => RdH p st z ++ []) (fun w S h => RdA.open (X := []) (Y := []) h) ?_
  rintro ⟨a, cap⟩
  cases st with
  | none =>
    dsimp only [RdH, List.cons_append, List.nil_append]
    conv => whnf
    repeat' (first
 | with_reducible (first | refine r_seq (fun KS hS => ?_) | (refine hS _ _ ?_; clear hS KS) | (refine hA _ ?_; clear hA KA) | (refine hB _ ?_; clear hB KB) | refine r_block ?_)
 | ((with_reducible (first | refine r_region ?_ | refine r_cond (fun KA hA KB hB => ?_) | refine r_ret ?_ | refine r_skip ?_ | refine r_exit ?_ | refine And.intro rfl ?_ | intro b)); conv => whnf)
 | ((with_reducible refine WrapK.i64 ?_ ?_); (focus omega); conv => whnf)
 | ((with_reducible apply OpK.more); (focus refine sok); (conv => whnf); fail_if_success guard_target =ₛ False)
 | ((with_reducible (first | refine InAt.mk (fun K' hK => ?_) | refine AnyAt.mk (fun K' hK => ?_) | (refine hK _ ?_; clear hK K') | (refine hK _ _ ?_; clear hK K'))); conv => whnf)
 | ((refine And.intro ?_ ?_); all_goals (conv => whnf))
 | (apply r_quiet; refine mixed; kernel_rfl; kernel_rfl; kernel_rfl; conv => whnf)
 | ((first | refine if_t (by decide) ?_ | refine if_f (by decide) ?_ | refine if_decT (by omega) ?_ | refine if_decF (by omega) ?_ | refine if_ndecT (by omega) ?_ | refine if_ndecF (by omega) ?_); conv => whnf)
 | ((first | refine if_dec (fun h => ?_) (fun h => ?_) | refine if_ndec (fun h => ?_) (fun h => ?_) | refine if_cond (fun h => ?_) (fun h => ?_)); all_goals (conv => whnf))
 | with_reducible apply_assumption -symm -exfalso)
    exact FinK.fr (y := .ext 0 (RdA p none)) rfl RdA.closeN (fun _ _ h => h)
  | some l =>
    dsimp only [RdH, List.cons_append, List.nil_append]
    conv => whnf
    repeat' (first
 | with_reducible (first | refine r_seq (fun KS hS => ?_) | (refine hS _ _ ?_; clear hS KS) | (refine hA _ ?_; clear hA KA) | (refine hB _ ?_; clear hB KB) | refine r_block ?_)
 | ((with_reducible (first | refine r_region ?_ | refine r_cond (fun KA hA KB hB => ?_) | refine r_ret ?_ | refine r_skip ?_ | refine r_exit ?_ | refine And.intro rfl ?_ | intro b)); conv => whnf)
 | ((with_reducible refine WrapK.i64 ?_ ?_); (focus omega); conv => whnf)
 | ((with_reducible apply OpK.more); (focus refine sok); (conv => whnf); fail_if_success guard_target =ₛ False)
 | ((with_reducible (first | refine InAt.mk (fun K' hK => ?_) | refine AnyAt.mk (fun K' hK => ?_) | (refine hK _ ?_; clear hK K') | (refine hK _ _ ?_; clear hK K'))); conv => whnf)
 | ((refine And.intro ?_ ?_); all_goals (conv => whnf))
 | (apply r_quiet; refine mixed; kernel_rfl; kernel_rfl; kernel_rfl; conv => whnf)
 | ((first | refine if_t (by decide) ?_ | refine if_f (by decide) ?_ | refine if_decT (by omega) ?_ | refine if_decF (by omega) ?_ | refine if_ndecT (by omega) ?_ | refine if_ndecF (by omega) ?_); conv => whnf)
 | ((first | refine if_dec (fun h => ?_) (fun h => ?_) | refine if_ndec (fun h => ?_) (fun h => ?_) | refine if_cond (fun h => ?_) (fun h => ?_)); all_goals (conv => whnf))
 | with_reducible apply_assumption -symm -exfalso)
    exact FinK.fr (y := .ext 0 (RdA p none)) rfl (HSub.trans (RdA.closeN (i1 := 10)) (HSub.keep rfl (HSub.drop HSub.nil))) (fun _ _ h => h)
theorem small114 {p : Nat} {st : RSt} {most : Nat} (hb : RB st) (hm : most ≤ 9223372036854775807) (w : World) : Fr Tryz.prog 69 #[pv p, .int .i64 most] w (RdA p st) (.int .i64 (rdS most st).1) (RdA p (rdS most st).2) := by
  have hlt := rdU_lt st
  by_cases hc : (rdU st).1 > most
  · rw [show rdS most st = (0, none) from if_pos hc]
    refine enter_fr TBok (A' := RdA p none) (H := [.ext 12 (RdA p st)]) one_foot Tryz.func69 rfl rfl Tryz.ntmps69 [.loc p 10 0, .v (.int .i64 most)] rfl rfl ?_
    intro S
    conv => whnf
    repeat' (first
 | with_reducible (first | refine r_seq (fun KS hS => ?_) | (refine hS _ _ ?_; clear hS KS) | (refine hA _ ?_; clear hA KA) | (refine hB _ ?_; clear hB KB) | refine r_block ?_)
 | ((with_reducible (first | refine r_region ?_ | refine r_cond (fun KA hA KB hB => ?_) | refine r_ret ?_ | refine r_skip ?_ | refine r_exit ?_ | refine And.intro rfl ?_ | intro b)); conv => whnf)
 | ((with_reducible refine WrapK.i64 ?_ ?_); (focus omega); conv => whnf)
 | ((with_reducible refine CallK.id ?_); refine CallK.fr1 12 At.head (fun ms w _ => uint192 hb w) ?_; conv => whnf)
 | ((with_reducible refine WrapK.id ?_); refine WrapK.eq (IntWalk.u64_in _ (by omega)) ?_; conv => whnf)
 | ((with_reducible refine CallK.id ?_); refine CallK.fr1 12 At.head (fun ms w _ => fail193 w) ?_; conv => whnf)
 | ((with_reducible apply OpK.more); (focus refine sok); (conv => whnf); fail_if_success guard_target =ₛ False)
 | ((with_reducible (first | refine InAt.mk (fun K' hK => ?_) | refine AnyAt.mk (fun K' hK => ?_) | (refine hK _ ?_; clear hK K') | (refine hK _ _ ?_; clear hK K'))); conv => whnf)
 | ((refine And.intro ?_ ?_); all_goals (conv => whnf))
 | (apply r_quiet; refine mixed; kernel_rfl; kernel_rfl; kernel_rfl; conv => whnf)
 | ((first | refine if_t (by decide) ?_ | refine if_f (by decide) ?_ | refine if_decT (by omega) ?_ | refine if_decF (by omega) ?_ | refine if_ndecT (by omega) ?_ | refine if_ndecF (by omega) ?_); conv => whnf)
 | ((first | refine if_dec (fun h => ?_) (fun h => ?_) | refine if_ndec (fun h => ?_) (fun h => ?_) | refine if_cond (fun h => ?_) (fun h => ?_)); all_goals (conv => whnf))
 | with_reducible apply_assumption -symm -exfalso)
    exact FinK.fr (y := .ext 0 (RdA p none)) rfl (HSub.ext (fun _ _ h => h) HSub.nil) (fun _ _ h => h)
  · rw [show rdS most st = rdU st from if_neg hc]
    refine enter_fr TBok (A' := RdA p (rdU st).2) (H := [.ext 12 (RdA p st)]) one_foot Tryz.func69 rfl rfl Tryz.ntmps69 [.loc p 10 0, .v (.int .i64 most)] rfl rfl ?_
    intro S
    conv => whnf
    repeat' (first
 | with_reducible (first | refine r_seq (fun KS hS => ?_) | (refine hS _ _ ?_; clear hS KS) | (refine hA _ ?_; clear hA KA) | (refine hB _ ?_; clear hB KB) | refine r_block ?_)
 | ((with_reducible (first | refine r_region ?_ | refine r_cond (fun KA hA KB hB => ?_) | refine r_ret ?_ | refine r_skip ?_ | refine r_exit ?_ | refine And.intro rfl ?_ | intro b)); conv => whnf)
 | ((with_reducible refine WrapK.i64 ?_ ?_); (focus omega); conv => whnf)
 | ((with_reducible refine CallK.id ?_); refine CallK.fr1 12 At.head (fun ms w _ => uint192 hb w) ?_; conv => whnf)
 | ((with_reducible refine WrapK.id ?_); refine WrapK.eq (IntWalk.u64_in _ (by omega)) ?_; conv => whnf)
 | ((with_reducible apply OpK.more); (focus refine sok); (conv => whnf); fail_if_success guard_target =ₛ False)
 | ((with_reducible (first | refine InAt.mk (fun K' hK => ?_) | refine AnyAt.mk (fun K' hK => ?_) | (refine hK _ ?_; clear hK K') | (refine hK _ _ ?_; clear hK K'))); conv => whnf)
 | ((refine And.intro ?_ ?_); all_goals (conv => whnf))
 | (apply r_quiet; refine mixed; kernel_rfl; kernel_rfl; kernel_rfl; conv => whnf)
 | ((first | refine if_t (by decide) ?_ | refine if_f (by decide) ?_ | refine if_decT (by omega) ?_ | refine if_decF (by omega) ?_ | refine if_ndecT (by omega) ?_ | refine if_ndecF (by omega) ?_); conv => whnf)
 | ((first | refine if_dec (fun h => ?_) (fun h => ?_) | refine if_ndec (fun h => ?_) (fun h => ?_) | refine if_cond (fun h => ?_) (fun h => ?_)); all_goals (conv => whnf))
 | with_reducible apply_assumption -symm -exfalso)
    exact FinK.fr (y := .ext 0 (RdA p (rdU st).2)) rfl (HSub.ext (fun _ _ h => h) HSub.nil) (fun _ _ h => h)
theorem RB.S {st : RSt} {most : Nat} (h : RB st) : RB (rdS most st).2 := by
  unfold rdS
  split
  · intro l hl; cases hl
  · exact h.U
end Go.Proofs.YthmjkaljkgjicaaGreatDoor
