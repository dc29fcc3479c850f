/- Contracts and lemmas for the claim (part 2); no condition of its own. -/
import Derived.Test.YtbgnoibellfojaaGreatDoorYC700
import Derived.Test.YtbgnoibellfojaaGreatDoorProg
import Derived.Test.YtbgnoibellfojaaGreatDoorYC701
set_option linter.all false
set_option linter.unusedVariables false
set_option linter.unusedSimpArgs false
set_option linter.unnecessarySimpa false
namespace Go.Proofs.YtbgnoibellfojaaGreatDoor
open Go Go.X
def ti2 : TI := ⟨.int .i64, 1, 8, .int .i64 0⟩
theorem tk2 : TIok Tryz.prog 2 ti2 := ⟨Tryz.underlying2, by kernel_rfl⟩
def ti3 : TI := ⟨.int .i64, 1, 8, .int .i64 0⟩
theorem tk3 : TIok Tryz.prog 3 ti3 := ⟨Tryz.underlying3, by kernel_rfl⟩
def ti4 : TI := ⟨.bool, 1, 1, .bool false⟩
theorem tk4 : TIok Tryz.prog 4 ti4 := ⟨Tryz.underlying4, by kernel_rfl⟩
def ti5 : TI := ⟨.int .u8, 1, 1, .int .u8 0⟩
theorem tk5 : TIok Tryz.prog 5 ti5 := ⟨Tryz.underlying5, by kernel_rfl⟩
def ti9 : TI := ⟨.string, 1, 16, .string ⟨#[]⟩⟩
theorem tk9 : TIok Tryz.prog 9 ti9 := ⟨Tryz.underlying9, by kernel_rfl⟩
def ti20 : TI := ⟨.interface #[], 1, 16, .nilIface⟩
theorem tk20 : TIok Tryz.prog 20 ti20 := ⟨Tryz.underlying20, by kernel_rfl⟩
def ti21 : TI := ⟨.int .i32, 1, 4, .int .i32 0⟩
theorem tk21 : TIok Tryz.prog 21 ti21 := ⟨Tryz.underlying21, by kernel_rfl⟩
def ti23 : TI := ⟨.struct #[{ name := "Round", type := 3, offset := 0, embedded := false, tag := "", pkgPath := "", byteOffset := 0 }, { name := "Node", type := 3, offset := 1, embedded := false, tag := "", pkgPath := "", byteOffset := 8 }], 2, 16, .agg #[.int .i64 0, .int .i64 0]⟩
theorem tk23 : TIok Tryz.prog 23 ti23 := ⟨Tryz.underlying23, by kernel_rfl⟩
def ti24 : TI := ⟨.slice 87, 1, 24, .slice none 0 0⟩
theorem tk24 : TIok Tryz.prog 24 ti24 := ⟨Tryz.underlying24, by kernel_rfl⟩
def ti26 : TI := ⟨.struct #[{ name := "Kind", type := 3, offset := 0, embedded := false, tag := "", pkgPath := "", byteOffset := 0 }, { name := "From", type := 3, offset := 1, embedded := false, tag := "", pkgPath := "", byteOffset := 8 }, { name := "To", type := 3, offset := 2, embedded := false, tag := "", pkgPath := "", byteOffset := 16 }, { name := "B", type := 23, offset := 3, embedded := false, tag := "", pkgPath := "", byteOffset := 24 }, { name := "Slot", type := 3, offset := 5, embedded := false, tag := "", pkgPath := "", byteOffset := 40 }, { name := "Num", type := 3, offset := 6, embedded := false, tag := "", pkgPath := "", byteOffset := 48 }, { name := "Value", type := 9, offset := 7, embedded := false, tag := "", pkgPath := "", byteOffset := 56 }, { name := "List", type := 24, offset := 8, embedded := false, tag := "", pkgPath := "", byteOffset := 72 }], 9, 96, .agg #[.int .i64 0, .int .i64 0, .int .i64 0, .int .i64 0, .int .i64 0, .int .i64 0, .int .i64 0, .string ⟨#[]⟩, .slice none 0 0]⟩
theorem tk26 : TIok Tryz.prog 26 ti26 := ⟨Tryz.underlying26, by kernel_rfl⟩
def ti27 : TI := ⟨.int .i64, 1, 8, .int .i64 0⟩
theorem tk27 : TIok Tryz.prog 27 ti27 := ⟨Tryz.underlying27, by kernel_rfl⟩
def ti29 : TI := ⟨.struct #[{ name := "Err", type := 27, offset := 0, embedded := false, tag := "", pkgPath := "", byteOffset := 0 }, { name := "Num", type := 2, offset := 1, embedded := false, tag := "", pkgPath := "", byteOffset := 8 }, { name := "Data", type := 9, offset := 2, embedded := false, tag := "", pkgPath := "", byteOffset := 16 }], 3, 32, .agg #[.int .i64 0, .int .i64 0, .string ⟨#[]⟩]⟩
theorem tk29 : TIok Tryz.prog 29 ti29 := ⟨Tryz.underlying29, by kernel_rfl⟩
def ti30 : TI := ⟨.func #[26] #[4] false, 1, 8, .nilFunc⟩
theorem tk30 : TIok Tryz.prog 30 ti30 := ⟨Tryz.underlying30, by kernel_rfl⟩
def ti32 : TI := ⟨.pointer 81, 1, 8, .pointer none⟩
theorem tk32 : TIok Tryz.prog 32 ti32 := ⟨Tryz.underlying32, by kernel_rfl⟩
def ti35 : TI := ⟨.pointer 92, 1, 8, .pointer none⟩
theorem tk35 : TIok Tryz.prog 35 ti35 := ⟨Tryz.underlying35, by kernel_rfl⟩
def ti39 : TI := ⟨.struct #[{ name := "Saga", type := 3, offset := 0, embedded := false, tag := "", pkgPath := "", byteOffset := 0 }, { name := "Step", type := 3, offset := 1, embedded := false, tag := "", pkgPath := "", byteOffset := 8 }, { name := "Phase", type := 3, offset := 2, embedded := false, tag := "", pkgPath := "", byteOffset := 16 }], 3, 24, .agg #[.int .i64 0, .int .i64 0, .int .i64 0]⟩
theorem tk39 : TIok Tryz.prog 39 ti39 := ⟨Tryz.underlying39, by kernel_rfl⟩
def ti40 : TI := ⟨.func #[39] #[29, 4] false, 1, 8, .nilFunc⟩
theorem tk40 : TIok Tryz.prog 40 ti40 := ⟨Tryz.underlying40, by kernel_rfl⟩
def ti41 : TI := ⟨.slice 40, 1, 24, .slice none 0 0⟩
theorem tk41 : TIok Tryz.prog 41 ti41 := ⟨Tryz.underlying41, by kernel_rfl⟩
def ti43 : TI := ⟨.struct #[{ name := "From", type := 9, offset := 0, embedded := false, tag := "", pkgPath := "", byteOffset := 0 }, { name := "To", type := 9, offset := 1, embedded := false, tag := "", pkgPath := "", byteOffset := 16 }], 2, 32, .agg #[.string ⟨#[]⟩, .string ⟨#[]⟩]⟩
theorem tk43 : TIok Tryz.prog 43 ti43 := ⟨Tryz.underlying43, by kernel_rfl⟩
def ti44 : TI := ⟨.slice 144, 1, 24, .slice none 0 0⟩
theorem tk44 : TIok Tryz.prog 44 ti44 := ⟨Tryz.underlying44, by kernel_rfl⟩
def ti46 : TI := ⟨.struct #[{ name := "Name", type := 9, offset := 0, embedded := false, tag := "", pkgPath := "", byteOffset := 0 }, { name := "Retries", type := 3, offset := 1, embedded := false, tag := "", pkgPath := "", byteOffset := 16 }, { name := "Deadline", type := 3, offset := 2, embedded := false, tag := "", pkgPath := "", byteOffset := 24 }, { name := "Steps", type := 44, offset := 3, embedded := false, tag := "", pkgPath := "", byteOffset := 32 }], 4, 56, .agg #[.string ⟨#[]⟩, .int .i64 0, .int .i64 0, .slice none 0 0]⟩
theorem tk46 : TIok Tryz.prog 46 ti46 := ⟨Tryz.underlying46, by kernel_rfl⟩
def ti48 : TI := ⟨.struct #[{ name := "Eff", type := 39, offset := 0, embedded := false, tag := "", pkgPath := "", byteOffset := 0 }, { name := "Move", type := 3, offset := 3, embedded := false, tag := "", pkgPath := "", byteOffset := 24 }, { name := "In", type := 4, offset := 4, embedded := false, tag := "", pkgPath := "", byteOffset := 32 }, { name := "Group", type := 3, offset := 5, embedded := false, tag := "", pkgPath := "", byteOffset := 40 }], 6, 48, .agg #[.int .i64 0, .int .i64 0, .int .i64 0, .int .i64 0, .bool false, .int .i64 0]⟩
theorem tk48 : TIok Tryz.prog 48 ti48 := ⟨Tryz.underlying48, by kernel_rfl⟩
def ti50 : TI := ⟨.struct #[{ name := "Kind", type := 3, offset := 0, embedded := false, tag := "", pkgPath := "", byteOffset := 0 }, { name := "Call", type := 3, offset := 1, embedded := false, tag := "", pkgPath := "", byteOffset := 8 }, { name := "Saga", type := 3, offset := 2, embedded := false, tag := "", pkgPath := "", byteOffset := 16 }, { name := "Eff", type := 39, offset := 3, embedded := false, tag := "", pkgPath := "", byteOffset := 24 }, { name := "Key", type := 9, offset := 6, embedded := false, tag := "", pkgPath := "", byteOffset := 48 }, { name := "Delta", type := 2, offset := 7, embedded := false, tag := "", pkgPath := "", byteOffset := 64 }, { name := "Move", type := 3, offset := 8, embedded := false, tag := "", pkgPath := "", byteOffset := 72 }, { name := "R", type := 43, offset := 9, embedded := false, tag := "", pkgPath := "", byteOffset := 80 }, { name := "Group", type := 3, offset := 11, embedded := false, tag := "", pkgPath := "", byteOffset := 112 }, { name := "Def", type := 46, offset := 12, embedded := false, tag := "", pkgPath := "", byteOffset := 120 }, { name := "Item", type := 48, offset := 16, embedded := false, tag := "", pkgPath := "", byteOffset := 176 }, { name := "Res", type := 27, offset := 22, embedded := false, tag := "", pkgPath := "", byteOffset := 224 }, { name := "Data", type := 9, offset := 23, embedded := false, tag := "", pkgPath := "", byteOffset := 232 }], 24, 248, .agg #[.int .i64 0, .int .i64 0, .int .i64 0, .int .i64 0, .int .i64 0, .int .i64 0, .string ⟨#[]⟩, .int .i64 0, .int .i64 0, .string ⟨#[]⟩, .string ⟨#[]⟩, .int .i64 0, .string ⟨#[]⟩, .int .i64 0, .int .i64 0, .slice none 0 0, .int .i64 0, .int .i64 0, .int .i64 0, .int .i64 0, .bool false, .int .i64 0, .int .i64 0, .string ⟨#[]⟩]⟩
theorem tk50 : TIok Tryz.prog 50 ti50 := ⟨Tryz.underlying50, by kernel_rfl⟩
def ti59 : TI := ⟨.array 2 3, 2, 16, .agg #[.int .i64 0, .int .i64 0]⟩
theorem tk59 : TIok Tryz.prog 59 ti59 := ⟨Tryz.underlying59, by kernel_rfl⟩
def ti60 : TI := ⟨.slice 59, 1, 24, .slice none 0 0⟩
theorem tk60 : TIok Tryz.prog 60 ti60 := ⟨Tryz.underlying60, by kernel_rfl⟩
def ti64 : TI := ⟨.func #[48] #[50, 4] false, 1, 8, .nilFunc⟩
theorem tk64 : TIok Tryz.prog 64 ti64 := ⟨Tryz.underlying64, by kernel_rfl⟩
def ti66 : TI := ⟨.slice 26, 1, 24, .slice none 0 0⟩
theorem tk66 : TIok Tryz.prog 66 ti66 := ⟨Tryz.underlying66, by kernel_rfl⟩
def ti68 : TI := ⟨.slice 48, 1, 24, .slice none 0 0⟩
theorem tk68 : TIok Tryz.prog 68 ti68 := ⟨Tryz.underlying68, by kernel_rfl⟩
def ti69 : TI := ⟨.slice 3, 1, 24, .slice none 0 0⟩
theorem tk69 : TIok Tryz.prog 69 ti69 := ⟨Tryz.underlying69, by kernel_rfl⟩
def ti71 : TI := ⟨.int .u16, 1, 2, .int .u16 0⟩
theorem tk71 : TIok Tryz.prog 71 ti71 := ⟨Tryz.underlying71, by kernel_rfl⟩
def ti79 : TI := ⟨.map 3 120, 1, 8, .map none⟩
theorem tk79 : TIok Tryz.prog 79 ti79 := ⟨Tryz.underlying79, by kernel_rfl⟩
def ti81 : TI := ⟨.struct #[{ name := "n", type := 3, offset := 0, embedded := false, tag := "", pkgPath := "skald/drive", byteOffset := 0 }, { name := "groups", type := 3, offset := 1, embedded := false, tag := "", pkgPath := "skald/drive", byteOffset := 8 }, { name := "ticks", type := 3, offset := 2, embedded := false, tag := "", pkgPath := "skald/drive", byteOffset := 16 }, { name := "waits", type := 79, offset := 3, embedded := false, tag := "", pkgPath := "skald/drive", byteOffset := 24 }], 4, 32, .agg #[.int .i64 0, .int .i64 0, .int .i64 0, .map none]⟩
theorem tk81 : TIok Tryz.prog 81 ti81 := ⟨Tryz.underlying81, by kernel_rfl⟩
def ti82 : TI := ⟨.slice 32, 1, 24, .slice none 0 0⟩
theorem tk82 : TIok Tryz.prog 82 ti82 := ⟨Tryz.underlying82, by kernel_rfl⟩
def ti87 : TI := ⟨.struct #[{ name := "Slot", type := 3, offset := 0, embedded := false, tag := "", pkgPath := "", byteOffset := 0 }, { name := "B", type := 23, offset := 1, embedded := false, tag := "", pkgPath := "", byteOffset := 8 }, { name := "Value", type := 9, offset := 3, embedded := false, tag := "", pkgPath := "", byteOffset := 24 }], 4, 40, .agg #[.int .i64 0, .int .i64 0, .int .i64 0, .string ⟨#[]⟩]⟩
theorem tk87 : TIok Tryz.prog 87 ti87 := ⟨Tryz.underlying87, by kernel_rfl⟩
def ti90 : TI := ⟨.slice 351, 1, 24, .slice none 0 0⟩
theorem tk90 : TIok Tryz.prog 90 ti90 := ⟨Tryz.underlying90, by kernel_rfl⟩
def ti92 : TI := ⟨.struct #[{ name := "Made", type := 4, offset := 0, embedded := false, tag := "", pkgPath := "", byteOffset := 0 }, { name := "N", type := 3, offset := 1, embedded := false, tag := "", pkgPath := "", byteOffset := 8 }, { name := "Groups", type := 3, offset := 2, embedded := false, tag := "", pkgPath := "", byteOffset := 16 }, { name := "Ticks", type := 3, offset := 3, embedded := false, tag := "", pkgPath := "", byteOffset := 24 }, { name := "L", type := 90, offset := 4, embedded := false, tag := "", pkgPath := "", byteOffset := 32 }], 5, 56, .agg #[.bool false, .int .i64 0, .int .i64 0, .int .i64 0, .slice none 0 0]⟩
theorem tk92 : TIok Tryz.prog 92 ti92 := ⟨Tryz.underlying92, by kernel_rfl⟩
def ti97 : TI := ⟨.slice 5, 1, 24, .slice none 0 0⟩
theorem tk97 : TIok Tryz.prog 97 ti97 := ⟨Tryz.underlying97, by kernel_rfl⟩
def ti102 : TI := ⟨.int .u64, 1, 8, .int .u64 0⟩
theorem tk102 : TIok Tryz.prog 102 ti102 := ⟨Tryz.underlying102, by kernel_rfl⟩
def ti106 : TI := ⟨.pointer 108, 1, 8, .pointer none⟩
theorem tk106 : TIok Tryz.prog 106 ti106 := ⟨Tryz.underlying106, by kernel_rfl⟩
def ti108 : TI := ⟨.struct #[{ name := "addr", type := 106, offset := 0, embedded := false, tag := "", pkgPath := "strings", byteOffset := 0 }, { name := "buf", type := 97, offset := 1, embedded := false, tag := "", pkgPath := "strings", byteOffset := 8 }], 2, 32, .agg #[.pointer none, .slice none 0 0]⟩
theorem tk108 : TIok Tryz.prog 108 ti108 := ⟨Tryz.underlying108, by kernel_rfl⟩
def ti116 : TI := ⟨.map 3 48, 1, 8, .map none⟩
theorem tk116 : TIok Tryz.prog 116 ti116 := ⟨Tryz.underlying116, by kernel_rfl⟩
def ti120 : TI := ⟨.struct #[{ name := "asked", type := 3, offset := 0, embedded := false, tag := "", pkgPath := "skald/drive", byteOffset := 0 }, { name := "last", type := 3, offset := 1, embedded := false, tag := "", pkgPath := "skald/drive", byteOffset := 8 }], 2, 16, .agg #[.int .i64 0, .int .i64 0]⟩
theorem tk120 : TIok Tryz.prog 120 ti120 := ⟨Tryz.underlying120, by kernel_rfl⟩
def ti122 : TI := ⟨.func #[3, 120] #[4] false, 1, 8, .nilFunc⟩
theorem tk122 : TIok Tryz.prog 122 ti122 := ⟨Tryz.underlying122, by kernel_rfl⟩
def ti130 : TI := ⟨.func #[177] #[] false, 1, 8, .nilFunc⟩
theorem tk130 : TIok Tryz.prog 130 ti130 := ⟨Tryz.underlying130, by kernel_rfl⟩
def ti135 : TI := ⟨.func #[48] #[4] false, 1, 8, .nilFunc⟩
theorem tk135 : TIok Tryz.prog 135 ti135 := ⟨Tryz.underlying135, by kernel_rfl⟩
def ti144 : TI := ⟨.struct #[{ name := "Key", type := 9, offset := 0, embedded := false, tag := "", pkgPath := "", byteOffset := 0 }, { name := "Delta", type := 2, offset := 1, embedded := false, tag := "", pkgPath := "", byteOffset := 16 }], 2, 24, .agg #[.string ⟨#[]⟩, .int .i64 0]⟩
theorem tk144 : TIok Tryz.prog 144 ti144 := ⟨Tryz.underlying144, by kernel_rfl⟩
def ti145 : TI := ⟨.pointer 209, 1, 8, .pointer none⟩
theorem tk145 : TIok Tryz.prog 145 ti145 := ⟨Tryz.underlying145, by kernel_rfl⟩
def ti148 : TI := ⟨.int .u64, 1, 8, .int .u64 0⟩
theorem tk148 : TIok Tryz.prog 148 ti148 := ⟨Tryz.underlying148, by kernel_rfl⟩
def ti152 : TI := ⟨.pointer 215, 1, 8, .pointer none⟩
theorem tk152 : TIok Tryz.prog 152 ti152 := ⟨Tryz.underlying152, by kernel_rfl⟩
def ti156 : TI := ⟨.int .u32, 1, 4, .int .u32 0⟩
theorem tk156 : TIok Tryz.prog 156 ti156 := ⟨Tryz.underlying156, by kernel_rfl⟩
def ti161 : TI := ⟨.pointer 5, 1, 8, .pointer none⟩
theorem tk161 : TIok Tryz.prog 161 ti161 := ⟨Tryz.underlying161, by kernel_rfl⟩
def ti165 : TI := ⟨.slice 174, 1, 24, .slice none 0 0⟩
theorem tk165 : TIok Tryz.prog 165 ti165 := ⟨Tryz.underlying165, by kernel_rfl⟩
def ti168 : TI := ⟨.func #[175] #[4] false, 1, 8, .nilFunc⟩
theorem tk168 : TIok Tryz.prog 168 ti168 := ⟨Tryz.underlying168, by kernel_rfl⟩
def ti169 : TI := ⟨.func #[145, 175] #[] false, 1, 8, .nilFunc⟩
theorem tk169 : TIok Tryz.prog 169 ti169 := ⟨Tryz.underlying169, by kernel_rfl⟩
def ti170 : TI := ⟨.func #[194, 175] #[] false, 1, 8, .nilFunc⟩
theorem tk170 : TIok Tryz.prog 170 ti170 := ⟨Tryz.underlying170, by kernel_rfl⟩
def ti171 : TI := ⟨.func #[175] #[9] false, 1, 8, .nilFunc⟩
theorem tk171 : TIok Tryz.prog 171 ti171 := ⟨Tryz.underlying171, by kernel_rfl⟩
def ti172 : TI := ⟨.func #[175] #[] false, 1, 8, .nilFunc⟩
theorem tk172 : TIok Tryz.prog 172 ti172 := ⟨Tryz.underlying172, by kernel_rfl⟩
def ti174 : TI := ⟨.struct #[{ name := "ok", type := 168, offset := 0, embedded := false, tag := "", pkgPath := "skald/cmds", byteOffset := 0 }, { name := "write", type := 169, offset := 1, embedded := false, tag := "", pkgPath := "skald/cmds", byteOffset := 8 }, { name := "read", type := 170, offset := 2, embedded := false, tag := "", pkgPath := "skald/cmds", byteOffset := 16 }, { name := "text", type := 171, offset := 3, embedded := false, tag := "", pkgPath := "skald/cmds", byteOffset := 24 }, { name := "clear", type := 172, offset := 4, embedded := false, tag := "", pkgPath := "skald/cmds", byteOffset := 32 }], 5, 40, .agg #[.nilFunc, .nilFunc, .nilFunc, .nilFunc, .nilFunc]⟩
theorem tk174 : TIok Tryz.prog 174 ti174 := ⟨Tryz.underlying174, by kernel_rfl⟩
def ti175 : TI := ⟨.pointer 50, 1, 8, .pointer none⟩
theorem tk175 : TIok Tryz.prog 175 ti175 := ⟨Tryz.underlying175, by kernel_rfl⟩
def ti179 : TI := ⟨.struct #[{ name := "word", type := 9, offset := 0, embedded := false, tag := "", pkgPath := "skald/msg", byteOffset := 0 }, { name := "uses", type := 3, offset := 1, embedded := false, tag := "", pkgPath := "skald/msg", byteOffset := 16 }, { name := "slot", type := 3, offset := 2, embedded := false, tag := "", pkgPath := "skald/msg", byteOffset := 24 }, { name := "low", type := 3, offset := 3, embedded := false, tag := "", pkgPath := "skald/msg", byteOffset := 32 }, { name := "high", type := 3, offset := 4, embedded := false, tag := "", pkgPath := "skald/msg", byteOffset := 40 }], 5, 48, .agg #[.string ⟨#[]⟩, .int .i64 0, .int .i64 0, .int .i64 0, .int .i64 0]⟩
theorem tk179 : TIok Tryz.prog 179 ti179 := ⟨Tryz.underlying179, by kernel_rfl⟩
def ti182 : TI := ⟨.slice 189, 1, 24, .slice none 0 0⟩
theorem tk182 : TIok Tryz.prog 182 ti182 := ⟨Tryz.underlying182, by kernel_rfl⟩
def ti184 : TI := ⟨.func #[179, 26] #[4] false, 1, 8, .nilFunc⟩
theorem tk184 : TIok Tryz.prog 184 ti184 := ⟨Tryz.underlying184, by kernel_rfl⟩
def ti185 : TI := ⟨.func #[145, 26] #[] false, 1, 8, .nilFunc⟩
theorem tk185 : TIok Tryz.prog 185 ti185 := ⟨Tryz.underlying185, by kernel_rfl⟩
def ti186 : TI := ⟨.func #[26] #[9] false, 1, 8, .nilFunc⟩
theorem tk186 : TIok Tryz.prog 186 ti186 := ⟨Tryz.underlying186, by kernel_rfl⟩
def ti187 : TI := ⟨.func #[194, 229] #[] false, 1, 8, .nilFunc⟩
theorem tk187 : TIok Tryz.prog 187 ti187 := ⟨Tryz.underlying187, by kernel_rfl⟩
def ti189 : TI := ⟨.struct #[{ name := "use", type := 3, offset := 0, embedded := false, tag := "", pkgPath := "skald/msg", byteOffset := 0 }, { name := "ok", type := 184, offset := 1, embedded := false, tag := "", pkgPath := "skald/msg", byteOffset := 8 }, { name := "zero", type := 30, offset := 2, embedded := false, tag := "", pkgPath := "skald/msg", byteOffset := 16 }, { name := "write", type := 185, offset := 3, embedded := false, tag := "", pkgPath := "skald/msg", byteOffset := 24 }, { name := "text", type := 186, offset := 4, embedded := false, tag := "", pkgPath := "skald/msg", byteOffset := 32 }, { name := "read", type := 187, offset := 5, embedded := false, tag := "", pkgPath := "skald/msg", byteOffset := 40 }], 6, 48, .agg #[.int .i64 0, .nilFunc, .nilFunc, .nilFunc, .nilFunc, .nilFunc]⟩
theorem tk189 : TIok Tryz.prog 189 ti189 := ⟨Tryz.underlying189, by kernel_rfl⟩
def ti191 : TI := ⟨.func #[87] #[4] false, 1, 8, .nilFunc⟩
theorem tk191 : TIok Tryz.prog 191 ti191 := ⟨Tryz.underlying191, by kernel_rfl⟩
def ti194 : TI := ⟨.pointer 238, 1, 8, .pointer none⟩
theorem tk194 : TIok Tryz.prog 194 ti194 := ⟨Tryz.underlying194, by kernel_rfl⟩
def ti201 : TI := ⟨.pointer 251, 1, 8, .pointer none⟩
theorem tk201 : TIok Tryz.prog 201 ti201 := ⟨Tryz.underlying201, by kernel_rfl⟩
def ti209 : TI := ⟨.struct #[{ name := "made", type := 4, offset := 0, embedded := false, tag := "", pkgPath := "skald/wire", byteOffset := 0 }, { name := "b", type := 97, offset := 1, embedded := false, tag := "", pkgPath := "skald/wire", byteOffset := 8 }], 2, 32, .agg #[.bool false, .slice none 0 0]⟩
theorem tk209 : TIok Tryz.prog 209 ti209 := ⟨Tryz.underlying209, by kernel_rfl⟩
def ti215 : TI := ⟨.struct #[{ name := "Made", type := 4, offset := 0, embedded := false, tag := "", pkgPath := "", byteOffset := 0 }, { name := "B", type := 97, offset := 1, embedded := false, tag := "", pkgPath := "", byteOffset := 8 }], 2, 32, .agg #[.bool false, .slice none 0 0]⟩
theorem tk215 : TIok Tryz.prog 215 ti215 := ⟨Tryz.underlying215, by kernel_rfl⟩
def ti225 : TI := ⟨.array 12 179, 60, 576, .agg #[.string ⟨#[]⟩, .int .i64 0, .int .i64 0, .int .i64 0, .int .i64 0, .string ⟨#[]⟩, .int .i64 0, .int .i64 0, .int .i64 0, .int .i64 0, .string ⟨#[]⟩, .int .i64 0, .int .i64 0, .int .i64 0, .int .i64 0, .string ⟨#[]⟩, .int .i64 0, .int .i64 0, .int .i64 0, .int .i64 0, .string ⟨#[]⟩, .int .i64 0, .int .i64 0, .int .i64 0, .int .i64 0, .string ⟨#[]⟩, .int .i64 0, .int .i64 0, .int .i64 0, .int .i64 0, .string ⟨#[]⟩, .int .i64 0, .int .i64 0, .int .i64 0, .int .i64 0, .string ⟨#[]⟩, .int .i64 0, .int .i64 0, .int .i64 0, .int .i64 0, .string ⟨#[]⟩, .int .i64 0, .int .i64 0, .int .i64 0, .int .i64 0, .string ⟨#[]⟩, .int .i64 0, .int .i64 0, .int .i64 0, .int .i64 0, .string ⟨#[]⟩, .int .i64 0, .int .i64 0, .int .i64 0, .int .i64 0, .string ⟨#[]⟩, .int .i64 0, .int .i64 0, .int .i64 0, .int .i64 0]⟩
theorem tk225 : TIok Tryz.prog 225 ti225 := ⟨Tryz.underlying225, by kernel_rfl⟩
def ti233 : TI := ⟨.func #[9] #[9] false, 1, 8, .nilFunc⟩
theorem tk233 : TIok Tryz.prog 233 ti233 := ⟨Tryz.underlying233, by kernel_rfl⟩
def ti235 : TI := ⟨.array 3 3, 3, 24, .agg #[.int .i64 0, .int .i64 0, .int .i64 0]⟩
theorem tk235 : TIok Tryz.prog 235 ti235 := ⟨Tryz.underlying235, by kernel_rfl⟩
def ti238 : TI := ⟨.struct #[{ name := "made", type := 4, offset := 0, embedded := false, tag := "", pkgPath := "skald/wire", byteOffset := 0 }, { name := "failed", type := 4, offset := 1, embedded := false, tag := "", pkgPath := "skald/wire", byteOffset := 1 }, { name := "left", type := 97, offset := 2, embedded := false, tag := "", pkgPath := "skald/wire", byteOffset := 8 }], 3, 32, .agg #[.bool false, .bool false, .slice none 0 0]⟩
theorem tk238 : TIok Tryz.prog 238 ti238 := ⟨Tryz.underlying238, by kernel_rfl⟩
def ti242 : TI := ⟨.func #[97] #[148, 3] false, 1, 8, .nilFunc⟩
theorem tk242 : TIok Tryz.prog 242 ti242 := ⟨Tryz.underlying242, by kernel_rfl⟩
def ti244 : TI := ⟨.func #[97] #[2, 3] false, 1, 8, .nilFunc⟩
theorem tk244 : TIok Tryz.prog 244 ti244 := ⟨Tryz.underlying244, by kernel_rfl⟩
def ti246 : TI := ⟨.func #[97] #[9, 3] false, 1, 8, .nilFunc⟩
theorem tk246 : TIok Tryz.prog 246 ti246 := ⟨Tryz.underlying246, by kernel_rfl⟩
def ti251 : TI := ⟨.struct #[{ name := "Made", type := 4, offset := 0, embedded := false, tag := "", pkgPath := "", byteOffset := 0 }, { name := "B", type := 97, offset := 1, embedded := false, tag := "", pkgPath := "", byteOffset := 8 }, { name := "Failed", type := 4, offset := 2, embedded := false, tag := "", pkgPath := "", byteOffset := 32 }], 3, 40, .agg #[.bool false, .slice none 0 0, .bool false]⟩
theorem tk251 : TIok Tryz.prog 251 ti251 := ⟨Tryz.underlying251, by kernel_rfl⟩
def ti260 : TI := ⟨.func #[175] #[259] false, 1, 8, .nilFunc⟩
theorem tk260 : TIok Tryz.prog 260 ti260 := ⟨Tryz.underlying260, by kernel_rfl⟩
def ti261 : TI := ⟨.func #[9] #[4] false, 1, 8, .nilFunc⟩
theorem tk261 : TIok Tryz.prog 261 ti261 := ⟨Tryz.underlying261, by kernel_rfl⟩
def ti264 : TI := ⟨.pointer 3, 1, 8, .pointer none⟩
theorem tk264 : TIok Tryz.prog 264 ti264 := ⟨Tryz.underlying264, by kernel_rfl⟩
def ti265 : TI := ⟨.func #[175] #[264] false, 1, 8, .nilFunc⟩
theorem tk265 : TIok Tryz.prog 265 ti265 := ⟨Tryz.underlying265, by kernel_rfl⟩
def ti272 : TI := ⟨.int .i64, 1, 8, .int .i64 0⟩
theorem tk272 : TIok Tryz.prog 272 ti272 := ⟨Tryz.underlying272, by kernel_rfl⟩
def ti285 : TI := ⟨.slice 9, 1, 24, .slice none 0 0⟩
theorem tk285 : TIok Tryz.prog 285 ti285 := ⟨Tryz.underlying285, by kernel_rfl⟩
def ti292 : TI := ⟨.func #[21] #[4] false, 1, 8, .nilFunc⟩
theorem tk292 : TIok Tryz.prog 292 ti292 := ⟨Tryz.underlying292, by kernel_rfl⟩
def ti295 : TI := ⟨.func #[144] #[4] false, 1, 8, .nilFunc⟩
theorem tk295 : TIok Tryz.prog 295 ti295 := ⟨Tryz.underlying295, by kernel_rfl⟩
def ti297 : TI := ⟨.int .u64, 1, 8, .int .u64 0⟩
theorem tk297 : TIok Tryz.prog 297 ti297 := ⟨Tryz.underlying297, by kernel_rfl⟩
def ti305 : TI := ⟨.array 256 4, 256, 256, .agg #[.bool false, .bool false, .bool false, .bool false, .bool false, .bool false, .bool false, .bool false, .bool false, .bool false, .bool false, .bool false, .bool false, .bool false, .bool false, .bool false, .bool false, .bool false, .bool false, .bool false, .bool false, .bool false, .bool false, .bool false, .bool false, .bool false, .bool false, .bool false, .bool false, .bool false, .bool false, .bool false, .bool false, .bool false, .bool false, .bool false, .bool false, .bool false, .bool false, .bool false, .bool false, .bool false, .bool false, .bool false, .bool false, .bool false, .bool false, .bool false, .bool false, .bool false, .bool false, .bool false, .bool false, .bool false, .bool false, .bool false, .bool false, .bool false, .bool false, .bool false, .bool false, .bool false, .bool false, .bool false, .bool false, .bool false, .bool false, .bool false, .bool false, .bool false, .bool false, .bool false, .bool false, .bool false, .bool false, .bool false, .bool false, .bool false, .bool false, .bool false, .bool false, .bool false, .bool false, .bool false, .bool false, .bool false, .bool false, .bool false, .bool false, .bool false, .bool false, .bool false, .bool false, .bool false, .bool false, .bool false, .bool false, .bool false, .bool false, .bool false, .bool false, .bool false, .bool false, .bool false, .bool false, .bool false, .bool false, .bool false, .bool false, .bool false, .bool false, .bool false, .bool false, .bool false, .bool false, .bool false, .bool false, .bool false, .bool false, .bool false, .bool false, .bool false, .bool false, .bool false, .bool false, .bool false, .bool false, .bool false, .bool false, .bool false, .bool false, .bool false, .bool false, .bool false, .bool false, .bool false, .bool false, .bool false, .bool false, .bool false, .bool false, .bool false, .bool false, .bool false, .bool false, .bool false, .bool false, .bool false, .bool false, .bool false, .bool false, .bool false, .bool false, .bool false, .bool false, .bool false, .bool false, .bool false, .bool false, .bool false, .bool false, .bool false, .bool false, .bool false, .bool false, .bool false, .bool false, .bool false, .bool false, .bool false, .bool false, .bool false, .bool false, .bool false, .bool false, .bool false, .bool false, .bool false, .bool false, .bool false, .bool false, .bool false, .bool false, .bool false, .bool false, .bool false, .bool false, .bool false, .bool false, .bool false, .bool false, .bool false, .bool false, .bool false, .bool false, .bool false, .bool false, .bool false, .bool false, .bool false, .bool false, .bool false, .bool false, .bool false, .bool false, .bool false, .bool false, .bool false, .bool false, .bool false, .bool false, .bool false, .bool false, .bool false, .bool false, .bool false, .bool false, .bool false, .bool false, .bool false, .bool false, .bool false, .bool false, .bool false, .bool false, .bool false, .bool false, .bool false, .bool false, .bool false, .bool false, .bool false, .bool false, .bool false, .bool false, .bool false, .bool false, .bool false, .bool false, .bool false, .bool false, .bool false, .bool false, .bool false, .bool false, .bool false, .bool false, .bool false, .bool false, .bool false, .bool false, .bool false, .bool false, .bool false, .bool false, .bool false]⟩
theorem tk305 : TIok Tryz.prog 305 ti305 := ⟨Tryz.underlying305, by kernel_rfl⟩
def ti309 : TI := ⟨.pointer 305, 1, 8, .pointer none⟩
theorem tk309 : TIok Tryz.prog 309 ti309 := ⟨Tryz.underlying309, by kernel_rfl⟩
def ti311 : TI := ⟨.array 24 5, 24, 24, .agg #[.int .u8 0, .int .u8 0, .int .u8 0, .int .u8 0, .int .u8 0, .int .u8 0, .int .u8 0, .int .u8 0, .int .u8 0, .int .u8 0, .int .u8 0, .int .u8 0, .int .u8 0, .int .u8 0, .int .u8 0, .int .u8 0, .int .u8 0, .int .u8 0, .int .u8 0, .int .u8 0, .int .u8 0, .int .u8 0, .int .u8 0, .int .u8 0]⟩
theorem tk311 : TIok Tryz.prog 311 ti311 := ⟨Tryz.underlying311, by kernel_rfl⟩
def ti326 : TI := ⟨.array 20 148, 20, 160, .agg #[.int .u64 0, .int .u64 0, .int .u64 0, .int .u64 0, .int .u64 0, .int .u64 0, .int .u64 0, .int .u64 0, .int .u64 0, .int .u64 0, .int .u64 0, .int .u64 0, .int .u64 0, .int .u64 0, .int .u64 0, .int .u64 0, .int .u64 0, .int .u64 0, .int .u64 0, .int .u64 0]⟩
theorem tk326 : TIok Tryz.prog 326 ti326 := ⟨Tryz.underlying326, by kernel_rfl⟩
def ti327 : TI := ⟨.array 65 5, 65, 65, .agg #[.int .u8 0, .int .u8 0, .int .u8 0, .int .u8 0, .int .u8 0, .int .u8 0, .int .u8 0, .int .u8 0, .int .u8 0, .int .u8 0, .int .u8 0, .int .u8 0, .int .u8 0, .int .u8 0, .int .u8 0, .int .u8 0, .int .u8 0, .int .u8 0, .int .u8 0, .int .u8 0, .int .u8 0, .int .u8 0, .int .u8 0, .int .u8 0, .int .u8 0, .int .u8 0, .int .u8 0, .int .u8 0, .int .u8 0, .int .u8 0, .int .u8 0, .int .u8 0, .int .u8 0, .int .u8 0, .int .u8 0, .int .u8 0, .int .u8 0, .int .u8 0, .int .u8 0, .int .u8 0, .int .u8 0, .int .u8 0, .int .u8 0, .int .u8 0, .int .u8 0, .int .u8 0, .int .u8 0, .int .u8 0, .int .u8 0, .int .u8 0, .int .u8 0, .int .u8 0, .int .u8 0, .int .u8 0, .int .u8 0, .int .u8 0, .int .u8 0, .int .u8 0, .int .u8 0, .int .u8 0, .int .u8 0, .int .u8 0, .int .u8 0, .int .u8 0, .int .u8 0]⟩
theorem tk327 : TIok Tryz.prog 327 ti327 := ⟨Tryz.underlying327, by kernel_rfl⟩
def ti328 : TI := ⟨.array 16 156, 16, 64, .agg #[.int .u32 0, .int .u32 0, .int .u32 0, .int .u32 0, .int .u32 0, .int .u32 0, .int .u32 0, .int .u32 0, .int .u32 0, .int .u32 0, .int .u32 0, .int .u32 0, .int .u32 0, .int .u32 0, .int .u32 0, .int .u32 0]⟩
theorem tk328 : TIok Tryz.prog 328 ti328 := ⟨Tryz.underlying328, by kernel_rfl⟩
def ti330 : TI := ⟨.array 256 5, 256, 256, .agg #[.int .u8 0, .int .u8 0, .int .u8 0, .int .u8 0, .int .u8 0, .int .u8 0, .int .u8 0, .int .u8 0, .int .u8 0, .int .u8 0, .int .u8 0, .int .u8 0, .int .u8 0, .int .u8 0, .int .u8 0, .int .u8 0, .int .u8 0, .int .u8 0, .int .u8 0, .int .u8 0, .int .u8 0, .int .u8 0, .int .u8 0, .int .u8 0, .int .u8 0, .int .u8 0, .int .u8 0, .int .u8 0, .int .u8 0, .int .u8 0, .int .u8 0, .int .u8 0, .int .u8 0, .int .u8 0, .int .u8 0, .int .u8 0, .int .u8 0, .int .u8 0, .int .u8 0, .int .u8 0, .int .u8 0, .int .u8 0, .int .u8 0, .int .u8 0, .int .u8 0, .int .u8 0, .int .u8 0, .int .u8 0, .int .u8 0, .int .u8 0, .int .u8 0, .int .u8 0, .int .u8 0, .int .u8 0, .int .u8 0, .int .u8 0, .int .u8 0, .int .u8 0, .int .u8 0, .int .u8 0, .int .u8 0, .int .u8 0, .int .u8 0, .int .u8 0, .int .u8 0, .int .u8 0, .int .u8 0, .int .u8 0, .int .u8 0, .int .u8 0, .int .u8 0, .int .u8 0, .int .u8 0, .int .u8 0, .int .u8 0, .int .u8 0, .int .u8 0, .int .u8 0, .int .u8 0, .int .u8 0, .int .u8 0, .int .u8 0, .int .u8 0, .int .u8 0, .int .u8 0, .int .u8 0, .int .u8 0, .int .u8 0, .int .u8 0, .int .u8 0, .int .u8 0, .int .u8 0, .int .u8 0, .int .u8 0, .int .u8 0, .int .u8 0, .int .u8 0, .int .u8 0, .int .u8 0, .int .u8 0, .int .u8 0, .int .u8 0, .int .u8 0, .int .u8 0, .int .u8 0, .int .u8 0, .int .u8 0, .int .u8 0, .int .u8 0, .int .u8 0, .int .u8 0, .int .u8 0, .int .u8 0, .int .u8 0, .int .u8 0, .int .u8 0, .int .u8 0, .int .u8 0, .int .u8 0, .int .u8 0, .int .u8 0, .int .u8 0, .int .u8 0, .int .u8 0, .int .u8 0, .int .u8 0, .int .u8 0, .int .u8 0, .int .u8 0, .int .u8 0, .int .u8 0, .int .u8 0, .int .u8 0, .int .u8 0, .int .u8 0, .int .u8 0, .int .u8 0, .int .u8 0, .int .u8 0, .int .u8 0, .int .u8 0, .int .u8 0, .int .u8 0, .int .u8 0, .int .u8 0, .int .u8 0, .int .u8 0, .int .u8 0, .int .u8 0, .int .u8 0, .int .u8 0, .int .u8 0, .int .u8 0, .int .u8 0, .int .u8 0, .int .u8 0, .int .u8 0, .int .u8 0, .int .u8 0, .int .u8 0, .int .u8 0, .int .u8 0, .int .u8 0, .int .u8 0, .int .u8 0, .int .u8 0, .int .u8 0, .int .u8 0, .int .u8 0, .int .u8 0, .int .u8 0, .int .u8 0, .int .u8 0, .int .u8 0, .int .u8 0, .int .u8 0, .int .u8 0, .int .u8 0, .int .u8 0, .int .u8 0, .int .u8 0, .int .u8 0, .int .u8 0, .int .u8 0, .int .u8 0, .int .u8 0, .int .u8 0, .int .u8 0, .int .u8 0, .int .u8 0, .int .u8 0, .int .u8 0, .int .u8 0, .int .u8 0, .int .u8 0, .int .u8 0, .int .u8 0, .int .u8 0, .int .u8 0, .int .u8 0, .int .u8 0, .int .u8 0, .int .u8 0, .int .u8 0, .int .u8 0, .int .u8 0, .int .u8 0, .int .u8 0, .int .u8 0, .int .u8 0, .int .u8 0, .int .u8 0, .int .u8 0, .int .u8 0, .int .u8 0, .int .u8 0, .int .u8 0, .int .u8 0, .int .u8 0, .int .u8 0, .int .u8 0, .int .u8 0, .int .u8 0, .int .u8 0, .int .u8 0, .int .u8 0, .int .u8 0, .int .u8 0, .int .u8 0, .int .u8 0, .int .u8 0, .int .u8 0, .int .u8 0, .int .u8 0, .int .u8 0, .int .u8 0, .int .u8 0, .int .u8 0, .int .u8 0, .int .u8 0, .int .u8 0, .int .u8 0, .int .u8 0, .int .u8 0, .int .u8 0, .int .u8 0, .int .u8 0, .int .u8 0, .int .u8 0, .int .u8 0, .int .u8 0, .int .u8 0, .int .u8 0, .int .u8 0, .int .u8 0, .int .u8 0]⟩
theorem tk330 : TIok Tryz.prog 330 ti330 := ⟨Tryz.underlying330, by kernel_rfl⟩
def ti332 : TI := ⟨.struct #[{ name := "lo", type := 5, offset := 0, embedded := false, tag := "", pkgPath := "unicode/utf8", byteOffset := 0 }, { name := "hi", type := 5, offset := 1, embedded := false, tag := "", pkgPath := "unicode/utf8", byteOffset := 1 }], 2, 2, .agg #[.int .u8 0, .int .u8 0]⟩
theorem tk332 : TIok Tryz.prog 332 ti332 := ⟨Tryz.underlying332, by kernel_rfl⟩
def ti333 : TI := ⟨.array 16 332, 32, 32, .agg #[.int .u8 0, .int .u8 0, .int .u8 0, .int .u8 0, .int .u8 0, .int .u8 0, .int .u8 0, .int .u8 0, .int .u8 0, .int .u8 0, .int .u8 0, .int .u8 0, .int .u8 0, .int .u8 0, .int .u8 0, .int .u8 0, .int .u8 0, .int .u8 0, .int .u8 0, .int .u8 0, .int .u8 0, .int .u8 0, .int .u8 0, .int .u8 0, .int .u8 0, .int .u8 0, .int .u8 0, .int .u8 0, .int .u8 0, .int .u8 0, .int .u8 0, .int .u8 0]⟩
theorem tk333 : TIok Tryz.prog 333 ti333 := ⟨Tryz.underlying333, by kernel_rfl⟩
def ti336 : TI := ⟨.array 32 5, 32, 32, .agg #[.int .u8 0, .int .u8 0, .int .u8 0, .int .u8 0, .int .u8 0, .int .u8 0, .int .u8 0, .int .u8 0, .int .u8 0, .int .u8 0, .int .u8 0, .int .u8 0, .int .u8 0, .int .u8 0, .int .u8 0, .int .u8 0, .int .u8 0, .int .u8 0, .int .u8 0, .int .u8 0, .int .u8 0, .int .u8 0, .int .u8 0, .int .u8 0, .int .u8 0, .int .u8 0, .int .u8 0, .int .u8 0, .int .u8 0, .int .u8 0, .int .u8 0, .int .u8 0]⟩
theorem tk336 : TIok Tryz.prog 336 ti336 := ⟨Tryz.underlying336, by kernel_rfl⟩
def ti337 : TI := ⟨.array 64 5, 64, 64, .agg #[.int .u8 0, .int .u8 0, .int .u8 0, .int .u8 0, .int .u8 0, .int .u8 0, .int .u8 0, .int .u8 0, .int .u8 0, .int .u8 0, .int .u8 0, .int .u8 0, .int .u8 0, .int .u8 0, .int .u8 0, .int .u8 0, .int .u8 0, .int .u8 0, .int .u8 0, .int .u8 0, .int .u8 0, .int .u8 0, .int .u8 0, .int .u8 0, .int .u8 0, .int .u8 0, .int .u8 0, .int .u8 0, .int .u8 0, .int .u8 0, .int .u8 0, .int .u8 0, .int .u8 0, .int .u8 0, .int .u8 0, .int .u8 0, .int .u8 0, .int .u8 0, .int .u8 0, .int .u8 0, .int .u8 0, .int .u8 0, .int .u8 0, .int .u8 0, .int .u8 0, .int .u8 0, .int .u8 0, .int .u8 0, .int .u8 0, .int .u8 0, .int .u8 0, .int .u8 0, .int .u8 0, .int .u8 0, .int .u8 0, .int .u8 0, .int .u8 0, .int .u8 0, .int .u8 0, .int .u8 0, .int .u8 0, .int .u8 0, .int .u8 0, .int .u8 0]⟩
theorem tk337 : TIok Tryz.prog 337 ti337 := ⟨Tryz.underlying337, by kernel_rfl⟩
def TB : TR := (.node (.node (.node (.node (.node (.node (.node .leaf 2 ti2 .leaf) 3 ti3 (.node .leaf 4 ti4 .leaf)) 5 ti5 (.node (.node .leaf 9 ti9 .leaf) 20 ti20 .leaf)) 21 ti21 (.node (.node (.node .leaf 23 ti23 .leaf) 24 ti24 .leaf) 26 ti26 (.node (.node .leaf 27 ti27 .leaf) 29 ti29 .leaf))) 30 ti30 (.node (.node (.node (.node .leaf 32 ti32 .leaf) 35 ti35 .leaf) 39 ti39 (.node (.node .leaf 40 ti40 .leaf) 41 ti41 .leaf)) 43 ti43 (.node (.node (.node .leaf 44 ti44 .leaf) 46 ti46 .leaf) 48 ti48 (.node (.node .leaf 50 ti50 .leaf) 59 ti59 .leaf)))) 60 ti60 (.node (.node (.node (.node (.node .leaf 64 ti64 .leaf) 66 ti66 (.node .leaf 68 ti68 .leaf)) 69 ti69 (.node (.node .leaf 71 ti71 .leaf) 79 ti79 .leaf)) 81 ti81 (.node (.node (.node .leaf 82 ti82 .leaf) 87 ti87 .leaf) 90 ti90 (.node (.node .leaf 92 ti92 .leaf) 97 ti97 .leaf))) 102 ti102 (.node (.node (.node (.node .leaf 106 ti106 .leaf) 108 ti108 .leaf) 116 ti116 (.node (.node .leaf 120 ti120 .leaf) 122 ti122 .leaf)) 130 ti130 (.node (.node (.node .leaf 135 ti135 .leaf) 144 ti144 .leaf) 145 ti145 (.node (.node .leaf 148 ti148 .leaf) 152 ti152 .leaf))))) 156 ti156 (.node (.node (.node (.node (.node (.node .leaf 161 ti161 .leaf) 165 ti165 (.node .leaf 168 ti168 .leaf)) 169 ti169 (.node (.node .leaf 170 ti170 .leaf) 171 ti171 .leaf)) 172 ti172 (.node (.node (.node .leaf 174 ti174 .leaf) 175 ti175 .leaf) 179 ti179 (.node (.node .leaf 182 ti182 .leaf) 184 ti184 .leaf))) 185 ti185 (.node (.node (.node (.node .leaf 186 ti186 .leaf) 187 ti187 .leaf) 189 ti189 (.node (.node .leaf 191 ti191 .leaf) 194 ti194 .leaf)) 201 ti201 (.node (.node (.node .leaf 209 ti209 .leaf) 215 ti215 .leaf) 225 ti225 (.node (.node .leaf 233 ti233 .leaf) 235 ti235 .leaf)))) 238 ti238 (.node (.node (.node (.node (.node .leaf 242 ti242 .leaf) 244 ti244 (.node .leaf 246 ti246 .leaf)) 251 ti251 (.node (.node .leaf 260 ti260 .leaf) 261 ti261 .leaf)) 264 ti264 (.node (.node (.node .leaf 265 ti265 .leaf) 272 ti272 .leaf) 285 ti285 (.node (.node .leaf 292 ti292 .leaf) 295 ti295 .leaf))) 297 ti297 (.node (.node (.node (.node .leaf 305 ti305 .leaf) 309 ti309 .leaf) 311 ti311 (.node (.node .leaf 326 ti326 .leaf) 327 ti327 .leaf)) 328 ti328 (.node (.node (.node .leaf 330 ti330 .leaf) 332 ti332 .leaf) 333 ti333 (.node (.node .leaf 336 ti336 .leaf) 337 ti337 .leaf))))))
theorem TBok : TOk Tryz.prog TB := (TOk.node (TOk.node (TOk.node (TOk.node (TOk.node (TOk.node (TOk.node TOk.leaf tk2 TOk.leaf) tk3 (TOk.node TOk.leaf tk4 TOk.leaf)) tk5 (TOk.node (TOk.node TOk.leaf tk9 TOk.leaf) tk20 TOk.leaf)) tk21 (TOk.node (TOk.node (TOk.node TOk.leaf tk23 TOk.leaf) tk24 TOk.leaf) tk26 (TOk.node (TOk.node TOk.leaf tk27 TOk.leaf) tk29 TOk.leaf))) tk30 (TOk.node (TOk.node (TOk.node (TOk.node TOk.leaf tk32 TOk.leaf) tk35 TOk.leaf) tk39 (TOk.node (TOk.node TOk.leaf tk40 TOk.leaf) tk41 TOk.leaf)) tk43 (TOk.node (TOk.node (TOk.node TOk.leaf tk44 TOk.leaf) tk46 TOk.leaf) tk48 (TOk.node (TOk.node TOk.leaf tk50 TOk.leaf) tk59 TOk.leaf)))) tk60 (TOk.node (TOk.node (TOk.node (TOk.node (TOk.node TOk.leaf tk64 TOk.leaf) tk66 (TOk.node TOk.leaf tk68 TOk.leaf)) tk69 (TOk.node (TOk.node TOk.leaf tk71 TOk.leaf) tk79 TOk.leaf)) tk81 (TOk.node (TOk.node (TOk.node TOk.leaf tk82 TOk.leaf) tk87 TOk.leaf) tk90 (TOk.node (TOk.node TOk.leaf tk92 TOk.leaf) tk97 TOk.leaf))) tk102 (TOk.node (TOk.node (TOk.node (TOk.node TOk.leaf tk106 TOk.leaf) tk108 TOk.leaf) tk116 (TOk.node (TOk.node TOk.leaf tk120 TOk.leaf) tk122 TOk.leaf)) tk130 (TOk.node (TOk.node (TOk.node TOk.leaf tk135 TOk.leaf) tk144 TOk.leaf) tk145 (TOk.node (TOk.node TOk.leaf tk148 TOk.leaf) tk152 TOk.leaf))))) tk156 (TOk.node (TOk.node (TOk.node (TOk.node (TOk.node (TOk.node TOk.leaf tk161 TOk.leaf) tk165 (TOk.node TOk.leaf tk168 TOk.leaf)) tk169 (TOk.node (TOk.node TOk.leaf tk170 TOk.leaf) tk171 TOk.leaf)) tk172 (TOk.node (TOk.node (TOk.node TOk.leaf tk174 TOk.leaf) tk175 TOk.leaf) tk179 (TOk.node (TOk.node TOk.leaf tk182 TOk.leaf) tk184 TOk.leaf))) tk185 (TOk.node (TOk.node (TOk.node (TOk.node TOk.leaf tk186 TOk.leaf) tk187 TOk.leaf) tk189 (TOk.node (TOk.node TOk.leaf tk191 TOk.leaf) tk194 TOk.leaf)) tk201 (TOk.node (TOk.node (TOk.node TOk.leaf tk209 TOk.leaf) tk215 TOk.leaf) tk225 (TOk.node (TOk.node TOk.leaf tk233 TOk.leaf) tk235 TOk.leaf)))) tk238 (TOk.node (TOk.node (TOk.node (TOk.node (TOk.node TOk.leaf tk242 TOk.leaf) tk244 (TOk.node TOk.leaf tk246 TOk.leaf)) tk251 (TOk.node (TOk.node TOk.leaf tk260 TOk.leaf) tk261 TOk.leaf)) tk264 (TOk.node (TOk.node (TOk.node TOk.leaf tk265 TOk.leaf) tk272 TOk.leaf) tk285 (TOk.node (TOk.node TOk.leaf tk292 TOk.leaf) tk295 TOk.leaf))) tk297 (TOk.node (TOk.node (TOk.node (TOk.node TOk.leaf tk305 TOk.leaf) tk309 TOk.leaf) tk311 (TOk.node (TOk.node TOk.leaf tk326 TOk.leaf) tk327 TOk.leaf)) tk328 (TOk.node (TOk.node (TOk.node TOk.leaf tk330 TOk.leaf) tk332 TOk.leaf) tk333 (TOk.node (TOk.node TOk.leaf tk336 TOk.leaf) tk337 TOk.leaf))))))
end Go.Proofs.YtbgnoibellfojaaGreatDoor

namespace Go.X
open Go
def sokB (P : Program) (L : List Nat) : Bool := L.all fun t => !P.stoodInHeld t && !P.eqGuardType P.depth t && (P.fieldsOf t).toList.all fun f => f.name != "_"
theorem sokB_spec {P : Program} {L : List Nat} (h : sokB P L = true) : SOk P L := by
  intro t ht
  have := List.all_eq_true.1 h t ht
  simp only [Bool.and_eq_true, Bool.not_eq_true', List.all_eq_true, bne_iff_ne, ne_eq] at this
  exact ⟨this.1.1, this.1.2, this.2⟩
end Go.X
namespace Go.Proofs.YtbgnoibellfojaaGreatDoor
open Go Go.X
theorem mixed : Tryz.prog.follows .mixedOrders = true := by kernel_rfl
theorem sok : SOk Tryz.prog [23, 39, 43, 48] := sokB_spec (by kernel_rfl)
/-- a call of f is walked in its place -/
def InSt (f : Nat) (F : Func) (k : Nat) : Prop := ∀ {n : Nat} {x : Code} {rs : List ResultVar} {W : World} {S : Nat → Prop} {r : Option Nat} {args : List SV} {H : List Blk} {nx : K1},
  Nat.ble (lenL args) k = true → F.body = some x → F.results.toList = rs → (∀ A : Ass, snocF H (.ext 0 A) (fun H' => envF 0 args (fun E => Run ⟨Tryz.prog, TB, k, W, S, none, TBok⟩ x E H' (inK ⟨Tryz.prog, TB, k, W, S, none, TBok⟩ A rs nx)))) → CallK ⟨Tryz.prog, TB, n, W, S, r, TBok⟩ f args H nx
theorem InSt.mk' {f : Nat} {F : Func} {k : Nat} (hf : Tryz.prog.funcs[f]? = some F) (hnm : (F.name == "runtime.NumGoroutine") = false) (hn : F.ntmps = k) : InSt f F k :=
  fun hlen hb hrs h => CallK.inline hf hb hnm hn hlen hrs h
end Go.Proofs.YtbgnoibellfojaaGreatDoor

namespace Go.Proofs.YtbgnoibellfojaaGreatDoor
open Go Go.X
set_option maxRecDepth 100000
set_option maxHeartbeats 0
theorem shl_u64 {x i : Nat} (hi : 7 * i ≤ 64) (h : x * 2 ^ (7 * i) < 2 ^ 64) : IntKind.u64.wrap ((x : Int) * 2 ^ min ((7 * (i : Int)).toNat) IntKind.u64.bits) = ((x * 2 ^ (7 * i) : Nat) : Int) := by
  have e : min ((7 * (i : Int)).toNat) IntKind.u64.bits = 7 * i := by simp only [IntKind.bits]; omega
  rw [e]
  have e2 : (x : Int) * 2 ^ (7 * i) = ((x * 2 ^ (7 * i) : Nat) : Int) := by push_cast; rfl
  rw [e2]
  exact IntWalk.u64_in _ (by omega)
theorem byte_room {c i : Nat} (hc : c < 256) (hi : i ≤ 9) (h9 : i = 9 → c ≤ 1) : c % 128 * 2 ^ (7 * i) < 2 ^ 64 := by
  have : i = 0 ∨ i = 1 ∨ i = 2 ∨ i = 3 ∨ i = 4 ∨ i = 5 ∨ i = 6 ∨ i = 7 ∨ i = 8 ∨ i = 9 := by omega
  rcases this with rfl | rfl | rfl | rfl | rfl | rfl | rfl | rfl | rfl | rfl <;> simp <;> omega
theorem numG_step {l : List UInt8} {i s : Nat} (hi : i < l.length) : numG i s (l.drop i) =
    if (i = 9 ∧ 1 < (l.getD i 0).toNat) ∨ (0 < i ∧ (l.getD i 0).toNat = 0) then (0, 0) else if (l.getD i 0).toNat < 128 then (s + (l.getD i 0).toNat % 128 * 2 ^ (7 * i), i + 1) else numG (i + 1) (s + (l.getD i 0).toNat % 128 * 2 ^ (7 * i)) (l.drop (i + 1)) := by
  rw [List.drop_eq_getElem_cons hi, numG]
  simp [List.getD, List.getElem?_eq_getElem hi]
theorem acc_room {s x i : Nat} (hs : s < 2 ^ (7 * i)) (hx : x < 128) : s + x * 2 ^ (7 * i) < 2 ^ (7 * (i + 1)) := by
  have e : 2 ^ (7 * (i + 1)) = 128 * 2 ^ (7 * i) := by rw [show 7 * (i + 1) = 7 + 7 * i by omega, Nat.pow_add]
  have : x * 2 ^ (7 * i) ≤ 127 * 2 ^ (7 * i) := Nat.mul_le_mul_right _ (by omega)
  omega
theorem pow_room {s i : Nat} (hs : s < 2 ^ (7 * i)) (hi : i ≤ 9) : s < 2 ^ 64 := Nat.lt_of_lt_of_le hs (Nat.pow_le_pow_right (by omega) (by omega))
theorem number196 {a : Option Addr} {n cap : Nat} {l : List UInt8} {w : World} (h : RdS w 5 1 a n cap (bcells l)) (hl : n ≤ 1152921504606846976) :
    Pu Tryz.prog 196 #[.slice a n cap] w (.tuple #[.int .u64 (numR l).1, .int .i64 (numR l).2]) := by
  have hs := fun n' r H => Sees.old (c := ⟨Tryz.prog, TB, n', w, noS, r, TBok⟩) (H := H) h.old
  have hlen : l.length = n := by
    obtain ⟨T, h1, _⟩ := h
    have := SlA.len h1
    rw [bcells_length, Nat.mul_one] at this
    exact this
  have hc : ∀ i, i < n → ((bcells l).drop ((i : Int).toNat * 1)).take 1 = denL [.v (bcell (l.getD i 0))] := by
    intro i hi
    have hi' : i < (bcells l).length := by rw [bcells_length]; omega
    rw [Int.toNat_natCast, Nat.mul_one, List.drop_eq_getElem_cons hi']
    simp [bcells, denL, den, List.getD, List.getElem?_eq_getElem (show i < l.length by omega)]
  refine enter_sound TBok Tryz.func196 rfl rfl Tryz.ntmps196 [.v (.slice a n cap)] (Kn.start w noS) rfl rfl ?_
  conv => whnf
  repeat' (first
 | with_reducible ((first | refine r_seq (fun KS hS => ?_) | (refine hS _ _ ?_; clear hS KS) | refine r_block ?_))
 | ((with_reducible refine r_region ?_); conv => whnf))
  refine r_loop (α := Nat × Nat) (fun x => [(7, .v (.slice a n cap)), (8, .v (.int .i64 n)), (9, .v (.int .i64 x.1)), (4, .v (.int .u64 x.2))]) (fun _ => [])
    (fun x => x.1 ≤ n ∧ x.1 ≤ 9 ∧ x.2 < 2 ^ (7 * x.1) ∧ numR l = numG x.1 x.2 (l.drop x.1)) (fun x => n - x.1) (0, 0) ⟨by simp, by simp, by simp, rfl⟩ ?_ (HSub.refl _) ?_
  · repeat' (first | exact Sub.nil | (refine Sub.cons rfl rfl ?_))
  rintro ⟨i, s⟩ ⟨h1, h2, h3, h4⟩ KL hL
  dsimp only at h1 h2 h3 h4 hL ⊢
  have hb := (l.getD i 0).toNat_lt
  have hb2 : (l.getD i 0).toNat % 128 < 128 := Nat.mod_lt _ (by omega)
  have hp0 := pow_room h3 h2
  by_cases hi : i < n
  · have hst := numG_step (s := s) (show i < l.length by omega)
    rw [← h4] at hst
    have hrm := acc_room h3 hb2
    conv => whnf
    repeat' (first
 | with_reducible ((first | refine r_seq (fun KS hS => ?_) | (refine hS _ _ ?_; clear hS KS) | (refine hA _ ?_; clear hA KA) | (refine hB _ ?_; clear hB KB) | refine r_block ?_))
 | ((with_reducible (first | refine r_region ?_ | refine r_cond (fun KA hA KB hB => ?_) | refine r_ret ?_ | refine r_skip ?_)); conv => whnf)
 | ((with_reducible refine WrapK.i64 ?_ ?_); (focus omega); conv => whnf)
 | ((with_reducible refine OpK.id ?_); (first | refine OpK.idx rfl rfl rfl rfl rfl rfl rfl (hs _ _ _) (by omega) (by omega) (hc i (by omega)) (fun b off hp => ?_) | refine OpK.ldp rfl rfl hp (List.cons_ne_nil _ _) ?_); conv => whnf)
 | (refine BitK.eq (bits_andNot _) ?_; conv => whnf)
 | ((with_reducible refine WrapK.id ?_); refine WrapK.eq (IntWalk.u64_in _ (by omega)) ?_; conv => whnf)
 | ((have hroom := byte_room hb h2 (by omega)); refine OpK.shl rfl rfl rfl (by omega) (shl_u64 (by omega) hroom) ?_; conv => whnf)
 | (refine BitK.eq (bits_or64 _ _ _ h3 hroom hp0) ?_; conv => whnf)
 | (rw [if_neg (by omega), if_neg (by omega)] at hst; refine hL (i + 1, _) _ _ ⟨by dsimp only; omega, by dsimp only; omega, hrm, hst⟩ (by dsimp only; omega) ?_ (HSub.refl _); repeat' (first | exact Sub.nil | (refine Sub.cons rfl rfl ?_)))
 | (refine if_decT (by omega) ?_; conv => whnf)
 | (refine if_dec (fun h => ?_) (fun h => ?_); all_goals (conv => whnf))
 | with_reducible apply_assumption -symm -exfalso)
    all_goals (refine FinK.pu ?_; rw [hst]; simp only [den, denL]; first | (rw [if_pos (by omega)]; rfl) | (rw [if_neg (by omega), if_pos (by omega)]; simp [List.map]))
  · have hlast : l.drop i = [] := List.drop_of_length_le (by omega)
    rw [hlast] at h4
    conv => whnf
    repeat' (first
 | with_reducible ((first | refine r_seq (fun KS hS => ?_) | (refine hS _ _ ?_; clear hS KS) | (refine hB _ ?_; clear hB KB)))
 | ((with_reducible (first | refine r_region ?_ | refine r_cond (fun KA hA KB hB => ?_) | refine r_ret ?_ | refine r_exit ?_)); conv => whnf)
 | (refine if_decF (by omega) ?_; conv => whnf)
 | with_reducible apply_assumption -symm -exfalso)
    refine FinK.pu ?_
    rw [h4]
    rfl
end Go.Proofs.YtbgnoibellfojaaGreatDoor

namespace Go.Proofs.YtbgnoibellfojaaGreatDoor
open Go Go.X
set_option maxRecDepth 100000
theorem in132 : InSt 132 Tryz.f132 4 := InSt.mk' Tryz.func132 rfl Tryz.ntmps132
theorem in279 : InSt 279 Tryz.f279 48 := InSt.mk' Tryz.func279 rfl Tryz.ntmps279
theorem in193 : InSt 193 Tryz.f193 10 := InSt.mk' Tryz.func193 rfl Tryz.ntmps193
theorem in194 : InSt 194 Tryz.f194 48 := InSt.mk' Tryz.func194 rfl Tryz.ntmps194
theorem in198 : InSt 198 Tryz.f198 48 := InSt.mk' Tryz.func198 rfl Tryz.ntmps198
theorem in84 : InSt 84 Tryz.f84 8 := InSt.mk' Tryz.func84 rfl Tryz.ntmps84
theorem in134 : InSt 134 Tryz.f134 10 := InSt.mk' Tryz.func134 rfl Tryz.ntmps134
theorem in135 : InSt 135 Tryz.f135 10 := InSt.mk' Tryz.func135 rfl Tryz.ntmps135
theorem in113 : InSt 113 Tryz.f113 7 := InSt.mk' Tryz.func113 rfl Tryz.ntmps113
theorem in82 : InSt 82 Tryz.f82 3 := InSt.mk' Tryz.func82 rfl Tryz.ntmps82
theorem in195 : InSt 195 Tryz.f195 14 := InSt.mk' Tryz.func195 rfl Tryz.ntmps195
theorem in199 : InSt 199 Tryz.f199 37 := InSt.mk' Tryz.func199 rfl Tryz.ntmps199
theorem in331 : InSt 331 Tryz.f331 10 := InSt.mk' Tryz.func331 rfl Tryz.ntmps331
theorem in294 : InSt 294 Tryz.f294 9 := InSt.mk' Tryz.func294 rfl Tryz.ntmps294
theorem in322 : InSt 322 Tryz.f322 8 := InSt.mk' Tryz.func322 rfl Tryz.ntmps322
theorem in295 : InSt 295 Tryz.f295 5 := InSt.mk' Tryz.func295 rfl Tryz.ntmps295
end Go.Proofs.YtbgnoibellfojaaGreatDoor

namespace Go.Proofs.YtbgnoibellfojaaGreatDoor
open Go Go.X
set_option maxRecDepth 100000
set_option maxHeartbeats 0
theorem uvar_lt {n : Nat} (h : n < 128) : uvar n = [UInt8.ofNat n] := by rw [uvar, dif_pos h]
theorem uvar_ge {n : Nat} (h : ¬ n < 128) : uvar n = UInt8.ofNat (n % 128 + 128) :: uvar (n / 128) := by rw [uvar, dif_neg h]
theorem uvar_len (n : Nat) : ∀ k, n < 128 ^ (k + 1) → (uvar n).length ≤ k + 1 := by
  induction n using Nat.strongRecOn with
  | _ n ih =>
    intro k hk
    by_cases h : n < 128
    · rw [uvar_lt h]; simp
    · rw [uvar_ge h]
      cases k with
      | zero => simp at hk; omega
      | succ k =>
        have : n / 128 < 128 ^ (k + 1) := by rw [Nat.div_lt_iff_lt_mul (by omega), ← Nat.pow_succ]; exact hk
        have := ih (n / 128) (by omega) k this
        simp; omega
theorem uvar_len64 {n : Nat} (h : n < 2 ^ 64) : (uvar n).length ≤ 10 := uvar_len n 9 (Nat.lt_of_lt_of_le h (by decide))
theorem shr7 (m : Nat) : (m : Int).fdiv (2 ^ min (Int.toNat 7) IntKind.u64.bits) = ((m / 128 : Nat) : Int) := by
  have e : (2 : Int) ^ min (Int.toNat 7) IntKind.u64.bits = 128 := by decide
  rw [e, Int.fdiv_eq_ediv_of_nonneg _ (by omega)]
  omega
theorem u8_wrap (m : Nat) : IntKind.u8.wrap (m : Int) = ((m % 256 : Nat) : Int) := by rw [IntKind.wrap_u8]; omega
def byteX (c : UInt8) : List SV := [.v (bcell c)]
def ulast (n : Nat) : Nat := if n < 128 then n else ulast (n / 128)
termination_by n
decreasing_by omega
theorem ulast_lt {n : Nat} (h : n < 128) : ulast n = n := by rw [ulast, if_pos h]
theorem ulast_ge {n : Nat} (h : ¬ n < 128) : ulast n = ulast (n / 128) := by rw [ulast, if_neg h]
theorem Upd.a2 {x y z : Blk} {H : List Blk} : Upd (z :: x :: H) x y (z :: y :: H) := .tail .head
theorem digits209 {b : Nat} {n : Nat} (hn : n < 2 ^ 64) : ItS Tryz.prog 209 (denL [.loc b 1 0]) [.blk 1 b [.v (.int .u64 n)] 148] [.blk 1 b [.v (.int .u64 (ulast n))] 148] (((uvar n).map byteX).map denL) := by
  intro J yv hyv w
  refine enter_fr TBok (H := .ext 0 (J 0) :: [.blk 1 b [.v (.int .u64 n)] 148]) all_foot Tryz.func209 rfl rfl Tryz.ntmps209 [.v yv, .loc b 1 0] rfl rfl ?_
  intro S
  conv => whnf
  repeat' (first
 | with_reducible (first | refine r_seq (fun KS hS => ?_) | refine r_block ?_))
  refine r_loop (α := Nat × Nat) (fun _ => [(0, .v yv), (1, .loc b 1 0)]) (fun x => [.ext 0 (J x.1), .blk 1 b [.v (.int .u64 x.2)] 148])
    (fun x => (uvar n).drop x.1 = uvar x.2 ∧ x.2 < 2 ^ 64 ∧ ulast x.2 = ulast n) (fun x => x.2) (0, n) ⟨rfl, hn, rfl⟩ ?_ (HSub.refl _) ?_
  · repeat' (first | exact Sub.nil | (refine Sub.cons rfl rfl ?_))
  rintro ⟨k, m⟩ ⟨h1, h2, h3⟩ KL hL
  dsimp only at h1 h2 h3 hL ⊢
  by_cases hm : m < 128
  · rw [uvar_lt hm] at h1
    have hk : (uvar n)[k]? = some (UInt8.ofNat m) := by
      have := congrArg (fun l => l[0]?) h1
      simpa using this
    have hlen : (uvar n).length = k + 1 := by
      have := congrArg List.length h1
      simp at this
      omega
    have hy := hyv k [bcell (UInt8.ofNat m)] (by simp [hk, byteX, denL, den])
    have hv : IntKind.u8.wrap (m : Int) = ((UInt8.ofNat m).toNat : Int) := by rw [u8_wrap]; simp
    conv => whnf
    repeat' (first
 | with_reducible ((first | refine r_seq (fun KS hS => ?_) | (refine hS _ _ ?_; clear hS KS) | (refine hB _ ?_; clear hB KB)))
 | ((with_reducible (first | refine r_region ?_ | refine r_cond (fun KA hA KB hB => ?_) | refine r_exit ?_ | refine And.intro rfl ?_)); conv => whnf)
 | ((with_reducible refine WrapK.id ?_); refine WrapK.eq hv ?_; conv => whnf)
 | ((with_reducible refine CallV.id ?_); refine CallV.fr Upd.head (v := .bool true) (y := .ext 0 (J (k + 1))) (fun w S h1 h2 => hy w S h1 h2) ?_; conv => whnf)
 | (refine if_decF (by omega) ?_; conv => whnf)
 | with_reducible apply_assumption -symm -exfalso)
    rw [← h3, ulast_lt hm, List.length_map, List.length_map, hlen]
    exact FinK.frL rfl (HSub.refl _)
  · rw [uvar_ge hm] at h1
    have hk : (uvar n)[k]? = some (UInt8.ofNat (m % 128 + 128)) := by
      have := congrArg (fun l => l[0]?) h1
      simpa using this
    have hd : (uvar n).drop (k + 1) = uvar (m / 128) := by
      have := congrArg (fun l => l.drop 1) h1
      simpa [List.drop_drop, Nat.add_comm] using this
    have hy := hyv k [bcell (UInt8.ofNat (m % 128 + 128))] (by simp [hk, byteX, denL, den])
    rw [ulast_ge hm] at h3
    have hv : IntKind.u8.wrap (bitN .or .u8 ((m % 256 : Nat) : Int) 128) = ((UInt8.ofNat (m % 128 + 128)).toNat : Int) := by
      rw [bits_or128 _ (Nat.mod_lt _ (by omega))]
      simp
      omega
    conv => whnf
    repeat' (first
 | with_reducible ((first | refine r_seq (fun KS hS => ?_) | (refine hS _ _ ?_; clear hS KS) | (refine hA _ ?_; clear hA KA) | (refine hB _ ?_; clear hB KB) | refine r_block ?_))
 | ((with_reducible (first | refine r_region ?_ | refine r_cond (fun KA hA KB hB => ?_) | refine r_skip ?_ | refine And.intro rfl ?_)); conv => whnf)
 | ((with_reducible refine WrapK.id ?_); refine WrapK.eq (u8_wrap m) ?_; conv => whnf)
 | (refine BitK.eq hv ?_; conv => whnf)
 | ((with_reducible refine CallV.id ?_); refine CallV.fr Upd.head (v := .bool true) (y := .ext 0 (J (k + 1))) (fun w S h1 h2 => hy w S h1 h2) ?_; conv => whnf)
 | ((with_reducible refine OpK.id ?_); refine OpK.shr rfl rfl rfl (by omega) (shr7 m) ?_; conv => whnf)
 | (refine hL (k + 1, m / 128) _ _ ⟨hd, by dsimp only; omega, h3⟩ (by dsimp only; omega) ?_ (HSub.refl _); repeat' (first | exact Sub.nil | (refine Sub.cons rfl rfl ?_)))
 | (refine if_decT (by omega) ?_; conv => whnf)
 | with_reducible apply_assumption -symm -exfalso)
/-- a writer, and what it holds -/
def WrA (p : Nat) (l : List UInt8) : Ass :=
  ⟨fun w S => ∃ a cap, Holds w [.blk 10 p [.v (.bool true), .v (.slice a l.length cap)] 209, .ext 11 (SlA 5 1 a l.length cap (bcells l))] S, fun _ _ _ h ⟨a, cap, hx⟩ => ⟨a, cap, hx.loc h⟩⟩
def pv (p : Nat) : Value := .pointer (some ⟨p, 0, none⟩)
theorem WrA.open {w : World} {S : Nat → Prop} {X Y : List Blk} {p j : Nat} {l : List UInt8} (h : Holds w (X ++ .ext j (WrA p l) :: Y) S) :
    ∃ (z : Option Addr × Nat) (S' : Nat → Prop), Holds w (X ++ .blk 10 p [.v (.bool true), .v (.slice z.1 l.length z.2)] 209 :: .ext 11 (SlA 5 1 z.1 l.length z.2 (bcells l)) :: Y) S' ∧ ∀ k, S' k → S k := by
  obtain ⟨TX, TY, h1, h2, h3, h4⟩ := h.split _ _
  cases h2 with
  | @cons _ _ Sx T hx hb hY hd =>
    obtain ⟨a, cap, hz⟩ := hx
    obtain ⟨T', q1, q2⟩ := Holds.glue _ _ hz hY hd
    obtain ⟨T'', q3, q4⟩ := Holds.glue _ _ h1 q1 (fun k hk hk' => h3 k hk ((q2 k).1 hk'))
    exact ⟨(a, cap), T'', q3, fun k hk => (h4 k).2 (((q4 k).1 hk).imp id (q2 k).1)⟩
theorem WrA.close {p j : Nat} {l : List UInt8} {a n cap} {cs : List Value} {i1 i2 : Nat} (hn : n = l.length) (hc : cs = bcells l) : HSub [.ext j (WrA p l)] [.blk i1 p [.v (.bool true), .v (.slice a n cap)] 209, .ext i2 (SlA 5 1 a n cap cs)] :=
  HSub.close fun w S h => by
    subst hn hc
    cases h with
    | @cons _ _ S1 T1 hx hb hH hd =>
      cases hH with
      | @cons _ _ S2 T2 hx2 hb2 hH2 hd2 =>
        cases hH2
        exact ⟨a, cap, .cons (x := .blk 10 p _ 209) hx hb (.cons (x := .ext 11 _) hx2 hb2 .nil hd2) hd⟩
theorem uint83 {p n : Nat} {l : List UInt8} (hn : n < 2 ^ 64) (hl : l.length ≤ 1099511627776) (w : World) : Fr Tryz.prog 83 #[pv p, .int .u64 n] w (WrA p l) (.tuple #[]) (WrA p (l ++ uvar n)) := by
  refine enter_fr TBok (A' := WrA p (l ++ uvar n)) (H := [.ext 12 (WrA p l)]) one_foot Tryz.func83 rfl rfl Tryz.ntmps83 [.loc p 10 0, .v (.int .u64 n)] rfl rfl ?_
  intro S
  refine Run.open (α := Option Addr × Nat) (A := []) (B := []) (fun z => [.blk 10 p [.v (.bool true), .v (.slice z.1 l.length z.2)] 209, .ext 11 (SlA 5 1 z.1 l.length z.2 (bcells l))]) (fun w S h => WrA.open (X := []) (Y := []) h) ?_
  rintro ⟨a, cap⟩
  dsimp only
  conv => whnf
  repeat' (first
 | with_reducible ((first | refine r_seq (fun KS hS => ?_) | (refine hS _ _ ?_; clear hS KS) | (refine hB _ ?_; clear hB KB) | refine r_block ?_))
 | ((with_reducible (first | refine r_region ?_ | refine r_cond (fun KA hA KB hB => ?_) | refine r_ret ?_ | refine r_skip ?_ | refine And.intro rfl ?_ | intro b)); conv => whnf)
 | (apply in132; rfl; rfl; rfl; intro A; conv => whnf)
 | ((with_reducible apply OpK.more); (focus refine sok); (conv => whnf); fail_if_success guard_target =ₛ False)
 | with_reducible apply_assumption -symm -exfalso)
  rename_i bt
  have h10 := uvar_len64 hn
  refine r_rangeFunc (fun i => [.blk 11 bt [.loc p 10 0] 145, .ext 12 (WrA p (l ++ (uvar n).take i))]) ((uvar n).map byteX) 14 rfl ?_
    (digits209 (b := b) hn) (by simp [byteX]) (by decide) ?_ ?_
  · rw [List.take_zero, List.append_nil]
    exact HSub.keep rfl (HSub.keep rfl (WrA.close rfl rfl))
  · intro i x hx lp rc W' S'
    obtain ⟨c, hc, rfl⟩ : ∃ c, (uvar n)[i]? = some c ∧ byteX c = x := by simpa using hx
    have hi : i < (uvar n).length := (List.getElem?_eq_some_iff.1 hc).1
    have hlen : (l ++ (uvar n).take i).length = l.length + i := by simp; omega
    have hnx : l ++ (uvar n).take (i + 1) = l ++ (uvar n).take i ++ [c] := by rw [List.take_add_one, hc]; simp
    have hlen1 : (l ++ (uvar n).take i).length + 1 = (l ++ (uvar n).take (i + 1)).length := by rw [hnx]; simp only [List.length_append, List.length_singleton]
    have hcs1 : bcells (l ++ (uvar n).take i) ++ [bcell c] = bcells (l ++ (uvar n).take (i + 1)) := by rw [hnx, bcells_append (l ++ (uvar n).take i)]; rfl
    conv => whnf
    repeat' (first
 | ((with_reducible refine r_region ?_); conv => whnf))
    refine ⟨_, rfl, ?_⟩
    refine r_block ?_
    refine Run.open (α := Option Addr × Nat) (A := []) (B := []) (fun z => [.ext 14 (lrA lp { rc with state := .busy }), .blk 11 bt [.loc p 10 0] 145, .blk 10 p [.v (.bool true), .v (.slice z.1 (l ++ (uvar n).take i).length z.2)] 209, .ext 11 (SlA 5 1 z.1 (l ++ (uvar n).take i).length z.2 (bcells (l ++ (uvar n).take i)))]) (fun w S h => WrA.open (X := [_, _]) (Y := []) h) ?_
    rintro ⟨a, cap⟩
    dsimp only
    apply r_any
    · refine mixed
    · kernel_rfl
    · kernel_rfl
    conv => whnf
    repeat' (first
 | ((with_reducible (first | refine And.intro rfl ?_ | intro b)); conv => whnf)
 | ((with_reducible refine OpK.id ?_); refine OpK.app (k := 1) rfl rfl rfl rfl rfl rfl rfl rfl (by repeat (first | with_reducible apply At.head | apply At.tail)) (SrcK.slc rfl rfl (by repeat (first | constructor | apply List.Mem.tail)) (Nat.le_refl _) rfl) (by rw [hlen]; show (_ + 1) * (1 + 1) ≤ 140737488355328; omega) (fun a' cap' => ?_); conv => whnf)
 | ((with_reducible ((first | refine InAt.mk (fun K' hK => ?_) | refine AnyAt.mk (fun K' hK => ?_) | (refine hK _ ?_; clear hK K') | (refine hK _ _ ?_; clear hK K')))); conv => whnf)
 | (refine And.intro ?_ ?_; all_goals (conv => whnf)))
    all_goals (refine ⟨HSub.drop (HSub.ext (fun _ _ h => h) (HSub.keep rfl (WrA.close hlen1 hcs1)))⟩)
  · conv => whnf
    rw [List.length_map, List.take_length]
    exact FinK.fr (y := .ext 0 (WrA p (l ++ uvar n))) rfl (HSub.drop (HSub.drop (HSub.ext (fun _ _ h => h) HSub.nil))) (fun _ _ h => h)
end Go.Proofs.YtbgnoibellfojaaGreatDoor

namespace Go.Proofs.YtbgnoibellfojaaGreatDoor
open Go Go.X
set_option maxRecDepth 100000
set_option maxHeartbeats 0
theorem bone (l : List UInt8) : ∀ u ∈ bcells l, u.oneCell' = true := by
  intro u hu
  obtain ⟨b, _, rfl⟩ := List.mem_map.1 hu
  rfl
theorem clone191 {a : Option Addr} {n cap : Nat} {l : List UInt8} {w : World} (h : RdS w 5 1 a n cap (bcells l)) (hl : n ≤ 1099511627776) :
    FrZ Tryz.prog 191 #[.slice a n cap] w emp (fun z : Option Addr × Nat => .slice z.1 n z.2) (fun z => SlA 5 1 z.1 n z.2 (bcells l)) := by
  refine enter_frZ TBok (H := []) emp_foot Tryz.func191 rfl rfl Tryz.ntmps191 [.v (.slice a n cap)] rfl rfl ?_
  intro S hS _
  have hs := fun n' r H => Sees.old (c := ⟨Tryz.prog, TB, n', w, S, r, TBok⟩) (H := H) (h.oldE hS)
  have hlen := h.len
  cases a with
  | none =>
    obtain ⟨rfl, rfl, hb⟩ : n = 0 ∧ cap = 0 ∧ bcells l = [] := by
      obtain ⟨T, h1, _⟩ := h
      rcases h1 with ⟨_, h2, h3, h4⟩ | ⟨b, _, _, _, _, h2, _⟩
      · exact ⟨h2, h3, h4⟩
      · cases h2
    conv => whnf
    repeat' (first
 | with_reducible ((first | refine r_seq (fun KS hS => ?_) | (refine hS _ _ ?_; clear hS KS) | (refine hA _ ?_; clear hA KA)))
 | ((with_reducible (first | refine r_region ?_ | refine r_cond (fun KA hA KB hB => ?_) | refine r_ret ?_)); conv => whnf)
 | ((with_reducible refine OpK.id ?_); refine OpK.slNil (b := true) rfl rfl rfl rfl rfl (.inl ⟨rfl, rfl⟩) ?_; conv => whnf))
    exact FinK.frZ (i := 0) (none, 0) rfl (HSub.trans (HSub.close (A := SlA 5 1 none 0 0 (bcells l)) fun w S _ => .inl ⟨rfl, rfl, rfl, hb⟩) (HSub.refl []))
  | some a =>
    conv => whnf
    repeat' (first
 | with_reducible ((first | refine r_seq (fun KS hS => ?_) | (refine hS _ _ ?_; clear hS KS) | (refine hB _ ?_; clear hB KB)))
 | ((with_reducible (first | refine r_region ?_ | refine r_cond (fun KA hA KB hB => ?_) | refine r_ret ?_ | refine r_skip ?_ | intro b)); conv => whnf)
 | ((with_reducible refine OpK.id ?_); (first | refine OpK.slNil (b := false) rfl rfl rfl rfl rfl (.inl ⟨rfl, rfl⟩) ?_ | (refine OpK.appS (k := 1) rfl rfl rfl rfl rfl rfl rfl rfl At.head rfl (SrcK.sees rfl rfl (hs _ _ _) (bone l)) (by show (0 + n) * (1 + 1) ≤ 140737488355328; omega) (fun a' cap' => ?_))); conv => whnf)
 | with_reducible apply_assumption -symm -exfalso)
    exact FinK.frZ (a', cap') (by rw [Nat.zero_add]; rfl) (by rw [Nat.zero_add]; exact HSub.refl _)
/-- a reader, and what is left -/
def RdH (p : Nat) : RSt → Option Addr × Nat → List Blk
  | none, _ => [.blk 10 p [.v (.bool true), .v (.bool true), .v (.slice none 0 0)] 238]
  | some l, z => [.blk 10 p [.v (.bool true), .v (.bool false), .v (.slice z.1 l.length z.2)] 238, .ext 11 (SlA 5 1 z.1 l.length z.2 (bcells l))]
def RdA (p : Nat) (st : RSt) : Ass :=
  ⟨fun w S => ∃ z, Holds w (RdH p st z) S, fun _ _ _ h ⟨z, hx⟩ => ⟨z, hx.loc h⟩⟩
theorem RdA.open {w : World} {S : Nat → Prop} {X Y : List Blk} {p j : Nat} {st : RSt} (h : Holds w (X ++ .ext j (RdA p st) :: Y) S) :
    ∃ (z : Option Addr × Nat) (S' : Nat → Prop), Holds w (X ++ (RdH p st z ++ Y)) S' ∧ ∀ k, S' k → S k := by
  obtain ⟨TX, TY, h1, h2, h3, h4⟩ := h.split _ _
  cases h2 with
  | @cons _ _ Sx T hx hb hY hd =>
    obtain ⟨z, hz⟩ := hx
    obtain ⟨T', q1, q2⟩ := Holds.glue _ _ hz hY hd
    obtain ⟨T'', q3, q4⟩ := Holds.glue _ _ h1 q1 (fun k hk hk' => h3 k hk ((q2 k).1 hk'))
    exact ⟨z, T'', q3, fun k hk => (h4 k).2 (((q4 k).1 hk).imp id (q2 k).1)⟩
theorem RdA.close {p j : Nat} {l : List UInt8} {a n cap} {cs : List Value} {i1 i2 : Nat} (hn : n = l.length) (hc : cs = bcells l) : HSub [.ext j (RdA p (some l))] [.blk i1 p [.v (.bool true), .v (.bool false), .v (.slice a n cap)] 238, .ext i2 (SlA 5 1 a n cap cs)] :=
  HSub.close fun w S h => by
    subst hn hc
    cases h with
    | @cons _ _ S1 T1 hx hb hH hd =>
      cases hH with
      | @cons _ _ S2 T2 hx2 hb2 hH2 hd2 =>
        cases hH2
        exact ⟨(a, cap), .cons (x := .blk 10 p _ 238) hx hb (.cons (x := .ext 11 _) hx2 hb2 .nil hd2) hd⟩
theorem RdA.closeN {p j : Nat} {i1 : Nat} : HSub [.ext j (RdA p none)] [.blk i1 p [.v (.bool true), .v (.bool true), .v (.slice none 0 0)] 238] :=
  HSub.close fun w S h => by
    cases h with
    | @cons _ _ S1 T1 hx hb hH hd =>
      cases hH
      exact ⟨(none, 0), .cons (x := .blk 10 p _ 238) hx hb .nil hd⟩
def RB (st : RSt) : Prop := ∀ l, st = some l → l.length ≤ 1099511627776
theorem uint192 {p : Nat} {st : RSt} (hb : RB st) (w : World) : Fr Tryz.prog 192 #[pv p] w (RdA p st) (.int .u64 (rdU st).1) (RdA p (rdU st).2) := by
  refine enter_fr TBok (A' := RdA p (rdU st).2) (H := [.ext 12 (RdA p st)]) one_foot Tryz.func192 rfl rfl Tryz.ntmps192 [.loc p 10 0] rfl rfl ?_
  intro S
  refine Run.open (α := Option Addr × Nat) (A := []) (B := []) (fun z => RdH p st z ++ []) (fun w S h => RdA.open (X := []) (Y := []) h) ?_
  rintro ⟨a, cap⟩
  cases st with
  | none =>
    dsimp only [RdH, List.cons_append, List.nil_append]
    conv => whnf
    repeat' (first
 | with_reducible ((first | refine r_seq (fun KS hS => ?_) | (refine hS _ _ ?_; clear hS KS) | (refine hA _ ?_; clear hA KA)))
 | ((with_reducible (first | refine r_region ?_ | refine r_cond (fun KA hA KB hB => ?_) | refine r_ret ?_ | refine And.intro rfl ?_)); conv => whnf)
 | ((with_reducible refine CallK.id ?_); apply in279; rfl; rfl; rfl; intro A; conv => whnf)
 | ((with_reducible apply OpK.more); (focus refine sok); (conv => whnf); fail_if_success guard_target =ₛ False)
 | with_reducible apply_assumption -symm -exfalso)
    exact FinK.fr (y := .ext 0 (RdA p none)) rfl RdA.closeN (fun _ _ h => h)
  | some l =>
    have hl := hb l rfl
    have hR := numR_le l
    dsimp only [RdH, List.cons_append, List.nil_append]
    conv => whnf
    repeat' (first
 | with_reducible ((first | refine r_seq (fun KS hS => ?_) | (refine hS _ _ ?_; clear hS KS) | (refine hA _ ?_; clear hA KA) | (refine hB _ ?_; clear hB KB)))
 | ((with_reducible (first | refine r_region ?_ | refine r_cond (fun KA hA KB hB => ?_) | refine r_ret ?_ | refine r_skip ?_ | refine And.intro rfl ?_)); conv => whnf)
 | ((with_reducible refine CallK.id ?_); (first | apply in279 | apply in193); rfl; rfl; rfl; intro A; conv => whnf)
 | ((with_reducible refine CallK.at 196 ?_); refine CallK.puW (fun ms w hk => number196 (l := l) (Sees.rd (Sees.ext (by repeat (first | with_reducible apply At.head | apply At.tail))) hk) (by omega)) ?_; conv => whnf)
 | ((with_reducible refine OpK.id ?_); refine OpK.slE (k := 1) rfl rfl rfl rfl rfl rfl (by repeat (first | with_reducible apply At.head | apply At.tail)) ?_; conv => whnf)
 | (refine ⟨by omega, by omega, by omega, fun a' => ?_⟩; conv => whnf)
 | ((with_reducible apply OpK.more); (focus refine sok); (conv => whnf); fail_if_success guard_target =ₛ False)
 | (refine if_dec (fun h => ?_) (fun h => ?_); all_goals (conv => whnf))
 | with_reducible apply_assumption -symm -exfalso)
    · rw [show rdU (some l) = (0, none) from if_pos (by omega)]
      exact FinK.fr (y := .ext 0 (RdA p none)) rfl (HSub.trans (RdA.closeN (i1 := 10)) (HSub.keep rfl (HSub.drop HSub.nil))) (fun _ _ h => h)
    · rw [show rdU (some l) = ((numR l).1, some (l.drop (numR l).2)) from if_neg (by omega)]
      exact FinK.fr (y := .ext 0 (RdA p (some (l.drop (numR l).2)))) rfl (RdA.close (bc_len _ _) (bc_drop _ _)) (fun _ _ h => h)
theorem RB.U {st : RSt} (h : RB st) : RB (rdU st).2 := by
  intro l hl
  cases st with
  | none => cases hl
  | some l' =>
    simp only [rdU] at hl
    split at hl
    · cases hl
    · simp only [Option.some.injEq] at hl
      subst hl
      have := h l' rfl
      simp; omega
theorem numG_lt : ∀ (l : List UInt8) (i a : Nat), a < 2 ^ (7 * i) → i ≤ 9 → (numG i a l).1 < 2 ^ 64
  | [], i, a, _, _ => by simp [numG]
  | c :: l, i, a, ha, hi => by
    rw [numG]
    split
    · simp
    · rename_i hc
      have hb := c.toNat_lt
      have h1 := byte_room (c := c.toNat) (i := i) hb hi (by omega)
      have h2 := acc_room (x := c.toNat % 128) ha (Nat.mod_lt _ (by omega))
      by_cases h9 : i = 9
      · subst h9
        rw [if_pos (by omega)]
        have hh : c.toNat % 128 ≤ 1 := by omega
        have h3 : c.toNat % 128 * 2 ^ (7 * 9) ≤ 1 * 2 ^ (7 * 9) := Nat.mul_le_mul_right _ hh
        exact Nat.lt_of_lt_of_le (Nat.add_lt_add_of_lt_of_le ha h3) (by decide)
      · split
        · exact pow_room h2 (by omega)
        · exact numG_lt l (i + 1) _ h2 (by omega)
theorem numR_lt (l : List UInt8) : (numR l).1 < 2 ^ 64 := numG_lt l 0 0 (by simp) (by omega)
theorem rdU_lt (st : RSt) : (rdU st).1 < 2 ^ 64 := by
  cases st with
  | none => simp [rdU]
  | some l =>
    simp only [rdU]
    split
    · simp
    · exact numR_lt l
theorem fail193 {p : Nat} {st : RSt} (w : World) : Fr Tryz.prog 193 #[pv p] w (RdA p st) (.tuple #[]) (RdA p none) := by
  refine enter_fr TBok (A' := RdA p none) (H := [.ext 12 (RdA p st)]) one_foot Tryz.func193 rfl rfl Tryz.ntmps193 [.loc p 10 0] rfl rfl ?_
  intro S
  refine Run.open (α := Option Addr × Nat) (A := []) (B := []) (fun z => RdH p st z ++ []) (fun w S h => RdA.open (X := []) (Y := []) h) ?_
  rintro ⟨a, cap⟩
  cases st with
  | none =>
    dsimp only [RdH, List.cons_append, List.nil_append]
    conv => whnf
    repeat' (first
 | with_reducible ((first | refine r_seq (fun KS hS => ?_) | (refine hS _ _ ?_; clear hS KS) | (refine hA _ ?_; clear hA KA)))
 | ((with_reducible (first | refine r_region ?_ | refine r_cond (fun KA hA KB hB => ?_) | refine And.intro rfl ?_)); conv => whnf)
 | ((with_reducible apply OpK.more); (focus refine sok); (conv => whnf); fail_if_success guard_target =ₛ False))
    exact FinK.fr (y := .ext 0 (RdA p none)) rfl RdA.closeN (fun _ _ h => h)
  | some l =>
    dsimp only [RdH, List.cons_append, List.nil_append]
    conv => whnf
    repeat' (first
 | with_reducible ((first | refine r_seq (fun KS hS => ?_) | (refine hS _ _ ?_; clear hS KS) | (refine hA _ ?_; clear hA KA)))
 | ((with_reducible (first | refine r_region ?_ | refine r_cond (fun KA hA KB hB => ?_) | refine And.intro rfl ?_)); conv => whnf)
 | ((with_reducible apply OpK.more); (focus refine sok); (conv => whnf); fail_if_success guard_target =ₛ False))
    exact FinK.fr (y := .ext 0 (RdA p none)) rfl (HSub.trans (RdA.closeN (i1 := 10)) (HSub.keep rfl (HSub.drop HSub.nil))) (fun _ _ h => h)
theorem small114 {p : Nat} {st : RSt} {most : Nat} (hb : RB st) (hm : most ≤ 9223372036854775807) (w : World) : Fr Tryz.prog 114 #[pv p, .int .i64 most] w (RdA p st) (.int .i64 (rdS most st).1) (RdA p (rdS most st).2) := by
  have hlt := rdU_lt st
  by_cases hc : (rdU st).1 > most
  · rw [show rdS most st = (0, none) from if_pos hc]
    refine enter_fr TBok (A' := RdA p none) (H := [.ext 12 (RdA p st)]) one_foot Tryz.func114 rfl rfl Tryz.ntmps114 [.loc p 10 0, .v (.int .i64 most)] rfl rfl ?_
    intro S
    conv => whnf
    repeat' (first
 | with_reducible ((first | refine r_seq (fun KS hS => ?_) | (refine hS _ _ ?_; clear hS KS) | (refine hA _ ?_; clear hA KA)))
 | ((with_reducible (first | refine r_region ?_ | refine r_cond (fun KA hA KB hB => ?_) | refine r_ret ?_)); conv => whnf)
 | ((with_reducible refine CallK.id ?_); refine CallK.fr1 12 At.head (fun ms w _ => uint192 hb w) ?_; conv => whnf)
 | ((with_reducible refine WrapK.id ?_); refine WrapK.eq (IntWalk.u64_in _ (by omega)) ?_; conv => whnf)
 | ((with_reducible refine CallK.id ?_); refine CallK.fr1 12 At.head (fun ms w _ => fail193 w) ?_; conv => whnf)
 | (refine if_decT (by omega) ?_; conv => whnf))
    exact FinK.fr (y := .ext 0 (RdA p none)) rfl (HSub.ext (fun _ _ h => h) HSub.nil) (fun _ _ h => h)
  · rw [show rdS most st = rdU st from if_neg hc]
    refine enter_fr TBok (A' := RdA p (rdU st).2) (H := [.ext 12 (RdA p st)]) one_foot Tryz.func114 rfl rfl Tryz.ntmps114 [.loc p 10 0, .v (.int .i64 most)] rfl rfl ?_
    intro S
    conv => whnf
    repeat' (first
 | with_reducible ((first | refine r_seq (fun KS hS => ?_) | (refine hS _ _ ?_; clear hS KS) | (refine hB _ ?_; clear hB KB)))
 | ((with_reducible (first | refine r_region ?_ | refine r_cond (fun KA hA KB hB => ?_) | refine r_ret ?_ | refine r_skip ?_)); conv => whnf)
 | ((with_reducible refine WrapK.i64 ?_ ?_); (focus omega); conv => whnf)
 | ((with_reducible refine CallK.id ?_); refine CallK.fr1 12 At.head (fun ms w _ => uint192 hb w) ?_; conv => whnf)
 | ((with_reducible refine WrapK.id ?_); refine WrapK.eq (IntWalk.u64_in _ (by omega)) ?_; conv => whnf)
 | (refine if_decF (by omega) ?_; conv => whnf)
 | with_reducible apply_assumption -symm -exfalso)
    exact FinK.fr (y := .ext 0 (RdA p (rdU st).2)) rfl (HSub.ext (fun _ _ h => h) HSub.nil) (fun _ _ h => h)
theorem RB.S {st : RSt} {most : Nat} (h : RB st) : RB (rdS most st).2 := by
  unfold rdS
  split
  · intro l hl; cases hl
  · exact h.U
end Go.Proofs.YtbgnoibellfojaaGreatDoor

namespace Go.Proofs.YtbgnoibellfojaaGreatDoor
open Go Go.X
set_option maxRecDepth 100000
set_option maxHeartbeats 0
theorem i64_xor0 {x : Nat} (h : x < 2 ^ 63) : IntKind.i64.wrap (bitN .xor .i64 (x : Int) 0) = x := by
  have h1 : bitN .xor .i64 (x : Int) 0 = x := by
    show (BitVec.ofInt 64 (x : Int) ^^^ BitVec.ofInt 64 0).toNat = x
    rw [show BitVec.ofInt 64 0 = 0#64 by rfl, BitVec.xor_zero, BitVec.ofInt_natCast, BitVec.toNat_ofNat]
    exact Nat.mod_eq_of_lt (by omega)
  rw [h1]
  exact IntWalk.i64_in _ (by omega)
theorem i64_xor1 {x : Nat} (h : x < 2 ^ 63) : IntKind.i64.wrap (bitN .xor .i64 (x : Int) (-1)) = -(x : Int) - 1 := by
  have h1 : bitN .xor .i64 (x : Int) (-1) = 2 ^ 64 - 1 - x := by
    show (BitVec.ofInt 64 (x : Int) ^^^ BitVec.ofInt 64 (-1)).toNat = _
    rw [show BitVec.ofInt 64 (-1) = BitVec.allOnes 64 by rfl, BitVec.xor_allOnes, BitVec.ofInt_natCast, BitVec.toNat_not, BitVec.toNat_ofNat, Nat.mod_eq_of_lt (by omega)]
  rw [h1, IntKind.wrap_i64]
  omega
theorem u64_and1 (x : Nat) (h : x < 2 ^ 64) : IntKind.u64.wrap (bitN .and .u64 (x : Int) 1) = ((x % 2 : Nat) : Int) := by
  have h1 : bitN .and .u64 (x : Int) 1 = x % 2 := by
    show (BitVec.ofInt 64 (x : Int) &&& BitVec.ofInt 64 1).toNat = _
    rw [BitVec.toNat_and, BitVec.ofInt_natCast, BitVec.toNat_ofNat, Nat.mod_eq_of_lt (by omega), show (BitVec.ofInt 64 1).toNat = 1 by rfl, Nat.and_one_is_mod]
  rw [h1]
  exact IntWalk.u64_in _ (by omega)
theorem shr1 (m : Nat) : (m : Int).fdiv (2 ^ min (Int.toNat 1) IntKind.u64.bits) = ((m / 2 : Nat) : Int) := by
  have e : (2 : Int) ^ min (Int.toNat 1) IntKind.u64.bits = 2 := by decide
  rw [e, Int.fdiv_eq_ediv_of_nonneg _ (by omega)]
  omega
theorem zag197 {u : Nat} (hu : u < 2 ^ 64) (w : World) : Pu Tryz.prog 197 #[.int .u64 u] w (.int .i64 (zagI u)) := by
  refine enter_sound TBok Tryz.func197 rfl rfl Tryz.ntmps197 [.v (.int .u64 u)] (Kn.start w noS) rfl rfl ?_
  conv => whnf
  repeat' (first
 | with_reducible ((first | refine r_seq (fun KS hS => ?_) | (refine hS _ _ ?_; clear hS KS)))
 | ((with_reducible refine r_region ?_); conv => whnf)
 | ((with_reducible refine WrapK.i64 ?_ ?_); (focus omega); conv => whnf)
 | ((with_reducible refine OpK.id ?_); refine OpK.shr rfl rfl rfl (by omega) (shr1 u) ?_; conv => whnf)
 | (refine BitK.eq (u64_and1 u hu) ?_; conv => whnf))
  by_cases h : u % 2 = 0
  · refine BitK.eq (z := ((u / 2 : Nat) : Int)) ?_ ?_
    · rw [h]
      exact i64_xor0 (by omega)
    conv => whnf
    repeat' (first
 | with_reducible (refine hS _ _ ?_; clear hS KS)
 | ((with_reducible refine r_ret ?_); conv => whnf))
    refine FinK.pu ?_
    simp [den, zagI, h]
  · refine BitK.eq (z := -((u / 2 : Nat) : Int) - 1) ?_ ?_
    · rw [show u % 2 = 1 by omega]
      exact i64_xor1 (by omega)
    conv => whnf
    repeat' (first
 | with_reducible (refine hS _ _ ?_; clear hS KS)
 | ((with_reducible refine r_ret ?_); conv => whnf))
    refine FinK.pu ?_
    simp [den, zagI, h]
theorem u64_xor0 {x : Nat} (h : x < 2 ^ 64) : IntKind.u64.wrap (bitN .xor .u64 (x : Int) 0) = x := by
  have h1 : bitN .xor .u64 (x : Int) 0 = x := by
    show (BitVec.ofInt 64 (x : Int) ^^^ BitVec.ofInt 64 0).toNat = x
    rw [show BitVec.ofInt 64 0 = 0#64 by rfl, BitVec.xor_zero, BitVec.ofInt_natCast, BitVec.toNat_ofNat]
    exact Nat.mod_eq_of_lt h
  rw [h1]
  exact IntWalk.u64_in _ (by omega)
theorem u64_xor1 {x : Nat} (h : x < 2 ^ 64) : IntKind.u64.wrap (bitN .xor .u64 (x : Int) 18446744073709551615) = 18446744073709551615 - (x : Int) := by
  have h1 : bitN .xor .u64 (x : Int) 18446744073709551615 = 2 ^ 64 - 1 - x := by
    show (BitVec.ofInt 64 (x : Int) ^^^ BitVec.ofInt 64 18446744073709551615).toNat = _
    rw [show BitVec.ofInt 64 18446744073709551615 = BitVec.allOnes 64 by rfl, BitVec.xor_allOnes, BitVec.ofInt_natCast, BitVec.toNat_not, BitVec.toNat_ofNat, Nat.mod_eq_of_lt (by omega)]
  rw [h1]
  have : ((2 ^ 64 - 1 - x : Nat) : Int) = 18446744073709551615 - (x : Int) := by omega
  rw [this]
  exact IntWalk.u64_in _ (by omega)
theorem u64_neg {a : Int} (h : -18446744073709551616 ≤ a ∧ a < 0) : IntKind.u64.wrap a = a + 18446744073709551616 := by
  simp [IntKind.wrap, IntKind.bits, IntKind.signed]; omega
theorem shl1 (z : Int) : IntKind.u64.wrap (z * 2 ^ min (Int.toNat 1) IntKind.u64.bits) = IntKind.u64.wrap (2 * z) := by
  have e : (2 : Int) ^ min (Int.toNat 1) IntKind.u64.bits = 2 := by decide
  rw [e, Int.mul_comm]
theorem u64_big {a : Int} (h : 18446744073709551616 ≤ a ∧ a < 36893488147419103232) : IntKind.u64.wrap a = a - 18446744073709551616 := by
  simp [IntKind.wrap, IntKind.bits, IntKind.signed]; omega
theorem shr63p {a : Int} (h : 0 ≤ a) (h2 : a ≤ 9223372036854775807) : a.fdiv (2 ^ min (Int.toNat 63) IntKind.i64.bits) = 0 := by
  have e : (2 : Int) ^ min (Int.toNat 63) IntKind.i64.bits = 9223372036854775808 := by decide
  rw [e, Int.fdiv_eq_ediv_of_nonneg _ (by omega)]
  omega
theorem shr63n {a : Int} (h : a < 0) (h2 : -9223372036854775808 ≤ a) : a.fdiv (2 ^ min (Int.toNat 63) IntKind.i64.bits) = -1 := by
  have e : (2 : Int) ^ min (Int.toNat 63) IntKind.i64.bits = 9223372036854775808 := by decide
  rw [e, Int.fdiv_eq_ediv_of_nonneg _ (by omega)]
  omega
theorem zigN_pos {a : Int} (h : 0 ≤ a) : (zigN a : Int) = 2 * a := by unfold zigN; rw [if_pos h]; omega
theorem zigN_neg {a : Int} (h : a < 0) : (zigN a : Int) = -2 * a - 1 := by unfold zigN; rw [if_neg (by omega)]; omega
theorem zigN_lt {a : Int} (ha : -9223372036854775808 ≤ a ∧ a ≤ 9223372036854775807) : zigN a < 2 ^ 64 := by
  rcases Int.lt_or_le a 0 with h | h
  · have := zigN_neg h; omega
  · have := zigN_pos h; omega
theorem zig133 {a : Int} (ha : -9223372036854775808 ≤ a ∧ a ≤ 9223372036854775807) (w : World) : Pu Tryz.prog 133 #[.int .i64 a] w (.int .u64 (zigN a)) := by
  refine enter_sound TBok Tryz.func133 rfl rfl Tryz.ntmps133 [.v (.int .i64 a)] (Kn.start w noS) rfl rfl ?_
  by_cases h : 0 ≤ a
  · have hz := zigN_pos h
    conv => whnf
    repeat' (first
 | with_reducible ((first | refine r_seq (fun KS hS => ?_) | (refine hS _ _ ?_; clear hS KS)))
 | ((with_reducible (first | refine r_region ?_ | refine r_ret ?_)); conv => whnf)
 | ((with_reducible refine WrapK.id ?_); refine WrapK.eq (IntWalk.u64_in _ (by omega)) ?_; conv => whnf)
 | ((with_reducible refine OpK.id ?_); (first | (refine OpK.shl (z := (zigN a : Int)) rfl rfl rfl (by omega) (by rw [shl1, IntWalk.u64_in _ (by omega)]; omega) ?_) | refine OpK.shr rfl rfl rfl (by omega) (shr63p h ha.2) ?_); conv => whnf)
 | (refine BitK.eq (u64_xor0 (zigN_lt ha)) ?_; conv => whnf))
    exact FinK.pu rfl
  · have hz := zigN_neg (show a < 0 by omega)
    have hlt := zigN_lt ha
    have hx : ((2 ^ 64 - 1 - zigN a : Nat) : Int) = 2 * (a + 18446744073709551616) - 18446744073709551616 := by omega
    have hr := u64_xor1 (x := 2 ^ 64 - 1 - zigN a) (by omega)
    conv => whnf
    repeat' (first
 | with_reducible ((first | refine r_seq (fun KS hS => ?_) | (refine hS _ _ ?_; clear hS KS)))
 | ((with_reducible (first | refine r_region ?_ | refine r_ret ?_)); conv => whnf)
 | ((with_reducible refine WrapK.id ?_); refine WrapK.eq (u64_neg (by omega)) ?_; conv => whnf)
 | ((with_reducible refine OpK.id ?_); (first | (refine OpK.shl (z := ((2 ^ 64 - 1 - zigN a : Nat) : Int)) rfl rfl rfl (by omega) (by rw [shl1, u64_big (by omega)]; omega) ?_) | refine OpK.shr rfl rfl rfl (by omega) (shr63n (by omega) ha.1) ?_); conv => whnf)
 | (refine BitK.eq hr ?_; conv => whnf))
    refine FinK.pu ?_
    show Value.int .u64 _ = _
    congr 1
    omega
theorem text85 {p : Nat} {l : List UInt8} {s : ByteArray} (hs : s.size ≤ 1099511627776) (hl : l.length ≤ 549755813888) (w : World) : Fr Tryz.prog 85 #[pv p, .string s] w (WrA p l) (.tuple #[]) (WrA p (l ++ uvar s.size ++ s.data.toList)) := by
  refine enter_fr TBok (A' := WrA p (l ++ uvar s.size ++ s.data.toList)) (H := [.ext 12 (WrA p l)]) one_foot Tryz.func85 rfl rfl Tryz.ntmps85 [.loc p 10 0, .v (.string s)] rfl rfl ?_
  intro S
  have h10 := uvar_len64 (n := s.size) (by omega)
  have hll : (l ++ uvar s.size).length ≤ 549755813898 := by rw [List.length_append]; omega
  have hsz : s.data.toList.length = s.size := by rw [Array.length_toList]; rfl
  have hap : (l ++ uvar s.size ++ s.data.toList).length = (l ++ uvar s.size).length + s.size := by rw [List.length_append, hsz]
  conv => whnf
  repeat' (first
 | with_reducible ((first | refine r_seq (fun KS hS => ?_) | (refine hS _ _ ?_; clear hS KS) | (refine hA _ ?_; clear hA KA)))
 | ((with_reducible (first | refine r_region ?_ | refine r_cond (fun KA hA KB hB => ?_) | refine And.intro rfl ?_)); conv => whnf)
 | ((with_reducible refine WrapK.id ?_); refine WrapK.eq (IntWalk.u64_in _ (by omega)) ?_; conv => whnf)
 | ((with_reducible refine CallK.id ?_); refine CallK.fr1 12 At.head (fun ms w _ => uint83 (n := s.size) (by omega) (by omega) w) ?_; (conv => whnf); (refine hS _ _ ?_); clear hS KS; (refine Run.open (α := Option Addr × Nat) (A := []) (B := []) (fun z => [.blk 10 p [.v (.bool true), .v (.slice z.1 (l ++ uvar s.size).length z.2)] 209, .ext 11 (SlA 5 1 z.1 (l ++ uvar s.size).length z.2 (bcells (l ++ uvar s.size)))]) (fun w S h => WrA.open (X := []) (Y := []) h) ?_); rintro ⟨a, cap⟩; dsimp only)
 | ((with_reducible refine OpK.id ?_); refine OpK.app (k := 1) rfl rfl rfl rfl rfl rfl rfl rfl (by repeat (first | with_reducible apply At.head | apply At.tail)) (SrcK.str rfl rfl) (by show (_ + _) * (1 + 1) ≤ 140737488355328; omega) (fun a' cap' => ?_); conv => whnf)
 | ((with_reducible apply OpK.more); (focus refine sok); (conv => whnf); fail_if_success guard_target =ₛ False))
  exact FinK.fr (y := .ext 0 (WrA p (l ++ uvar s.size ++ s.data.toList))) rfl (WrA.close hap.symm (bcells_append _ _).symm) (fun _ _ h => h)
theorem int115 {p : Nat} {st : RSt} (hb : RB st) (w : World) : Fr Tryz.prog 115 #[pv p] w (RdA p st) (.int .i64 (rdI st).1) (RdA p (rdI st).2) := by
  refine enter_fr TBok (A' := RdA p (rdI st).2) (H := [.ext 12 (RdA p st)]) one_foot Tryz.func115 rfl rfl Tryz.ntmps115 [.loc p 10 0] rfl rfl ?_
  intro S
  refine Run.open (α := Option Addr × Nat) (A := []) (B := []) (fun z => RdH p st z ++ []) (fun w S h => RdA.open (X := []) (Y := []) h) ?_
  rintro ⟨a, cap⟩
  cases st with
  | none =>
    dsimp only [RdH, List.cons_append, List.nil_append]
    conv => whnf
    repeat' (first
 | with_reducible ((first | refine r_seq (fun KS hS => ?_) | (refine hS _ _ ?_; clear hS KS) | (refine hA _ ?_; clear hA KA)))
 | ((with_reducible (first | refine r_region ?_ | refine r_cond (fun KA hA KB hB => ?_) | refine r_ret ?_ | refine And.intro rfl ?_)); conv => whnf)
 | ((with_reducible refine CallK.id ?_); apply in194; rfl; rfl; rfl; intro A; conv => whnf)
 | ((with_reducible apply OpK.more); (focus refine sok); (conv => whnf); fail_if_success guard_target =ₛ False)
 | with_reducible apply_assumption -symm -exfalso)
    exact FinK.fr (y := .ext 0 (RdA p none)) rfl RdA.closeN (fun _ _ h => h)
  | some l =>
    have hl := hb l rfl
    have hR := numR_le l
    dsimp only [RdH, List.cons_append, List.nil_append]
    conv => whnf
    repeat' (first
 | with_reducible ((first | refine r_seq (fun KS hS => ?_) | (refine hS _ _ ?_; clear hS KS) | (refine hA _ ?_; clear hA KA) | (refine hB _ ?_; clear hB KB)))
 | ((with_reducible (first | refine r_region ?_ | refine r_cond (fun KA hA KB hB => ?_) | refine r_ret ?_ | refine r_skip ?_ | refine And.intro rfl ?_)); conv => whnf)
 | ((with_reducible refine CallK.id ?_); (first | apply in194 | apply in193 | apply in195); rfl; rfl; rfl; intro A; conv => whnf)
 | ((with_reducible refine CallK.at 196 ?_); refine CallK.puW (fun ms w hk => number196 (l := l) (Sees.rd (Sees.ext (by repeat (first | with_reducible apply At.head | apply At.tail))) hk) (by omega)) ?_; conv => whnf)
 | ((with_reducible refine CallK.at 197 ?_); refine CallK.pu (fun w => zag197 (numR_lt l) w) ?_; conv => whnf)
 | ((with_reducible refine OpK.id ?_); refine OpK.slE (k := 1) rfl rfl rfl rfl rfl rfl (by repeat (first | with_reducible apply At.head | apply At.tail)) ?_; conv => whnf)
 | (refine ⟨by omega, by omega, by omega, fun a' => ?_⟩; conv => whnf)
 | ((with_reducible apply OpK.more); (focus refine sok); (conv => whnf); fail_if_success guard_target =ₛ False)
 | (refine if_dec (fun h => ?_) (fun h => ?_); all_goals (conv => whnf))
 | with_reducible apply_assumption -symm -exfalso)
    · rw [show rdI (some l) = (0, none) from if_pos (by omega)]
      exact FinK.fr (y := .ext 0 (RdA p none)) rfl (HSub.trans (RdA.closeN (i1 := 10)) (HSub.keep rfl (HSub.drop HSub.nil))) (fun _ _ h => h)
    · rw [show rdI (some l) = (zagI (numR l).1, some (l.drop (numR l).2)) from if_neg (by omega)]
      exact FinK.fr (y := .ext 0 (RdA p (some (l.drop (numR l).2)))) rfl (RdA.close (bc_len _ _) (bc_drop _ _)) (fun _ _ h => h)
theorem bc_part (l : List UInt8) (m u : Nat) : ((bcells l).drop ((m : Int).toNat * 1)).take ((((m : Int) + (u : Int)).toNat - (m : Int).toNat) * 1) = bcells ((l.drop m).take u) := by
  rw [show (((m : Int) + (u : Int)).toNat - (m : Int).toNat) * 1 = u by omega, show (m : Int).toNat * 1 = m by omega]
  simp [bcells]
theorem text116 {p : Nat} {st : RSt} (hb : RB st) (w : World) : Fr Tryz.prog 116 #[pv p] w (RdA p st) (.string (rdT st).1) (RdA p (rdT st).2) := by
  refine enter_fr TBok (A' := RdA p (rdT st).2) (H := [.ext 12 (RdA p st)]) one_foot Tryz.func116 rfl rfl Tryz.ntmps116 [.loc p 10 0] rfl rfl ?_
  intro S
  refine Run.open (α := Option Addr × Nat) (A := []) (B := []) (fun z => RdH p st z ++ []) (fun w S h => RdA.open (X := []) (Y := []) h) ?_
  rintro ⟨a, cap⟩
  cases st with
  | none =>
    dsimp only [RdH, List.cons_append, List.nil_append]
    conv => whnf
    repeat' (first
 | with_reducible ((first | refine r_seq (fun KS hS => ?_) | (refine hS _ _ ?_; clear hS KS) | (refine hA _ ?_; clear hA KA)))
 | ((with_reducible (first | refine r_region ?_ | refine r_cond (fun KA hA KB hB => ?_) | refine r_ret ?_ | refine And.intro rfl ?_)); conv => whnf)
 | ((with_reducible refine CallK.id ?_); apply in198; rfl; rfl; rfl; intro A; conv => whnf)
 | ((with_reducible apply OpK.more); (focus refine sok); (conv => whnf); fail_if_success guard_target =ₛ False)
 | with_reducible apply_assumption -symm -exfalso)
    exact FinK.fr (y := .ext 0 (RdA p none)) rfl RdA.closeN (fun _ _ h => h)
  | some l =>
    have hl := hb l rfl
    have hR := numR_le l
    have hlt := numR_lt l
    dsimp only [RdH, List.cons_append, List.nil_append]
    conv => whnf
    repeat' (first
 | with_reducible ((first | refine r_seq (fun KS hS => ?_) | (refine hS _ _ ?_; clear hS KS) | (refine hA _ ?_; clear hA KA) | (refine hB _ ?_; clear hB KB)))
 | ((with_reducible (first | refine r_region ?_ | refine r_cond (fun KA hA KB hB => ?_) | refine r_ret ?_ | refine r_skip ?_ | refine And.intro rfl ?_)); conv => whnf)
 | ((with_reducible refine WrapK.i64 ?_ ?_); (focus omega); conv => whnf)
 | ((with_reducible refine CallK.id ?_); (first | apply in198 | apply in193 | apply in199); rfl; rfl; rfl; intro A; conv => whnf)
 | ((with_reducible refine CallK.at 196 ?_); refine CallK.puW (fun ms w hk => number196 (l := l) (Sees.rd (Sees.ext (by repeat (first | with_reducible apply At.head | apply At.tail))) hk) (by omega)) ?_; conv => whnf)
 | ((with_reducible refine WrapK.id ?_); refine WrapK.eq (IntWalk.u64_in _ (by omega)) ?_; conv => whnf)
 | ((with_reducible refine OpK.id ?_); refine OpK.slR (t := 97) (lo := some (.tmp 32)) (k := 1) rfl rfl rfl rfl rfl rfl (Sees.ext (by repeat (first | with_reducible apply At.head | apply At.tail))) ?_; conv => whnf)
 | (refine ⟨by omega, by omega, by omega, fun a' hsee => ?_⟩; conv => whnf)
 | ((with_reducible refine OpK.id ?_); (first | refine OpK.cvBS' rfl rfl rfl rfl rfl rfl rfl rfl hsee (bc_part _ _ _) ?_ | refine OpK.slE (k := 1) rfl rfl rfl rfl rfl rfl (by repeat (first | with_reducible apply At.head | apply At.tail)) ?_); conv => whnf)
 | (refine ⟨by omega, by omega, by omega, fun a' => ?_⟩; conv => whnf)
 | ((with_reducible apply OpK.more); (focus refine sok); (conv => whnf); fail_if_success guard_target =ₛ False)
 | (refine if_decF (by omega) ?_; conv => whnf)
 | (refine if_dec (fun h => ?_) (fun h => ?_); all_goals (conv => whnf))
 | with_reducible apply_assumption -symm -exfalso)
    · have e : txtR l = (⟨#[]⟩, 0) := if_pos (by omega)
      rw [show rdT (some l) = (⟨#[]⟩, none) from if_pos (by rw [e])]
      exact FinK.fr (y := .ext 0 (RdA p none)) rfl (HSub.trans (RdA.closeN (i1 := 10)) (HSub.keep rfl (HSub.drop HSub.nil))) (fun _ _ h => h)
    · have e : txtR l = (⟨#[]⟩, 0) := if_pos (by omega)
      rw [show rdT (some l) = (⟨#[]⟩, none) from if_pos (by rw [e])]
      exact FinK.fr (y := .ext 0 (RdA p none)) rfl (HSub.trans (RdA.closeN (i1 := 10)) (HSub.keep rfl (HSub.drop HSub.nil))) (fun _ _ h => h)
    · have e : txtR l = (⟨#[]⟩, 0) := if_pos (by omega)
      rw [show rdT (some l) = (⟨#[]⟩, none) from if_pos (by rw [e])]
      exact FinK.fr (y := .ext 0 (RdA p none)) rfl (HSub.trans (RdA.closeN (i1 := 10)) (HSub.keep rfl (HSub.drop HSub.nil))) (fun _ _ h => h)
    · have e : txtR l = (⟨((l.drop (numR l).2).take (numR l).1).toArray⟩, (numR l).2 + (numR l).1) := if_neg (by omega)
      rw [show rdT (some l) = (⟨((l.drop (numR l).2).take (numR l).1).toArray⟩, some (l.drop ((numR l).2 + (numR l).1))) from (if_neg (by rw [e]; dsimp only; omega)).trans (by rw [e])]
      exact FinK.fr (y := .ext 0 (RdA p (some (l.drop ((numR l).2 + (numR l).1))))) rfl (RdA.close (bc_len l ((numR l).2 + (numR l).1)) (bc_drop l ((numR l).2 + (numR l).1))) (fun _ _ h => h)
theorem RB.drop {l : List UInt8} (h : RB (some l)) (m : Nat) : RB (some (l.drop m)) := by
  intro l' hl
  simp only [Option.some.injEq] at hl
  subst hl
  have := h l rfl
  simp; omega
theorem RB.none : RB none := fun _ h => by cases h
theorem RB.I {st : RSt} (h : RB st) : RB (rdI st).2 := by
  cases st with
  | none => exact RB.none
  | some l => simp only [rdI]; split; exact RB.none; exact h.drop _
theorem RB.T {st : RSt} (h : RB st) : RB (rdT st).2 := by
  cases st with
  | none => exact RB.none
  | some l => simp only [rdT]; split; exact RB.none; exact h.drop _
end Go.Proofs.YtbgnoibellfojaaGreatDoor

namespace Go.Proofs.YtbgnoibellfojaaGreatDoor
open Go Go.X
set_option maxRecDepth 100000
set_option maxHeartbeats 0
def cutL : List UInt8 := [97, 98, 99, 100, 101, 102, 103, 104, 105, 106, 107, 108, 109, 110, 111, 112, 113, 114, 115, 116, 117, 118, 119, 120, 121, 122, 48, 49, 50, 51, 52, 53, 54, 55, 56, 57]
def cutS : ByteArray := ⟨#[97, 98, 99, 100, 101, 102, 103, 104, 105, 106, 107, 108, 109, 110, 111, 112, 113, 114, 115, 116, 117, 118, 119, 120, 121, 122, 48, 49, 50, 51, 52, 53, 54, 55, 56, 57]⟩
def setL (k : Nat) : List SV := (List.range 256).map fun i => .v (.bool ((cutL.take k).contains (UInt8.ofNat i)))
theorem setL_get {k i : Nat} (h : i < 256) : (setL k)[i]? = some (.v (.bool ((cutL.take k).contains (UInt8.ofNat i)))) := by
  unfold setL
  rw [List.getElem?_map, List.getElem?_range h]
  rfl
theorem setL_len (k : Nat) : (setL k).length = 256 := by simp [setL]
theorem setL_succ {k : Nat} (hk : k < 36) : setL (k + 1) = (setL k).set (cutL.getD k 0).toNat (.v (.bool true)) := by
  have hlen : cutL.length = 36 := rfl
  have ht : cutL.take (k + 1) = cutL.take k ++ [cutL.getD k 0] := by
    rw [List.take_add_one, List.getElem?_eq_getElem (by omega)]
    simp [List.getD, List.getElem?_eq_getElem (show k < cutL.length by omega)]
  have hlt := (cutL.getD k 0).toNat_lt
  apply List.ext_getElem?
  intro i
  by_cases hi : i < 256
  · rw [setL_get hi, List.getElem?_set, setL_len]
    by_cases h : (cutL.getD k 0).toNat = i
    · subst h
      rw [if_pos rfl, if_pos hi, ht]
      simp
    · rw [if_neg h, setL_get hi, ht]
      have hne' : ¬ UInt8.ofNat i = cutL.getD k 0 := by
        intro e
        apply h
        rw [← e]
        simp
        omega
      simp
      intro e
      exact absurd e hne'
  · rw [List.getElem?_eq_none (by rw [setL_len]; omega), List.getElem?_eq_none (by rw [List.length_set, setL_len]; omega)]
theorem cut_lt : ∀ k, k < 36 → (cutL.getD k 0).toNat < 128 := by decide
theorem mkset317 (w : World) : Pu Tryz.prog 317 #[.string cutS] w (.tuple #[.agg (denL (setL 36)).toArray, .bool true]) := by
  refine enter_sound TBok Tryz.func317 rfl rfl Tryz.ntmps317 [.v (.string cutS)] (Kn.start w noS) rfl rfl ?_
  conv => whnf
  repeat' (first
 | with_reducible ((first | refine r_seq (fun KS hS => ?_) | (refine hS _ _ ?_; clear hS KS) | refine r_block ?_))
 | ((with_reducible (first | refine r_region ?_ | intro b)); conv => whnf))
  refine r_loop (α := Nat) (fun k => [(0, .v (.string cutS)), (2, .loc b 0 0), (4, .v (.int .i64 k))]) (fun k => [.blk 0 b (setL k) 305]) (fun k => k ≤ 36) (fun k => 36 - k) 0 (Nat.zero_le _) ?_ (HSub.keep rfl HSub.nil) ?_
  · repeat' (first | exact Sub.nil | (refine Sub.cons rfl rfl ?_))
  intro k hk KL hL
  by_cases hlt : k < 36
  · have hb : cutL[k]? = some (cutL.getD k 0) := by
      have hlen : cutL.length = 36 := rfl
      simp [List.getD, List.getElem?_eq_getElem (show k < cutL.length by omega)]
    have hc := cut_lt k hlt
    have hs := setL_succ hlt
    have hcs : cutS.size = 36 := rfl
    conv => whnf
    repeat' (first
 | with_reducible ((first | refine r_seq (fun KS hS => ?_) | (refine hS _ _ ?_; clear hS KS) | (refine hA _ ?_; clear hA KA) | (refine hB _ ?_; clear hB KB) | refine r_block ?_))
 | ((with_reducible (first | refine r_region ?_ | refine r_cond (fun KA hA KB hB => ?_) | refine r_skip ?_)); conv => whnf)
 | ((with_reducible refine WrapK.i64 ?_ ?_); (focus omega); conv => whnf)
 | ((with_reducible refine OpK.id ?_); (first | refine OpK.sIx (b := cutL.getD k 0) rfl rfl rfl rfl rfl (by omega) hb ?_ | (refine OpK.ixA rfl rfl rfl rfl rfl rfl (by omega) (by show _ < (256 : Int); omega) ?_) | (refine OpK.st1 rfl rfl rfl rfl rfl rfl (by repeat (first | with_reducible apply At.head | apply At.tail)) (by rw [setL_len]; show 0 + (Int.toNat _) * 1 < 256; omega) ?_)); conv => whnf)
 | (refine hL (k + 1) _ _ ?_ ?_ ?_ ?_; omega; omega; (repeat' (first | exact Sub.nil | (refine Sub.cons rfl rfl ?_))); refine HSub.keep ?_ HSub.nil)
 | ((first | refine if_decT (by omega) ?_ | refine if_decF (by omega) ?_); conv => whnf)
 | with_reducible apply_assumption -symm -exfalso)
    rw [show 0 + (Int.toNat ((cutL.getD k 0).toNat : Int)) * TI.size ti4 = (cutL.getD k 0).toNat from by show 0 + (cutL.getD k 0).toNat * 1 = _; omega]
    exact hs.symm
  · obtain rfl : k = 36 := by omega
    conv => whnf
    repeat' (first
 | with_reducible ((first | refine r_seq (fun KS hS => ?_) | (refine hS _ _ ?_; clear hS KS) | (refine hB _ ?_; clear hB KB)))
 | ((with_reducible (first | refine r_region ?_ | refine r_cond (fun KA hA KB hB => ?_) | refine r_ret ?_ | refine r_exit ?_ | refine And.intro rfl ?_)); conv => whnf)
 | with_reducible apply_assumption -symm -exfalso)
    exact FinK.pu rfl
/-- a byte of a name -/
def alnum (c : UInt8) : Bool := cutL.contains c
/-- the block p bears the set of the bytes of names -/
def SetAt (w : World) (p : Nat) : Prop := p < w.heap.size ∧ ∃ C t f, w.heap[p]? = some (.cells C t f) ∧ ∀ c : UInt8, C[c.toNat]? = some (.bool (alnum c))
theorem SetAt.pc {w : World} {p n : Nat} {r : Option Nat} {H : List Blk} (h : SetAt w p) (c : UInt8) : PC ⟨Tryz.prog, TB, n, w, noS, r, TBok⟩ H p c.toNat [.v (.bool (alnum c))] := by
  obtain ⟨hp, C, t, f, h1, h2⟩ := h
  intro ms w' hk
  refine ⟨C, t, f, by rw [Kn0.old hk p hp id]; exact h1, fun j v hj => ?_⟩
  cases j with
  | zero => simp only [denL, den, List.getElem?_cons_zero] at hj; rw [Nat.add_zero, h2 c]; exact hj
  | succ j => simp [denL] at hj
theorem SetAt.pc' {w : World} {p n : Nat} {r : Option Nat} {H : List Blk} (h : SetAt w p) (c : UInt8) : PC ⟨Tryz.prog, TB, n, w, noS, r, TBok⟩ H p (0 + (Int.toNat (c.toNat : Int)) * TI.size ti4) [.v (.bool (alnum c))] := by
  have e : 0 + (Int.toNat (c.toNat : Int)) * TI.size ti4 = c.toNat := by show 0 + c.toNat * 1 = _; omega
  rw [e]
  exact h.pc c
theorem str_ext {a b : ByteArray} (h : a.data.toList = b.data.toList) : a = b := by
  cases a; cases b
  simp only at h
  congr 1
  exact Array.ext' h
theorem str_len (s : ByteArray) : s.data.toList.length = s.size := by rw [Array.length_toList]; rfl
def rstrip (l : List UInt8) : List UInt8 := (l.reverse.dropWhile alnum).reverse
theorem rstrip_snoc (l : List UInt8) (c : UInt8) : rstrip (l ++ [c]) = if alnum c then rstrip l else l ++ [c] := by
  unfold rstrip
  rw [List.reverse_append]
  simp only [List.reverse_cons, List.reverse_nil, List.nil_append, List.singleton_append, List.dropWhile_cons]
  split
  · rfl
  · simp
theorem trimR319 {s : ByteArray} {p : Nat} {w : World} (h : SetAt w p) (hs : s.size ≤ 1099511627776) : Pu Tryz.prog 319 #[.string s, pv p] w (.string ⟨(rstrip s.data.toList).toArray⟩) := by
  refine enter_sound TBok Tryz.func319 rfl rfl Tryz.ntmps319 [.v (.string s), .v (pv p)] (Kn.start w noS) rfl rfl ?_
  conv => whnf
  repeat' (first
 | with_reducible ((first | refine r_seq (fun KS hS => ?_) | (refine hS _ _ ?_; clear hS KS) | refine r_block ?_))
 | ((with_reducible refine r_region ?_); conv => whnf))
  refine r_loop (α := ByteArray) (fun s => [(0, .v (.string s)), (1, .v (pv p))]) (fun k => []) (fun s' => s'.size ≤ 1099511627776 ∧ rstrip s'.data.toList = rstrip s.data.toList) (fun s => s.size) s ⟨hs, rfl⟩ ?_ (HSub.refl _) ?_
  · repeat' (first | exact Sub.nil | (refine Sub.cons rfl rfl ?_))
  rintro s' ⟨h1, h2⟩ KL hL
  have hsl := str_len s'
  rcases List.eq_nil_or_concat s'.data.toList with hn | ⟨l, c, hn⟩
  · have h0 : s'.size = 0 := by rw [← hsl, hn]; rfl
    conv => whnf
    repeat' (first
 | with_reducible ((first | refine r_seq (fun KS hS => ?_) | (refine hS _ _ ?_; clear hS KS) | (refine hB _ ?_; clear hB KB)))
 | ((with_reducible (first | refine r_region ?_ | refine r_cond (fun KA hA KB hB => ?_) | refine r_ret ?_ | refine r_exit ?_)); conv => whnf)
 | (refine if_decF (by omega) ?_; conv => whnf)
 | with_reducible apply_assumption -symm -exfalso)
    refine FinK.pu ?_
    show Value.string _ = _
    rw [← h2, hn]
    congr 1
    exact str_ext hn
  · have hn : s'.data.toList = l ++ [c] := by rw [hn]; simp
    have h0 : s'.size = l.length + 1 := by rw [← hsl, hn]; simp
    have hb : s'.data.toList[(Int.toNat ((s'.size : Int) - 1))]? = some c := by rw [show (Int.toNat ((s'.size : Int) - 1)) = l.length by omega, hn]; simp
    have hx : (s'.extract (Int.toNat 0) (Int.toNat ((s'.size : Int) - 1))).data.toList = l := by rw [show (Int.toNat ((s'.size : Int) - 1)) = l.length by omega, Lib.extract_data, hn]; simp
    have hxs : (s'.extract (Int.toNat 0) (Int.toNat ((s'.size : Int) - 1))).size = l.length := by rw [← str_len, hx]
    have hr := rstrip_snoc l c
    have hlt := c.toNat_lt
    by_cases hc : alnum c = true
    · rw [if_pos hc, ← hn] at hr
      conv => whnf
      repeat' (first
 | with_reducible ((first | refine r_seq (fun KS hS => ?_) | (refine hS _ _ ?_; clear hS KS) | (refine hA _ ?_; clear hA KA) | (refine hB _ ?_; clear hB KB) | refine r_block ?_))
 | ((with_reducible (first | refine r_region ?_ | refine r_cond (fun KA hA KB hB => ?_) | refine r_ret ?_ | refine r_skip ?_ | refine And.intro rfl ?_)); conv => whnf)
 | ((with_reducible refine WrapK.i64 ?_ ?_); (focus omega); conv => whnf)
 | (apply in331; rfl; rfl; rfl; intro A; conv => whnf)
 | ((with_reducible refine OpK.id ?_); (first | refine OpK.sIx (b := c) rfl rfl rfl rfl rfl (by omega) hb ?_ | (refine OpK.ixP rfl rfl rfl rfl rfl rfl (by omega) (by show _ < (256 : Int); omega) ?_) | (refine OpK.ldp rfl rfl (h.pc' c) (List.cons_ne_nil _ _) ?_; rw [hc]) | refine OpK.slS rfl rfl rfl rfl ?_); conv => whnf)
 | (refine ⟨by omega, by omega, by omega, ?_⟩; conv => whnf)
 | (refine hL (s'.extract (Int.toNat 0) (Int.toNat ((s'.size : Int) - 1))) _ _ ⟨by omega, by rw [hx, ← hr, h2]⟩ (by omega) ?_ (HSub.refl _); repeat' (first | exact Sub.nil | (refine Sub.cons rfl rfl ?_)))
 | (refine if_decT (by omega) ?_; conv => whnf)
 | with_reducible apply_assumption -symm -exfalso)
    · rw [if_neg hc, ← hn] at hr
      rw [Bool.not_eq_true] at hc
      conv => whnf
      repeat' (first
 | with_reducible ((first | refine r_seq (fun KS hS => ?_) | (refine hS _ _ ?_; clear hS KS) | (refine hA _ ?_; clear hA KA) | refine r_block ?_))
 | ((with_reducible (first | refine r_region ?_ | refine r_cond (fun KA hA KB hB => ?_) | refine r_ret ?_ | refine r_skip ?_ | refine r_exit ?_ | refine And.intro rfl ?_)); conv => whnf)
 | ((with_reducible refine WrapK.i64 ?_ ?_); (focus omega); conv => whnf)
 | (apply in331; rfl; rfl; rfl; intro A; conv => whnf)
 | ((with_reducible refine OpK.id ?_); (first | refine OpK.sIx (b := c) rfl rfl rfl rfl rfl (by omega) hb ?_ | (refine OpK.ixP rfl rfl rfl rfl rfl rfl (by omega) (by show _ < (256 : Int); omega) ?_) | (refine OpK.ldp rfl rfl (h.pc' c) (List.cons_ne_nil _ _) ?_; rw [hc])); conv => whnf)
 | (refine if_decT (by omega) ?_; conv => whnf)
 | with_reducible apply_assumption -symm -exfalso)
      refine FinK.pu ?_
      show Value.string _ = _
      rw [← h2, hr]
def lstrip (l : List UInt8) : List UInt8 := l.dropWhile alnum
theorem trimL318 {s : ByteArray} {p : Nat} {w : World} (h : SetAt w p) (hs : s.size ≤ 1099511627776) : Pu Tryz.prog 318 #[.string s, pv p] w (.string ⟨(lstrip s.data.toList).toArray⟩) := by
  refine enter_sound TBok Tryz.func318 rfl rfl Tryz.ntmps318 [.v (.string s), .v (pv p)] (Kn.start w noS) rfl rfl ?_
  conv => whnf
  repeat' (first
 | with_reducible ((first | refine r_seq (fun KS hS => ?_) | (refine hS _ _ ?_; clear hS KS) | refine r_block ?_))
 | ((with_reducible refine r_region ?_); conv => whnf))
  refine r_loop (α := ByteArray) (fun s => [(0, .v (.string s)), (1, .v (pv p))]) (fun k => []) (fun s' => s'.size ≤ 1099511627776 ∧ lstrip s'.data.toList = lstrip s.data.toList) (fun s => s.size) s ⟨hs, rfl⟩ ?_ (HSub.refl _) ?_
  · repeat' (first | exact Sub.nil | (refine Sub.cons rfl rfl ?_))
  rintro s' ⟨h1, h2⟩ KL hL
  have hsl := str_len s'
  rcases hn : s'.data.toList with _ | ⟨c, l⟩
  · have h0 : s'.size = 0 := by rw [← hsl, hn]; rfl
    conv => whnf
    repeat' (first
 | with_reducible ((first | refine r_seq (fun KS hS => ?_) | (refine hS _ _ ?_; clear hS KS) | (refine hB _ ?_; clear hB KB)))
 | ((with_reducible (first | refine r_region ?_ | refine r_cond (fun KA hA KB hB => ?_) | refine r_ret ?_ | refine r_exit ?_)); conv => whnf)
 | (refine if_decF (by omega) ?_; conv => whnf)
 | with_reducible apply_assumption -symm -exfalso)
    refine FinK.pu ?_
    show Value.string _ = _
    rw [← h2, hn]
    congr 1
    exact str_ext hn
  · have h0 : s'.size = l.length + 1 := by rw [← hsl, hn]; simp
    have hb : s'.data.toList[(Int.toNat 0)]? = some c := by rw [hn]; rfl
    have hx : (s'.extract (Int.toNat 1) (Int.toNat (s'.size : Int))).data.toList = l := by rw [Lib.extract_data, hn, h0]; simp
    have hxs : (s'.extract (Int.toNat 1) (Int.toNat (s'.size : Int))).size = l.length := by rw [← str_len, hx]
    have hr : lstrip (c :: l) = if alnum c then lstrip l else c :: l := by unfold lstrip; rw [List.dropWhile_cons]
    have hlt := c.toNat_lt
    by_cases hc : alnum c = true
    · rw [if_pos hc, ← hn] at hr
      conv => whnf
      repeat' (first
 | with_reducible ((first | refine r_seq (fun KS hS => ?_) | (refine hS _ _ ?_; clear hS KS) | (refine hA _ ?_; clear hA KA) | (refine hB _ ?_; clear hB KB) | refine r_block ?_))
 | ((with_reducible (first | refine r_region ?_ | refine r_cond (fun KA hA KB hB => ?_) | refine r_ret ?_ | refine r_skip ?_ | refine And.intro rfl ?_)); conv => whnf)
 | (apply in331; rfl; rfl; rfl; intro A; conv => whnf)
 | ((with_reducible refine OpK.id ?_); (first | refine OpK.sIx (b := c) rfl rfl rfl rfl rfl (by omega) hb ?_ | (refine OpK.ixP rfl rfl rfl rfl rfl rfl (by omega) (by show _ < (256 : Int); omega) ?_) | (refine OpK.ldp rfl rfl (h.pc' c) (List.cons_ne_nil _ _) ?_; rw [hc]) | refine OpK.slS rfl rfl rfl rfl ?_); conv => whnf)
 | (refine ⟨by omega, by omega, by omega, ?_⟩; conv => whnf)
 | (refine hL (s'.extract (Int.toNat 1) (Int.toNat (s'.size : Int))) _ _ ⟨by omega, by rw [hx, ← hr, h2]⟩ (by omega) ?_ (HSub.refl _); repeat' (first | exact Sub.nil | (refine Sub.cons rfl rfl ?_)))
 | (refine if_decT (by omega) ?_; conv => whnf)
 | with_reducible apply_assumption -symm -exfalso)
    · rw [if_neg hc, ← hn] at hr
      rw [Bool.not_eq_true] at hc
      conv => whnf
      repeat' (first
 | with_reducible ((first | refine r_seq (fun KS hS => ?_) | (refine hS _ _ ?_; clear hS KS) | (refine hA _ ?_; clear hA KA) | refine r_block ?_))
 | ((with_reducible (first | refine r_region ?_ | refine r_cond (fun KA hA KB hB => ?_) | refine r_ret ?_ | refine r_skip ?_ | refine r_exit ?_ | refine And.intro rfl ?_)); conv => whnf)
 | (apply in331; rfl; rfl; rfl; intro A; conv => whnf)
 | ((with_reducible refine OpK.id ?_); (first | refine OpK.sIx (b := c) rfl rfl rfl rfl rfl (by omega) hb ?_ | (refine OpK.ixP rfl rfl rfl rfl rfl rfl (by omega) (by show _ < (256 : Int); omega) ?_) | (refine OpK.ldp rfl rfl (h.pc' c) (List.cons_ne_nil _ _) ?_; rw [hc])); conv => whnf)
 | (refine if_decT (by omega) ?_; conv => whnf)
 | with_reducible apply_assumption -symm -exfalso)
      refine FinK.pu ?_
      show Value.string _ = _
      rw [← h2, hr]
theorem alnum_get (c : UInt8) : (denL (setL 36)).toArray[c.toNat]? = some (.bool (alnum c)) := by
  have hlt := c.toNat_lt
  rw [List.getElem?_toArray, denL_getElem?, setL_get (by omega)]
  simp only [Option.map_some, den, alnum]
  congr 3
  simp
theorem rstrip_len (l : List UInt8) : (rstrip l).length ≤ l.length := by
  unfold rstrip
  rw [List.length_reverse]
  exact Nat.le_trans (List.dropWhile_suffix _).length_le (by simp)
theorem SetAt.of {c : Cx} {ms : List Nat} {H : List Blk} {w : World} {i b : Nat} {cs : List SV} {t : Nat} (hk : Kn c.W c.S ms H w) (hm : .blk i b cs t ∈ H) (e : denL cs = denL (setL 36)) : SetAt w b := by
  have hg := hk.got hm
  rw [e] at hg
  exact ⟨(Array.getElem?_eq_some_iff.1 hg).1, _, _, _, hg, alnum_get⟩
theorem trim293 {s : ByteArray} (hs : s.size ≤ 1099511627776) (h0 : s.size ≠ 0) (w : World) : Pu Tryz.prog 293 #[.string s, .string cutS] w (.string ⟨(lstrip (rstrip s.data.toList)).toArray⟩) := by
  refine enter_sound TBok Tryz.func293 rfl rfl Tryz.ntmps293 [.v (.string s), .v (.string cutS)] (Kn.start w noS) rfl rfl ?_
  have hne : ¬ s = ⟨#[]⟩ := by rintro rfl; exact h0 rfl
  have hce : ¬ cutS = ⟨#[]⟩ := by intro e; have := congrArg ByteArray.size e; cases this
  have hcs : cutS.size = 36 := rfl
  have hrs : (ByteArray.mk (rstrip s.data.toList).toArray).size ≤ 1099511627776 := by
    have h1 := rstrip_len s.data.toList
    have h2 := str_len s
    show (rstrip s.data.toList).toArray.size ≤ _
    rw [List.size_toArray]
    omega
  conv => whnf
  repeat' (first
 | with_reducible ((first | refine r_seq (fun KS hS => ?_) | (refine hS _ _ ?_; clear hS KS) | (refine hA _ ?_; clear hA KA) | (refine hB _ ?_; clear hB KB)))
 | ((with_reducible (first | refine r_region ?_ | refine r_cond (fun KA hA KB hB => ?_) | refine r_ret ?_ | refine r_skip ?_ | refine And.intro rfl ?_ | intro b)); conv => whnf)
 | (refine if_decF hne ?_; conv => whnf)
 | ((with_reducible refine CallK.at 317 ?_); refine CallK.pu (fun w => mkset317 w) ?_; conv => whnf)
 | ((with_reducible refine CallK.at 319 ?_); refine CallK.puW (fun ms w hk => trimR319 (SetAt.of hk (by repeat (first | constructor | apply List.Mem.tail)) rfl) hs) ?_; conv => whnf)
 | ((with_reducible refine CallK.at 318 ?_); refine CallK.puW (fun ms w hk => trimL318 (SetAt.of hk (by repeat (first | constructor | apply List.Mem.tail)) rfl) hrs) ?_; conv => whnf)
 | with_reducible apply_assumption -symm -exfalso)
  exact FinK.pu rfl
theorem alnum_lt {c : UInt8} (h : alnum c = true) : c.toNat ≤ 122 := by
  have : ∀ n : Fin 256, cutL.contains (UInt8.ofNat n.val) = true → n.val ≤ 122 := by decide +kernel
  have h2 := this ⟨c.toNat, c.toNat_lt⟩
  simp only [UInt8.ofNat_toNat] at h2
  exact h2 h
theorem idx335 {s : ByteArray} (hs : s.size ≤ 1099511627776) (ha : ∀ c ∈ s.data.toList, alnum c = true) (w : World) : Pu Tryz.prog 335 #[.string s, .func (.func 295) #[] #[], .bool true] w (.int .i64 (-1)) := by
  refine enter_sound TBok Tryz.func335 rfl rfl Tryz.ntmps335 [.v (.string s), .fn 295 [], .v (.bool true)] (Kn.start w noS) rfl rfl ?_
  conv => whnf
  repeat' (first
 | with_reducible ((first | refine r_seq (fun KS hS => ?_) | (refine hS _ _ ?_; clear hS KS) | refine r_block ?_))
 | ((with_reducible (first | refine r_region ?_ | intro b)); conv => whnf)
 | ((with_reducible refine OpK.id ?_); refine OpK.rngS rfl rfl rfl rfl ?_; conv => whnf))
  refine r_loop (α := Nat) (fun _ => [(1, .fn 295 []), (2, .v (.bool true)), (10, .v (.pointer (some ⟨b, 0, none⟩)))]) (fun k => [.ext 0 (StrIt b s k)]) (fun k => k ≤ s.size) (fun k => s.size - k) 0 (Nat.zero_le _) ?_ (HSub.refl _) ?_
  · repeat' (first | exact Sub.nil | (refine Sub.cons rfl rfl ?_))
  intro k hk KL hL
  by_cases hlt : k < s.size
  · obtain ⟨ch, hch⟩ : ∃ ch, s.data.toList[k]? = some ch := ⟨_, List.getElem?_eq_getElem (by rw [str_len]; exact hlt)⟩
    have hal := ha ch (List.mem_of_getElem? hch)
    have hc := alnum_lt hal
    have hd := Go.X.decode_ascii hch (by omega)
    conv => whnf
    repeat' (first
 | with_reducible ((first | refine r_seq (fun KS hS => ?_) | (refine hS _ _ ?_; clear hS KS) | (refine hA _ ?_; clear hA KA) | (refine hB _ ?_; clear hB KB) | refine r_block ?_))
 | ((with_reducible (first | refine r_region ?_ | refine r_cond (fun KA hA KB hB => ?_) | refine r_ret ?_ | refine r_skip ?_ | refine And.intro rfl ?_)); conv => whnf)
 | (apply in295; rfl; rfl; rfl; intro A; conv => whnf)
 | ((with_reducible refine OpK.id ?_); refine OpK.nextS rfl rfl (by repeat (first | with_reducible apply At.head | apply At.tail)) (fun _ => ?_) (fun h => absurd hlt h); rw [hd]; dsimp only; conv => whnf)
 | (refine if_f (by simp; omega) ?_; conv => whnf)
 | (refine hL (k + 1) _ _ (by omega) (by omega) ?_ (HSub.refl _); repeat' (first | exact Sub.nil | (refine Sub.cons rfl rfl ?_)))
 | ((with_reducible apply OpK.more); (focus refine sok); (conv => whnf); fail_if_success guard_target =ₛ False)
 | with_reducible apply_assumption -symm -exfalso)
  · conv => whnf
    repeat' (first
 | with_reducible ((first | refine r_seq (fun KS hS => ?_) | (refine hS _ _ ?_; clear hS KS) | (refine hB _ ?_; clear hB KB)))
 | ((with_reducible (first | refine r_region ?_ | refine r_cond (fun KA hA KB hB => ?_) | refine r_ret ?_ | refine r_exit ?_)); conv => whnf)
 | ((with_reducible refine OpK.id ?_); refine OpK.nextS rfl rfl (by repeat (first | with_reducible apply At.head | apply At.tail)) (fun h => absurd h hlt) (fun h => ?_); conv => whnf)
 | with_reducible apply_assumption -symm -exfalso)
    exact FinK.pu rfl
def nameOk (s : ByteArray) : Bool := decide (1 ≤ s.size) && decide (s.size ≤ 16) && s.data.toList.all alnum
theorem dw_nil {p : UInt8 → Bool} : ∀ {l : List UInt8}, l.dropWhile p = [] ↔ ∀ c ∈ l, p c = true
  | [] => by simp
  | c :: l => by
    rw [List.dropWhile_cons]
    split
    · rename_i h
      rw [dw_nil]
      simp [h]
    · rename_i h
      simp [h]
theorem strip_nil (l : List UInt8) : lstrip (rstrip l) = [] ↔ ∀ c ∈ l, alnum c = true := by
  constructor
  · intro h
    have h1 : ∀ c ∈ rstrip l, alnum c = true := by
      have : lstrip (rstrip l) = [] := h
      unfold lstrip at this
      exact fun c hc => dw_nil.1 this c hc
    intro c hc
    have h2 : l.reverse.dropWhile alnum = [] := by
      by_cases he : l.reverse.dropWhile alnum = []
      · exact he
      · have hh := List.head_dropWhile_not (p := alnum) (l := l.reverse) he
        have hm : (l.reverse.dropWhile alnum).head he ∈ rstrip l := by
          unfold rstrip
          rw [List.mem_reverse]
          exact List.head_mem he
        rw [h1 _ hm] at hh
        cases hh
    exact dw_nil.1 h2 c (by simpa using hc)
  · intro h
    have : rstrip l = [] := by
      unfold rstrip
      rw [dw_nil.2 (fun c hc => h c (by simpa using hc))]
      rfl
    rw [this]
    rfl
theorem name218 {s : ByteArray} (hs : s.size ≤ 1099511627776) (w : World) : Pu Tryz.prog 218 #[.string s] w (.bool (nameOk s)) := by
  refine enter_sound TBok Tryz.func218 rfl rfl Tryz.ntmps218 [.v (.string s)] (Kn.start w noS) rfl rfl ?_
  by_cases h1 : 1 ≤ s.size
  · by_cases h2 : s.size ≤ 16
    · by_cases h3 : ∀ c ∈ s.data.toList, alnum c = true
      · have e : (⟨(lstrip (rstrip s.data.toList)).toArray⟩ : ByteArray) = ⟨#[]⟩ := by rw [(strip_nil _).2 h3]
        conv => whnf
        repeat' (first
 | with_reducible ((first | refine r_seq (fun KS hS => ?_) | (refine hS _ _ ?_; clear hS KS)))
 | ((with_reducible (first | refine r_region ?_ | refine r_ret ?_ | refine And.intro rfl ?_)); conv => whnf)
 | ((with_reducible refine CallK.id ?_); (first | apply in294 | apply in322); rfl; rfl; rfl; intro A; conv => whnf)
 | ((with_reducible refine CallK.at 293 ?_); refine CallK.pu (fun w => trim293 hs (by omega) w) ?_; conv => whnf)
 | (refine if_decT e ?_; conv => whnf)
 | ((with_reducible refine CallK.at 335 ?_); refine CallK.pu (fun w => idx335 hs h3 w) ?_; conv => whnf)
 | (refine if_decT (by omega) ?_; conv => whnf))
        refine FinK.pu ?_
        have h4 : s.data.toList.all alnum = true := List.all_eq_true.2 h3
        simp [den, nameOk, h1, h2, h4]
      · have e : ¬ (⟨(lstrip (rstrip s.data.toList)).toArray⟩ : ByteArray) = ⟨#[]⟩ := by
          intro e
          apply h3
          rw [← strip_nil]
          have := congrArg (fun a => a.data.toList) e
          simpa using this
        conv => whnf
        repeat' (first
 | with_reducible ((first | refine r_seq (fun KS hS => ?_) | (refine hS _ _ ?_; clear hS KS)))
 | ((with_reducible (first | refine r_region ?_ | refine r_ret ?_)); conv => whnf)
 | ((with_reducible refine CallK.at 293 ?_); refine CallK.pu (fun w => trim293 hs (by omega) w) ?_; conv => whnf)
 | (refine if_decF e ?_; conv => whnf)
 | (refine if_decT (by omega) ?_; conv => whnf))
        refine FinK.pu ?_
        have h4 : s.data.toList.all alnum = false := by
          rw [Bool.eq_false_iff]
          exact fun h => h3 (List.all_eq_true.1 h)
        simp [den, nameOk, h4]
    · conv => whnf
      repeat' (first
 | with_reducible ((first | refine r_seq (fun KS hS => ?_) | (refine hS _ _ ?_; clear hS KS)))
 | ((with_reducible (first | refine r_region ?_ | refine r_ret ?_)); conv => whnf)
 | ((first | refine if_decT (by omega) ?_ | refine if_decF (by omega) ?_); conv => whnf))
      refine FinK.pu ?_
      simp [den, nameOk, h2]
  · conv => whnf
    repeat' (first
 | with_reducible ((first | refine r_seq (fun KS hS => ?_) | (refine hS _ _ ?_; clear hS KS)))
 | ((with_reducible (first | refine r_region ?_ | refine r_ret ?_)); conv => whnf)
 | (refine if_decF (by omega) ?_; conv => whnf))
    refine FinK.pu ?_
    simp [den, nameOk, h1]
end Go.Proofs.YtbgnoibellfojaaGreatDoor

namespace Go.Proofs.YtbgnoibellfojaaGreatDoor
open Go Go.X
set_option maxRecDepth 100000
set_option maxHeartbeats 0
def EffOk (s t p : Int) : Prop := 1 ≤ s ∧ s ≤ 9999 ∧ 0 ≤ t ∧ t < 8 ∧ 1 ≤ p ∧ p ≤ 3
instance (s t p : Int) : Decidable (EffOk s t p) := inferInstanceAs (Decidable (_ ∧ _))
def ItemOk (s t p m : Int) (i : Bool) (g : Int) : Prop := 1 ≤ g ∧ g ≤ 7 ∧ ((m = 0 ∧ i = false ∧ EffOk s t p) ∨ (1 ≤ m ∧ m ≤ 64 ∧ s = 0 ∧ t = 0 ∧ p = 0))
instance (s t p m : Int) (i : Bool) (g : Int) : Decidable (ItemOk s t p m i g) := inferInstanceAs (Decidable (_ ∧ _))
theorem effOk94 {s t p : Int} (h : EffOk s t p) (w : World) : Pu Tryz.prog 94 #[.agg #[.int .i64 s, .int .i64 t, .int .i64 p]] w (.int .i64 0) := by
  obtain ⟨h1, h2, h3, h4, h5, h6⟩ := h
  refine enter_sound TBok Tryz.func94 rfl rfl Tryz.ntmps94 [.agg [.v (.int .i64 s), .v (.int .i64 t), .v (.int .i64 p)]] (Kn.start w noS) rfl rfl ?_
  conv => whnf
  repeat' (first
 | with_reducible ((first | refine r_seq (fun KS hS => ?_) | (refine hS _ _ ?_; clear hS KS) | (refine hB _ ?_; clear hB KB)))
 | ((with_reducible (first | refine r_region ?_ | refine r_cond (fun KA hA KB hB => ?_) | refine r_ret ?_ | refine r_skip ?_ | refine And.intro rfl ?_ | intro b)); conv => whnf)
 | (refine if_decF (by omega) ?_; conv => whnf)
 | with_reducible apply_assumption -symm -exfalso)
  exact FinK.pu rfl
theorem effBad94 {s t p : Int} (h : ¬ EffOk s t p) (w : World) : Pu Tryz.prog 94 #[.agg #[.int .i64 s, .int .i64 t, .int .i64 p]] w (.int .i64 2) := by
  unfold EffOk at h
  refine enter_sound TBok Tryz.func94 rfl rfl Tryz.ntmps94 [.agg [.v (.int .i64 s), .v (.int .i64 t), .v (.int .i64 p)]] (Kn.start w noS) rfl rfl ?_
  conv => whnf
  repeat' (first
 | with_reducible ((first | refine r_seq (fun KS hS => ?_) | (refine hS _ _ ?_; clear hS KS) | (refine hA _ ?_; clear hA KA)))
 | ((with_reducible (first | refine r_region ?_ | refine r_cond (fun KA hA KB hB => ?_) | refine r_ret ?_ | refine And.intro rfl ?_ | intro b)); conv => whnf)
 | (refine if_decT (by omega) ?_; conv => whnf)
 | (refine if_dec (fun h => ?_) (fun h => ?_); all_goals (conv => whnf)))
  all_goals first | exact FinK.pu rfl | (exfalso; omega)
theorem itemOk50 {s t p m : Int} {i : Bool} {g : Int} (h : ItemOk s t p m i g) (w : World) : Pu Tryz.prog 50 #[.agg #[.int .i64 s, .int .i64 t, .int .i64 p, .int .i64 m, .bool i, .int .i64 g]] w (.int .i64 0) := by
  obtain ⟨h1, h2, h3⟩ := h
  refine enter_sound TBok Tryz.func50 rfl rfl Tryz.ntmps50 [.agg [.v (.int .i64 s), .v (.int .i64 t), .v (.int .i64 p), .v (.int .i64 m), .v (.bool i), .v (.int .i64 g)]] (Kn.start w noS) rfl rfl ?_
  rcases h3 with ⟨rfl, rfl, h3⟩ | ⟨h3, h4, rfl, rfl, rfl⟩
  · conv => whnf
    repeat' (first
 | with_reducible ((first | refine r_seq (fun KS hS => ?_) | (refine hS _ _ ?_; clear hS KS) | (refine hA _ ?_; clear hA KA) | (refine hB _ ?_; clear hB KB) | refine r_block ?_))
 | ((with_reducible (first | refine r_region ?_ | refine r_cond (fun KA hA KB hB => ?_) | refine r_ret ?_ | refine And.intro rfl ?_ | intro b)); conv => whnf)
 | ((with_reducible refine CallK.at 94 ?_); refine CallK.pu (fun w => effOk94 h3 w) ?_; conv => whnf)
 | (refine if_decF (by omega) ?_; conv => whnf))
    exact FinK.pu rfl
  · conv => whnf
    repeat' (first
 | with_reducible ((first | refine r_seq (fun KS hS => ?_) | (refine hS _ _ ?_; clear hS KS) | (refine hB _ ?_; clear hB KB) | refine r_block ?_))
 | ((with_reducible (first | refine r_region ?_ | refine r_cond (fun KA hA KB hB => ?_) | refine r_ret ?_ | refine r_skip ?_ | refine And.intro rfl ?_ | intro b)); conv => whnf)
 | ((with_reducible apply OpK.more); (focus refine sok); (conv => whnf); fail_if_success guard_target =ₛ False)
 | (refine if_decF (by omega) ?_; conv => whnf)
 | with_reducible apply_assumption -symm -exfalso)
    exact FinK.pu rfl
theorem itemBad50 {s t p m : Int} {i : Bool} {g : Int} (h : ¬ ItemOk s t p m i g) (w : World) : Pu Tryz.prog 50 #[.agg #[.int .i64 s, .int .i64 t, .int .i64 p, .int .i64 m, .bool i, .int .i64 g]] w (.int .i64 2) := by
  refine enter_sound TBok Tryz.func50 rfl rfl Tryz.ntmps50 [.agg [.v (.int .i64 s), .v (.int .i64 t), .v (.int .i64 p), .v (.int .i64 m), .v (.bool i), .v (.int .i64 g)]] (Kn.start w noS) rfl rfl ?_
  unfold ItemOk at h
  by_cases h1 : 1 ≤ g
  · by_cases h2 : g ≤ 7
    · by_cases h3 : m = 0 ∧ i = false
      · obtain ⟨rfl, rfl⟩ := h3
        have he : ¬ EffOk s t p := fun he => h ⟨h1, h2, .inl ⟨rfl, rfl, he⟩⟩
        conv => whnf
        repeat' (first
 | with_reducible ((first | refine r_seq (fun KS hS => ?_) | (refine hS _ _ ?_; clear hS KS) | (refine hA _ ?_; clear hA KA) | (refine hB _ ?_; clear hB KB) | refine r_block ?_))
 | ((with_reducible (first | refine r_region ?_ | refine r_cond (fun KA hA KB hB => ?_) | refine r_ret ?_ | refine And.intro rfl ?_ | intro b)); conv => whnf)
 | ((with_reducible refine CallK.at 94 ?_); refine CallK.pu (fun w => effBad94 he w) ?_; conv => whnf)
 | (refine if_decF (by omega) ?_; conv => whnf))
        exact FinK.pu rfl
      · cases i with
        | false =>
          have h4 : ¬ m = 0 := fun e => h3 ⟨e, rfl⟩
          conv => whnf
          repeat' (first
 | with_reducible ((first | refine r_seq (fun KS hS => ?_) | (refine hS _ _ ?_; clear hS KS) | (refine hA _ ?_; clear hA KA) | (refine hB _ ?_; clear hB KB) | refine r_block ?_))
 | ((with_reducible (first | refine r_region ?_ | refine r_cond (fun KA hA KB hB => ?_) | refine r_ret ?_ | refine r_skip ?_ | refine And.intro rfl ?_ | intro b)); conv => whnf)
 | ((with_reducible apply OpK.more); (focus refine sok); (conv => whnf); fail_if_success guard_target =ₛ False)
 | (refine if_decF (by omega) ?_; conv => whnf)
 | ((first | refine if_dec (fun h => ?_) (fun h => ?_) | refine if_cond (fun h => ?_) (fun h => ?_)); all_goals (conv => whnf))
 | with_reducible apply_assumption -symm -exfalso)
          all_goals first | exact FinK.pu rfl | (exfalso; simp at *; omega)
        | true =>
          conv => whnf
          repeat' (first
 | with_reducible ((first | refine r_seq (fun KS hS => ?_) | (refine hS _ _ ?_; clear hS KS) | (refine hA _ ?_; clear hA KA) | (refine hB _ ?_; clear hB KB) | refine r_block ?_))
 | ((with_reducible (first | refine r_region ?_ | refine r_cond (fun KA hA KB hB => ?_) | refine r_ret ?_ | refine r_skip ?_ | refine And.intro rfl ?_ | intro b)); conv => whnf)
 | ((with_reducible apply OpK.more); (focus refine sok); (conv => whnf); fail_if_success guard_target =ₛ False)
 | ((first | refine if_decT (by omega) ?_ | refine if_decF (by omega) ?_); conv => whnf)
 | ((first | refine if_dec (fun h => ?_) (fun h => ?_) | refine if_cond (fun h => ?_) (fun h => ?_)); all_goals (conv => whnf))
 | with_reducible apply_assumption -symm -exfalso)
          all_goals first | exact FinK.pu rfl | (exfalso; simp at *; omega)
    · conv => whnf
      repeat' (first
 | with_reducible ((first | refine r_seq (fun KS hS => ?_) | (refine hS _ _ ?_; clear hS KS) | (refine hA _ ?_; clear hA KA) | refine r_block ?_))
 | ((with_reducible (first | refine r_region ?_ | refine r_cond (fun KA hA KB hB => ?_) | refine r_ret ?_ | refine And.intro rfl ?_ | intro b)); conv => whnf)
 | ((first | refine if_decT (by omega) ?_ | refine if_decF (by omega) ?_); conv => whnf))
      exact FinK.pu rfl
  · conv => whnf
    repeat' (first
 | with_reducible ((first | refine r_seq (fun KS hS => ?_) | (refine hS _ _ ?_; clear hS KS) | (refine hA _ ?_; clear hA KA) | refine r_block ?_))
 | ((with_reducible (first | refine r_region ?_ | refine r_cond (fun KA hA KB hB => ?_) | refine r_ret ?_ | refine And.intro rfl ?_ | intro b)); conv => whnf)
 | (refine if_decT (by omega) ?_; conv => whnf))
    exact FinK.pu rfl
def itemNum (s t p m : Int) (i : Bool) (g : Int) : Int := if m = 0 then (((s - 1) * 8 + t) * 3 + p - 1) * 7 + g else if i then (239976 + 2 * m - 1) * 7 + g else (239976 + 2 * m - 2) * 7 + g
theorem numOk70 {s t p m : Int} {i : Bool} {g : Int} (h : ItemOk s t p m i g) (w : World) : Pu Tryz.prog 70 #[.agg #[.int .i64 s, .int .i64 t, .int .i64 p, .int .i64 m, .bool i, .int .i64 g]] w (.tuple #[.int .i64 (itemNum s t p m i g), .int .i64 0]) := by
  have h' := h
  obtain ⟨h1, h2, h3⟩ := h
  refine enter_sound TBok Tryz.func70 rfl rfl Tryz.ntmps70 [.agg [.v (.int .i64 s), .v (.int .i64 t), .v (.int .i64 p), .v (.int .i64 m), .v (.bool i), .v (.int .i64 g)]] (Kn.start w noS) rfl rfl ?_
  rcases h3 with ⟨rfl, rfl, h3⟩ | ⟨h3, h4, rfl, rfl, rfl⟩
  · unfold EffOk at h3
    conv => whnf
    repeat' (first
 | with_reducible ((first | refine r_seq (fun KS hS => ?_) | (refine hS _ _ ?_; clear hS KS) | (refine hA _ ?_; clear hA KA) | (refine hB _ ?_; clear hB KB) | refine r_block ?_))
 | ((with_reducible (first | refine r_region ?_ | refine r_cond (fun KA hA KB hB => ?_) | refine r_ret ?_ | refine r_skip ?_ | refine And.intro rfl ?_ | intro b)); conv => whnf)
 | ((with_reducible refine WrapK.i64 ?_ ?_); (focus omega); conv => whnf)
 | ((with_reducible refine CallK.at 50 ?_); refine CallK.pu (fun w => itemOk50 h' w) ?_; conv => whnf)
 | with_reducible apply_assumption -symm -exfalso)
    exact FinK.pu rfl
  · have hm : ¬ m = 0 := by omega
    cases i with
    | false =>
      conv => whnf
      repeat' (first
 | with_reducible ((first | refine r_seq (fun KS hS => ?_) | (refine hS _ _ ?_; clear hS KS) | (refine hB _ ?_; clear hB KB) | refine r_block ?_))
 | ((with_reducible (first | refine r_region ?_ | refine r_cond (fun KA hA KB hB => ?_) | refine r_ret ?_ | refine r_skip ?_ | refine And.intro rfl ?_ | intro b)); conv => whnf)
 | ((with_reducible refine WrapK.i64 ?_ ?_); (focus omega); conv => whnf)
 | ((with_reducible refine CallK.at 50 ?_); refine CallK.pu (fun w => itemOk50 h' w) ?_; conv => whnf)
 | (refine if_decF (by omega) ?_; conv => whnf)
 | with_reducible apply_assumption -symm -exfalso)
      refine FinK.pu ?_
      simp [den, denL, itemNum, hm]
    | true =>
      conv => whnf
      repeat' (first
 | with_reducible ((first | refine r_seq (fun KS hS => ?_) | (refine hS _ _ ?_; clear hS KS) | (refine hA _ ?_; clear hA KA) | (refine hB _ ?_; clear hB KB) | refine r_block ?_))
 | ((with_reducible (first | refine r_region ?_ | refine r_cond (fun KA hA KB hB => ?_) | refine r_ret ?_ | refine r_skip ?_ | refine And.intro rfl ?_ | intro b)); conv => whnf)
 | ((with_reducible refine WrapK.i64 ?_ ?_); (focus omega); conv => whnf)
 | ((with_reducible refine CallK.at 50 ?_); refine CallK.pu (fun w => itemOk50 h' w) ?_; conv => whnf)
 | (refine if_decF (by omega) ?_; conv => whnf)
 | with_reducible apply_assumption -symm -exfalso)
      refine FinK.pu ?_
      simp [den, denL, itemNum, hm]
theorem fromBad75 {n : Int} (h : n < 1 ∨ 1680728 < n) (w : World) : Pu Tryz.prog 75 #[.int .i64 n] w (.tuple #[.agg #[.int .i64 0, .int .i64 0, .int .i64 0, .int .i64 0, .bool false, .int .i64 0], .int .i64 3]) := by
  refine enter_sound TBok Tryz.func75 rfl rfl Tryz.ntmps75 [.v (.int .i64 n)] (Kn.start w noS) rfl rfl ?_
  conv => whnf
  repeat' (first
 | with_reducible ((first | refine r_seq (fun KS hS => ?_) | (refine hS _ _ ?_; clear hS KS) | (refine hA _ ?_; clear hA KA)))
 | ((with_reducible (first | refine r_region ?_ | refine r_cond (fun KA hA KB hB => ?_) | refine r_ret ?_ | refine And.intro rfl ?_ | intro b)); conv => whnf)
 | (refine if_decT (by omega) ?_; conv => whnf)
 | (refine if_dec (fun h => ?_) (fun h => ?_); all_goals (conv => whnf)))
  all_goals first | exact FinK.pu rfl | (exfalso; omega)
theorem fromEff75 {n : Int} (h : 1 ≤ n ∧ n ≤ 1679832) (w : World) : Pu Tryz.prog 75 #[.int .i64 n] w (.tuple #[.agg #[.int .i64 ((n - 1) / 7 / 3 / 8 + 1), .int .i64 ((n - 1) / 7 / 3 % 8), .int .i64 ((n - 1) / 7 % 3 + 1), .int .i64 0, .bool false, .int .i64 ((n - 1) % 7 + 1)], .int .i64 0]) := by
  refine enter_sound TBok Tryz.func75 rfl rfl Tryz.ntmps75 [.v (.int .i64 n)] (Kn.start w noS) rfl rfl ?_
  conv => whnf
  repeat' (first
 | with_reducible ((first | refine r_seq (fun KS hS => ?_) | (refine hS _ _ ?_; clear hS KS) | (refine hA _ ?_; clear hA KA) | (refine hB _ ?_; clear hB KB)))
 | ((with_reducible (first | refine r_region ?_ | refine r_cond (fun KA hA KB hB => ?_) | refine r_ret ?_ | refine r_skip ?_ | refine And.intro rfl ?_ | intro b)); conv => whnf)
 | ((with_reducible refine WrapK.i64 ?_ ?_); (focus omega); conv => whnf)
 | ((with_reducible refine RemK.id ?_); refine RemK.eq (by omega) (IntWalk.rem_in _ _ (by omega)) ?_; conv => whnf)
 | ((with_reducible refine QuoK.id ?_); refine QuoK.eq (by omega) (IntWalk.i64_quo _ _ (by omega)) ?_; conv => whnf)
 | ((first | refine if_decT (by omega) ?_ | refine if_decF (by omega) ?_); conv => whnf)
 | with_reducible apply_assumption -symm -exfalso)
  all_goals exact FinK.pu rfl
theorem fromMove75 {n : Int} (h : 1679832 < n ∧ n ≤ 1680728) (w : World) : Pu Tryz.prog 75 #[.int .i64 n] w (.tuple #[.agg #[.int .i64 0, .int .i64 0, .int .i64 0, .int .i64 (((n - 1) / 7 - 239976) / 2 + 1), .bool (decide (((n - 1) / 7 - 239976) % 2 = 1)), .int .i64 ((n - 1) % 7 + 1)], .int .i64 0]) := by
  refine enter_sound TBok Tryz.func75 rfl rfl Tryz.ntmps75 [.v (.int .i64 n)] (Kn.start w noS) rfl rfl ?_
  conv => whnf
  repeat' (first
 | with_reducible ((first | refine r_seq (fun KS hS => ?_) | (refine hS _ _ ?_; clear hS KS) | (refine hB _ ?_; clear hB KB)))
 | ((with_reducible (first | refine r_region ?_ | refine r_cond (fun KA hA KB hB => ?_) | refine r_ret ?_ | refine r_skip ?_ | refine And.intro rfl ?_ | intro b)); conv => whnf)
 | ((with_reducible refine WrapK.i64 ?_ ?_); (focus omega); conv => whnf)
 | ((with_reducible refine RemK.id ?_); refine RemK.eq (by omega) (IntWalk.rem_in _ _ (by omega)) ?_; conv => whnf)
 | ((with_reducible refine QuoK.id ?_); refine QuoK.eq (by omega) (IntWalk.i64_quo _ _ (by omega)) ?_; conv => whnf)
 | (refine if_decF (by omega) ?_; conv => whnf)
 | with_reducible apply_assumption -symm -exfalso)
  all_goals exact FinK.pu rfl
def NumOk (a : Int) : Prop := -1152921504606846976 ≤ a ∧ a ≤ 1152921504606846976
theorem numOk131 {a : Int} (h : NumOk a) (w : World) : Pu Tryz.prog 131 #[.int .i64 a] w (.int .i64 0) := by
  unfold NumOk at h
  refine enter_sound TBok Tryz.func131 rfl rfl Tryz.ntmps131 [.v (.int .i64 a)] (Kn.start w noS) rfl rfl ?_
  conv => whnf
  repeat' (first
 | with_reducible ((first | refine r_seq (fun KS hS => ?_) | (refine hS _ _ ?_; clear hS KS) | (refine hB _ ?_; clear hB KB)))
 | ((with_reducible (first | refine r_region ?_ | refine r_cond (fun KA hA KB hB => ?_) | refine r_ret ?_ | refine r_skip ?_)); conv => whnf)
 | (refine if_decF (by omega) ?_; conv => whnf)
 | with_reducible apply_assumption -symm -exfalso)
  exact FinK.pu rfl
theorem numBad131 {a : Int} (h : ¬ NumOk a) (w : World) : Pu Tryz.prog 131 #[.int .i64 a] w (.int .i64 7) := by
  unfold NumOk at h
  refine enter_sound TBok Tryz.func131 rfl rfl Tryz.ntmps131 [.v (.int .i64 a)] (Kn.start w noS) rfl rfl ?_
  conv => whnf
  repeat' (first
 | with_reducible ((first | refine r_seq (fun KS hS => ?_) | (refine hS _ _ ?_; clear hS KS) | (refine hA _ ?_; clear hA KA)))
 | ((with_reducible (first | refine r_region ?_ | refine r_cond (fun KA hA KB hB => ?_) | refine r_ret ?_)); conv => whnf)
 | (refine if_decT (by omega) ?_; conv => whnf)
 | (refine if_dec (fun h => ?_) (fun h => ?_); all_goals (conv => whnf)))
  all_goals first | exact FinK.pu rfl | (exfalso; omega)
end Go.Proofs.YtbgnoibellfojaaGreatDoor

namespace Go.Proofs.YtbgnoibellfojaaGreatDoor
open Go Go.X
set_option maxRecDepth 100000
set_option maxHeartbeats 0
section
variable {c : Cx}
theorem CallQ.puS {g : FuncId} {l : List SV} {H : List Blk} {k : SV → Prop} (s : SV) (h : ∀ w, Pu c.P g (denL l).toArray w (den s)) (hn : k s) : CallQ c g l H k :=
  ⟨s, fun ms w hk => CT.mono (h w) fun e w' ⟨he, hb⟩ => ⟨he, Kn.below hk hb⟩, hn⟩
theorem CallK.puS {g : FuncId} {l : List SV} {H : List Blk} {nx : K1} (s : SV) (h : ∀ w, Pu c.P g (denL l).toArray w (den s)) (hn : nx s H) : CallK c g l H nx :=
  CallK.pure s (fun _ w _ => h w) hn
end
theorem acc217 {b off : Nat} (w : World) : Pu Tryz.prog 217 #[.pointer (some ⟨b, off, none⟩)] w (.pointer (some ⟨b, off + 6, none⟩)) := by
  refine enter_sound TBok Tryz.func217 rfl rfl Tryz.ntmps217 [.loc b 0 off] (Kn.start w noS) rfl rfl ?_
  conv => whnf
  repeat' (first
 | with_reducible ((first | refine r_seq (fun KS hS => ?_) | (refine hS _ _ ?_; clear hS KS)))
 | ((with_reducible (first | refine r_region ?_ | refine r_ret ?_)); conv => whnf))
  exact FinK.pu rfl
theorem aq217 {n : Nat} {W : World} {S : Nat → Prop} {r : Option Nat} {b i off : Nat} {H : List Blk} {k : SV → Prop} (h : k (.loc b i (off + 6))) : CallQ ⟨Tryz.prog, TB, n, W, S, r, TBok⟩ 217 [.loc b i off] H k :=
  CallQ.puS (.loc b i (off + 6)) (fun w => acc217 w) h
theorem ak217 {n : Nat} {W : World} {S : Nat → Prop} {r : Option Nat} {b i off : Nat} {H : List Blk} {nx : K1} (h : nx (.loc b i (off + 6)) H) : CallK ⟨Tryz.prog, TB, n, W, S, r, TBok⟩ 217 [.loc b i off] H nx :=
  CallK.puS (.loc b i (off + 6)) (fun w => acc217 w) h
theorem acc228 {b off : Nat} (w : World) : Pu Tryz.prog 228 #[.pointer (some ⟨b, off, none⟩)] w (.pointer (some ⟨b, off + 8, none⟩)) := by
  refine enter_sound TBok Tryz.func228 rfl rfl Tryz.ntmps228 [.loc b 0 off] (Kn.start w noS) rfl rfl ?_
  conv => whnf
  repeat' (first
 | with_reducible ((first | refine r_seq (fun KS hS => ?_) | (refine hS _ _ ?_; clear hS KS)))
 | ((with_reducible (first | refine r_region ?_ | refine r_ret ?_)); conv => whnf))
  exact FinK.pu rfl
theorem aq228 {n : Nat} {W : World} {S : Nat → Prop} {r : Option Nat} {b i off : Nat} {H : List Blk} {k : SV → Prop} (h : k (.loc b i (off + 8))) : CallQ ⟨Tryz.prog, TB, n, W, S, r, TBok⟩ 228 [.loc b i off] H k :=
  CallQ.puS (.loc b i (off + 8)) (fun w => acc228 w) h
theorem ak228 {n : Nat} {W : World} {S : Nat → Prop} {r : Option Nat} {b i off : Nat} {H : List Blk} {nx : K1} (h : nx (.loc b i (off + 8)) H) : CallK ⟨Tryz.prog, TB, n, W, S, r, TBok⟩ 228 [.loc b i off] H nx :=
  CallK.puS (.loc b i (off + 8)) (fun w => acc228 w) h
theorem acc227 {b off : Nat} (w : World) : Pu Tryz.prog 227 #[.pointer (some ⟨b, off, none⟩)] w (.pointer (some ⟨b, off + 1, none⟩)) := by
  refine enter_sound TBok Tryz.func227 rfl rfl Tryz.ntmps227 [.loc b 0 off] (Kn.start w noS) rfl rfl ?_
  conv => whnf
  repeat' (first
 | with_reducible ((first | refine r_seq (fun KS hS => ?_) | (refine hS _ _ ?_; clear hS KS)))
 | ((with_reducible (first | refine r_region ?_ | refine r_ret ?_)); conv => whnf))
  exact FinK.pu rfl
theorem aq227 {n : Nat} {W : World} {S : Nat → Prop} {r : Option Nat} {b i off : Nat} {H : List Blk} {k : SV → Prop} (h : k (.loc b i (off + 1))) : CallQ ⟨Tryz.prog, TB, n, W, S, r, TBok⟩ 227 [.loc b i off] H k :=
  CallQ.puS (.loc b i (off + 1)) (fun w => acc227 w) h
theorem ak227 {n : Nat} {W : World} {S : Nat → Prop} {r : Option Nat} {b i off : Nat} {H : List Blk} {nx : K1} (h : nx (.loc b i (off + 1)) H) : CallK ⟨Tryz.prog, TB, n, W, S, r, TBok⟩ 227 [.loc b i off] H nx :=
  CallK.puS (.loc b i (off + 1)) (fun w => acc227 w) h
theorem acc239 {b off : Nat} (w : World) : Pu Tryz.prog 239 #[.pointer (some ⟨b, off, none⟩)] w (.pointer (some ⟨b, off + 2, none⟩)) := by
  refine enter_sound TBok Tryz.func239 rfl rfl Tryz.ntmps239 [.loc b 0 off] (Kn.start w noS) rfl rfl ?_
  conv => whnf
  repeat' (first
 | with_reducible ((first | refine r_seq (fun KS hS => ?_) | (refine hS _ _ ?_; clear hS KS)))
 | ((with_reducible (first | refine r_region ?_ | refine r_ret ?_)); conv => whnf))
  exact FinK.pu rfl
theorem aq239 {n : Nat} {W : World} {S : Nat → Prop} {r : Option Nat} {b i off : Nat} {H : List Blk} {k : SV → Prop} (h : k (.loc b i (off + 2))) : CallQ ⟨Tryz.prog, TB, n, W, S, r, TBok⟩ 239 [.loc b i off] H k :=
  CallQ.puS (.loc b i (off + 2)) (fun w => acc239 w) h
theorem ak239 {n : Nat} {W : World} {S : Nat → Prop} {r : Option Nat} {b i off : Nat} {H : List Blk} {nx : K1} (h : nx (.loc b i (off + 2)) H) : CallK ⟨Tryz.prog, TB, n, W, S, r, TBok⟩ 239 [.loc b i off] H nx :=
  CallK.puS (.loc b i (off + 2)) (fun w => acc239 w) h
theorem acc249 {b off : Nat} (w : World) : Pu Tryz.prog 249 #[.pointer (some ⟨b, off, none⟩)] w (.pointer (some ⟨b, off + 11, none⟩)) := by
  refine enter_sound TBok Tryz.func249 rfl rfl Tryz.ntmps249 [.loc b 0 off] (Kn.start w noS) rfl rfl ?_
  conv => whnf
  repeat' (first
 | with_reducible ((first | refine r_seq (fun KS hS => ?_) | (refine hS _ _ ?_; clear hS KS)))
 | ((with_reducible (first | refine r_region ?_ | refine r_ret ?_)); conv => whnf))
  exact FinK.pu rfl
theorem aq249 {n : Nat} {W : World} {S : Nat → Prop} {r : Option Nat} {b i off : Nat} {H : List Blk} {k : SV → Prop} (h : k (.loc b i (off + 11))) : CallQ ⟨Tryz.prog, TB, n, W, S, r, TBok⟩ 249 [.loc b i off] H k :=
  CallQ.puS (.loc b i (off + 11)) (fun w => acc249 w) h
theorem ak249 {n : Nat} {W : World} {S : Nat → Prop} {r : Option Nat} {b i off : Nat} {H : List Blk} {nx : K1} (h : nx (.loc b i (off + 11)) H) : CallK ⟨Tryz.prog, TB, n, W, S, r, TBok⟩ 249 [.loc b i off] H nx :=
  CallK.puS (.loc b i (off + 11)) (fun w => acc249 w) h
theorem acc236 {b off : Nat} (w : World) : Pu Tryz.prog 236 #[.pointer (some ⟨b, off, none⟩)] w (.pointer (some ⟨b, off + 23, none⟩)) := by
  refine enter_sound TBok Tryz.func236 rfl rfl Tryz.ntmps236 [.loc b 0 off] (Kn.start w noS) rfl rfl ?_
  conv => whnf
  repeat' (first
 | with_reducible ((first | refine r_seq (fun KS hS => ?_) | (refine hS _ _ ?_; clear hS KS)))
 | ((with_reducible (first | refine r_region ?_ | refine r_ret ?_)); conv => whnf))
  exact FinK.pu rfl
theorem aq236 {n : Nat} {W : World} {S : Nat → Prop} {r : Option Nat} {b i off : Nat} {H : List Blk} {k : SV → Prop} (h : k (.loc b i (off + 23))) : CallQ ⟨Tryz.prog, TB, n, W, S, r, TBok⟩ 236 [.loc b i off] H k :=
  CallQ.puS (.loc b i (off + 23)) (fun w => acc236 w) h
theorem ak236 {n : Nat} {W : World} {S : Nat → Prop} {r : Option Nat} {b i off : Nat} {H : List Blk} {nx : K1} (h : nx (.loc b i (off + 23)) H) : CallK ⟨Tryz.prog, TB, n, W, S, r, TBok⟩ 236 [.loc b i off] H nx :=
  CallK.puS (.loc b i (off + 23)) (fun w => acc236 w) h
end Go.Proofs.YtbgnoibellfojaaGreatDoor

namespace Go.Proofs.YtbgnoibellfojaaGreatDoor
open Go Go.X
set_option maxRecDepth 100000
theorem in103 : InSt 103 Tryz.f103 58 := InSt.mk' Tryz.func103 rfl Tryz.ntmps103
theorem in143 : InSt 143 Tryz.f143 2 := InSt.mk' Tryz.func143 rfl Tryz.ntmps143
theorem in144 : InSt 144 Tryz.f144 2 := InSt.mk' Tryz.func144 rfl Tryz.ntmps144
theorem in145 : InSt 145 Tryz.f145 2 := InSt.mk' Tryz.func145 rfl Tryz.ntmps145
theorem in147 : InSt 147 Tryz.f147 2 := InSt.mk' Tryz.func147 rfl Tryz.ntmps147
theorem in148 : InSt 148 Tryz.f148 2 := InSt.mk' Tryz.func148 rfl Tryz.ntmps148
theorem in149 : InSt 149 Tryz.f149 2 := InSt.mk' Tryz.func149 rfl Tryz.ntmps149
theorem in216 : InSt 216 Tryz.f216 13 := InSt.mk' Tryz.func216 rfl Tryz.ntmps216
theorem in226 : InSt 226 Tryz.f226 13 := InSt.mk' Tryz.func226 rfl Tryz.ntmps226
theorem in210 : InSt 210 Tryz.f210 9 := InSt.mk' Tryz.func210 rfl Tryz.ntmps210
theorem in288 : InSt 288 Tryz.f288 12 := InSt.mk' Tryz.func288 rfl Tryz.ntmps288
theorem in220 : InSt 220 Tryz.f220 16 := InSt.mk' Tryz.func220 rfl Tryz.ntmps220
theorem in297 : InSt 297 Tryz.f297 14 := InSt.mk' Tryz.func297 rfl Tryz.ntmps297
theorem in229 : InSt 229 Tryz.f229 9 := InSt.mk' Tryz.func229 rfl Tryz.ntmps229
theorem in289 : InSt 289 Tryz.f289 12 := InSt.mk' Tryz.func289 rfl Tryz.ntmps289
theorem in215 : InSt 215 Tryz.f215 6 := InSt.mk' Tryz.func215 rfl Tryz.ntmps215
theorem in292 : InSt 292 Tryz.f292 7 := InSt.mk' Tryz.func292 rfl Tryz.ntmps292
theorem in225 : InSt 225 Tryz.f225 5 := InSt.mk' Tryz.func225 rfl Tryz.ntmps225
theorem in302 : InSt 302 Tryz.f302 7 := InSt.mk' Tryz.func302 rfl Tryz.ntmps302
theorem in235 : InSt 235 Tryz.f235 6 := InSt.mk' Tryz.func235 rfl Tryz.ntmps235
theorem in29 : InSt 29 Tryz.f29 93 := InSt.mk' Tryz.func29 rfl Tryz.ntmps29
theorem in66 : InSt 66 Tryz.f66 31 := InSt.mk' Tryz.func66 rfl Tryz.ntmps66
theorem in112 : InSt 112 Tryz.f112 26 := InSt.mk' Tryz.func112 rfl Tryz.ntmps112
theorem in250 : InSt 250 Tryz.f250 9 := InSt.mk' Tryz.func250 rfl Tryz.ntmps250
theorem in211 : InSt 211 Tryz.f211 28 := InSt.mk' Tryz.func211 rfl Tryz.ntmps211
theorem in221 : InSt 221 Tryz.f221 10 := InSt.mk' Tryz.func221 rfl Tryz.ntmps221
theorem in290 : InSt 290 Tryz.f290 11 := InSt.mk' Tryz.func290 rfl Tryz.ntmps290
theorem in300 : InSt 300 Tryz.f300 13 := InSt.mk' Tryz.func300 rfl Tryz.ntmps300
theorem in212 : InSt 212 Tryz.f212 22 := InSt.mk' Tryz.func212 rfl Tryz.ntmps212
theorem in222 : InSt 222 Tryz.f222 9 := InSt.mk' Tryz.func222 rfl Tryz.ntmps222
theorem in232 : InSt 232 Tryz.f232 16 := InSt.mk' Tryz.func232 rfl Tryz.ntmps232
end Go.Proofs.YtbgnoibellfojaaGreatDoor

namespace Go.Proofs.YtbgnoibellfojaaGreatDoor
open Go Go.X
set_option maxRecDepth 100000
set_option maxHeartbeats 0
theorem checkEff102 {s t p d : Int} {k : ByteArray} (h : EffOk s t p) (hk : nameOk k = true) (hks : k.size ≤ 1099511627776) (hd : d ≠ 0) (hn : NumOk d) (w : World) : Pu Tryz.prog 102 #[.agg #[.int .i64 1, .int .i64 0, .int .i64 0, .int .i64 s, .int .i64 t, .int .i64 p, .string k, .int .i64 d, .int .i64 0, .string ⟨#[]⟩, .string ⟨#[]⟩, .int .i64 0, .string ⟨#[]⟩, .int .i64 0, .int .i64 0, .slice none 0 0, .int .i64 0, .int .i64 0, .int .i64 0, .int .i64 0, .bool false, .int .i64 0, .int .i64 0, .string ⟨#[]⟩]] w (.int .i64 0) := by
  refine enter_sound TBok Tryz.func102 rfl rfl Tryz.ntmps102 [.agg [.v (.int .i64 1), .v (.int .i64 0), .v (.int .i64 0), .v (.int .i64 s), .v (.int .i64 t), .v (.int .i64 p), .v (.string k), .v (.int .i64 d), .v (.int .i64 0), .v (.string ⟨#[]⟩), .v (.string ⟨#[]⟩), .v (.int .i64 0), .v (.string ⟨#[]⟩), .v (.int .i64 0), .v (.int .i64 0), .v (.slice none 0 0), .v (.int .i64 0), .v (.int .i64 0), .v (.int .i64 0), .v (.int .i64 0), .v (.bool false), .v (.int .i64 0), .v (.int .i64 0), .v (.string ⟨#[]⟩)]] (Kn.start w noS) rfl rfl ?_
  conv => whnf
  repeat' (first
 | with_reducible ((first | refine r_seq (fun KS hS => ?_) | (refine hS _ _ ?_; clear hS KS) | (refine hA _ ?_; clear hA KA) | (refine hB _ ?_; clear hB KB) | refine r_block ?_))
 | ((with_reducible (first | refine r_region ?_ | refine r_cond (fun KA hA KB hB => ?_) | refine r_ret ?_ | refine r_skip ?_ | refine r_exit ?_ | refine And.intro rfl ?_ | intro b)); conv => whnf)
 | ((with_reducible refine WrapK.i64 ?_ ?_); (focus omega); conv => whnf)
 | ((with_reducible refine CallK.id ?_); (first | apply in103 | apply in143 | apply in144 | apply in145 | apply in216 | apply in210 | apply in288 | apply in220 | apply in215 | apply in292 | apply in225 | apply in29 | apply in66 | apply in112); rfl; rfl; rfl; intro A; conv => whnf)
 | (refine aq217 ?_; conv => whnf)
 | (refine ak217 ?_; conv => whnf)
 | ((with_reducible refine CallK.at 94 ?_); refine CallK.pu (fun w => effOk94 h w) ?_; conv => whnf)
 | ((with_reducible refine CallQ.at 218 ?_); refine CallQ.pu (fun w => name218 hks w) ?_; rw [hk]; conv => whnf)
 | ((with_reducible refine CallK.at 131 ?_); refine CallK.pu (fun w => numOk131 hn w) ?_; conv => whnf)
 | ((with_reducible apply OpK.more); (focus refine sok); (conv => whnf); fail_if_success guard_target =ₛ False)
 | with_reducible (first | refine Rounds.step (fun KL hL => ?_) | refine r_rounds 100 ?_)
 | (apply r_quiet; refine mixed; kernel_rfl; kernel_rfl; kernel_rfl; conv => whnf)
 | (refine if_ndecT (by omega) ?_; conv => whnf)
 | with_reducible apply_assumption -symm -exfalso)
  exact FinK.pu rfl
theorem within298 {a lo hi : Int} (h : lo ≤ a ∧ a ≤ hi) (w : World) : Pu Tryz.prog 298 #[.int .i64 a, .int .i64 lo, .int .i64 hi] w (.bool true) := by
  refine enter_sound TBok Tryz.func298 rfl rfl Tryz.ntmps298 [.v (.int .i64 a), .v (.int .i64 lo), .v (.int .i64 hi)] (Kn.start w noS) rfl rfl ?_
  conv => whnf
  repeat' (first
 | with_reducible ((first | refine r_seq (fun KS hS => ?_) | (refine hS _ _ ?_; clear hS KS)))
 | ((with_reducible (first | refine r_region ?_ | refine r_ret ?_)); conv => whnf)
 | (refine if_decT (by omega) ?_; conv => whnf))
  refine FinK.pu ?_
  simp [den]; omega
theorem data237 {s : ByteArray} (h : s.size ≤ 65536) (w : World) : Pu Tryz.prog 237 #[.string s] w (.bool true) := by
  refine enter_sound TBok Tryz.func237 rfl rfl Tryz.ntmps237 [.v (.string s)] (Kn.start w noS) rfl rfl ?_
  conv => whnf
  repeat' (first
 | with_reducible ((first | refine r_seq (fun KS hS => ?_) | (refine hS _ _ ?_; clear hS KS)))
 | ((with_reducible (first | refine r_region ?_ | refine r_ret ?_)); conv => whnf))
  refine FinK.pu ?_
  simp [den]; omega
end Go.Proofs.YtbgnoibellfojaaGreatDoor

namespace Go.Proofs.YtbgnoibellfojaaGreatDoor
open Go Go.X
set_option maxRecDepth 100000
set_option maxHeartbeats 0
theorem WrA.fresh {p : Nat} {w : World} {S : Nat → Prop} (h : (blkA p [.bool true, .slice none 0 0] 209).holds w S) (hS : ∀ k, S k → k < w.heap.size) : (WrA p []).holds w (fun k => k = p) :=
  ⟨none, 0, by
    have h1 : Holds w ([] : List Blk) (fun _ => False) := .nil
    have h2 : Holds w [.ext 11 (SlA 5 1 none 0 0 (bcells []))] (fun k => False ∨ False) := .cons (S := fun _ => False) (x := .ext 11 (SlA 5 1 none 0 0 (bcells []))) (.inl ⟨rfl, rfl, rfl, rfl⟩) (fun _ h => h.elim) h1 (fun _ h _ => h)
    have h3 : Holds w (.blk 10 p [.v (.bool true), .v (.slice none 0 0)] 209 :: [.ext 11 (SlA 5 1 none 0 0 (bcells []))]) (fun k => k = p ∨ (False ∨ False)) :=
      .cons (S := fun k => k = p) (x := .blk 10 p [.v (.bool true), .v (.slice none 0 0)] 209) ⟨rfl, h.2⟩ (fun k hk => hk ▸ hS p h.1) h2 (fun _ _ h => h.elim id id)
    have e : (fun k => k = p ∨ (False ∨ False)) = (fun k => k = p) := by funext k; simp
    rw [e] at h3
    exact h3⟩
theorem uint83n {p n : Nat} (hn : n < 2 ^ 64) (w : World) : Fr Tryz.prog 83 #[pv p, .int .u64 n] w (blkA p [.bool true, .slice none 0 0] 209) (.tuple #[]) (WrA p (uvar n)) := by
  intro S hS hlt
  refine (uint83 (l := []) hn (Nat.zero_le _) w (fun k => k = p) (WrA.fresh hS hlt) (fun k hk => hk ▸ hlt p hS.1)).mono ?_
  rintro e w' ⟨h1, h2, S', h3, h4⟩
  refine ⟨h1, ⟨h2.os, h2.tape, h2.output, h2.size, fun k hk hn => h2.old k hk fun e => hn (e ▸ hS.1)⟩, S', h3, fun k hk => ⟨(h4 k hk).1, (h4 k hk).2.imp (fun e => by rw [show k = p from e]; exact hS.1) id⟩⟩
theorem limited86 {p : Nat} {l : List UInt8} (hl : l.length ≤ 65536) (w : World) : FrZ Tryz.prog 86 #[pv p] w (WrA p l) (fun z : Option Addr × Nat => .tuple #[.slice z.1 l.length z.2, .int .i64 0]) (fun z => SlA 5 1 z.1 l.length z.2 (bcells l)) := by
  refine enter_frZ TBok (H := [.ext 12 (WrA p l)]) one_foot Tryz.func86 rfl rfl Tryz.ntmps86 [.loc p 10 0] rfl rfl ?_
  intro S _ _
  refine Run.open (α := Option Addr × Nat) (A := []) (B := []) (fun z => [.blk 10 p [.v (.bool true), .v (.slice z.1 l.length z.2)] 209, .ext 11 (SlA 5 1 z.1 l.length z.2 (bcells l))]) (fun w S h => WrA.open (X := []) (Y := []) h) ?_
  rintro ⟨a, cap⟩
  dsimp only
  conv => whnf
  repeat' (first
 | with_reducible ((first | refine r_seq (fun KS hS => ?_) | (refine hS _ _ ?_; clear hS KS) | (refine hB _ ?_; clear hB KB)))
 | ((with_reducible (first | refine r_region ?_ | refine r_cond (fun KA hA KB hB => ?_) | refine r_ret ?_ | refine r_skip ?_ | refine And.intro rfl ?_ | intro b)); conv => whnf)
 | ((with_reducible refine CallK.id ?_); (first | apply in134 | apply in135); rfl; rfl; rfl; intro A; conv => whnf)
 | ((with_reducible refine CallK.id ?_); refine CallK.fresh (fun ms w hk => clone191 (l := l) (Sees.rd (Sees.ext (by repeat (first | with_reducible apply At.head | apply At.tail))) hk) (by omega)) ?_; conv => whnf)
 | ((with_reducible apply OpK.more); (focus refine sok); (conv => whnf); fail_if_success guard_target =ₛ False)
 | (refine if_decF (by omega) ?_; conv => whnf)
 | with_reducible apply_assumption -symm -exfalso)
  exact FinK.frZ (i := 0) b rfl (HSub.ext (fun _ _ h => h) (HSub.drop (HSub.drop HSub.nil)))
theorem encEff62 {s t p : Nat} {k : ByteArray} {d : Int} (h : EffOk s t p) (hk : nameOk k = true) (hks : k.size ≤ 16) (hd : d ≠ 0) (hn : NumOk d) (hl : (uvar 1 ++ uvar s ++ uvar t ++ uvar p ++ uvar k.size ++ k.data.toList ++ uvar (zigN d)).length ≤ 65536) (w : World) : FrZ Tryz.prog 62 #[.agg #[.int .i64 1, .int .i64 0, .int .i64 0, .int .i64 (s : Nat), .int .i64 (t : Nat), .int .i64 (p : Nat), .string k, .int .i64 d, .int .i64 0, .string ⟨#[]⟩, .string ⟨#[]⟩, .int .i64 0, .string ⟨#[]⟩, .int .i64 0, .int .i64 0, .slice none 0 0, .int .i64 0, .int .i64 0, .int .i64 0, .int .i64 0, .bool false, .int .i64 0, .int .i64 0, .string ⟨#[]⟩]] w emp (fun z : Option Addr × Nat => .tuple #[.slice z.1 (uvar 1 ++ uvar s ++ uvar t ++ uvar p ++ uvar k.size ++ k.data.toList ++ uvar (zigN d)).length z.2, .int .i64 0]) (fun z => SlA 5 1 z.1 (uvar 1 ++ uvar s ++ uvar t ++ uvar p ++ uvar k.size ++ k.data.toList ++ uvar (zigN d)).length z.2 (bcells (uvar 1 ++ uvar s ++ uvar t ++ uvar p ++ uvar k.size ++ k.data.toList ++ uvar (zigN d)))) := by
  refine enter_frZ TBok (H := []) emp_foot Tryz.func62 rfl rfl Tryz.ntmps62 [.agg [.v (.int .i64 1), .v (.int .i64 0), .v (.int .i64 0), .v (.int .i64 (s : Nat)), .v (.int .i64 (t : Nat)), .v (.int .i64 (p : Nat)), .v (.string k), .v (.int .i64 d), .v (.int .i64 0), .v (.string ⟨#[]⟩), .v (.string ⟨#[]⟩), .v (.int .i64 0), .v (.string ⟨#[]⟩), .v (.int .i64 0), .v (.int .i64 0), .v (.slice none 0 0), .v (.int .i64 0), .v (.int .i64 0), .v (.int .i64 0), .v (.int .i64 0), .v (.bool false), .v (.int .i64 0), .v (.int .i64 0), .v (.string ⟨#[]⟩)]] rfl rfl ?_
  intro S _ _
  have h' := h
  have hn' := hn
  unfold EffOk at h'
  unfold NumOk at hn'
  have hz := zigN_lt (a := d) (by omega)
  have hkl := str_len k
  have hu0 := uvar_len64 (n := 1) (by omega)
  have hu1 := uvar_len64 (n := s) (by omega)
  have hu2 := uvar_len64 (n := t) (by omega)
  have hu3 := uvar_len64 (n := p) (by omega)
  have hu4 := uvar_len64 (n := k.size) (by omega)
  have hu5 := uvar_len64 (n := zigN d) (by omega)
  conv => whnf
  repeat' (first
 | with_reducible ((first | refine r_seq (fun KS hS => ?_) | (refine hS _ _ ?_; clear hS KS) | (refine hA _ ?_; clear hA KA) | (refine hB _ ?_; clear hB KB) | refine r_block ?_))
 | ((with_reducible (first | refine r_region ?_ | refine r_cond (fun KA hA KB hB => ?_) | refine r_ret ?_ | refine r_skip ?_ | refine r_exit ?_ | refine And.intro rfl ?_ | intro b)); conv => whnf)
 | ((with_reducible refine WrapK.i64 ?_ ?_); (focus omega); conv => whnf)
 | ((with_reducible refine CallK.at 102 ?_); refine CallK.pu (fun w => checkEff102 h hk (by omega) hd hn w) ?_; conv => whnf)
 | ((with_reducible refine CallK.id ?_); (first | apply in103 | apply in143 | apply in144 | apply in145 | apply in216 | apply in82 | apply in84 | apply in211 | apply in289 | apply in221); rfl; rfl; rfl; intro A; conv => whnf)
 | (refine ak217 ?_; conv => whnf)
 | ((with_reducible refine WrapK.id ?_); refine WrapK.eq (IntWalk.u64_in _ (by omega)) ?_; conv => whnf)
 | ((with_reducible refine CallK.id ?_); (first | refine CallK.frB At.head (fun w => uint83n (n := 1) (by omega) w) ?_ | (refine CallK.frE (by repeat (first | with_reducible apply At.head | apply At.tail)) (fun w => text85 (by omega) (by first | omega | (simp only [List.length_append, List.length_nil]; omega)) w) ?_)); conv => whnf)
 | ((with_reducible refine CallK.at 133 ?_); refine CallK.pu (fun w => zig133 (by omega) w) ?_; conv => whnf)
 | ((with_reducible refine CallK.id ?_); refine CallK.frZE (by repeat (first | with_reducible apply At.head | apply At.tail)) (fun w => limited86 hl w) ?_; conv => whnf)
 | ((with_reducible refine CallK.id ?_); (first | (refine CallK.frE (by repeat (first | with_reducible apply At.head | apply At.tail)) (fun w => uint83 (n := zigN d) hz (by first | omega | (simp only [List.length_append, List.length_nil]; omega)) w) ?_) | (refine CallK.frE (by repeat (first | with_reducible apply At.head | apply At.tail)) (fun w => uint83 (n := s) (by omega) (by first | omega | (simp only [List.length_append, List.length_nil]; omega)) w) ?_) | (refine CallK.frE (by repeat (first | with_reducible apply At.head | apply At.tail)) (fun w => uint83 (n := t) (by omega) (by first | omega | (simp only [List.length_append, List.length_nil]; omega)) w) ?_) | (refine CallK.frE (by repeat (first | with_reducible apply At.head | apply At.tail)) (fun w => uint83 (n := p) (by omega) (by first | omega | (simp only [List.length_append, List.length_nil]; omega)) w) ?_)); conv => whnf)
 | ((with_reducible apply OpK.more); (focus refine sok); (conv => whnf); fail_if_success guard_target =ₛ False)
 | with_reducible (first | refine Rounds.step (fun KL hL => ?_) | refine r_rounds 100 ?_)
 | with_reducible apply_assumption -symm -exfalso)
  exact FinK.frZ b rfl (HSub.pick (by repeat (first | with_reducible apply At.head | apply At.tail)))
end Go.Proofs.YtbgnoibellfojaaGreatDoor

namespace Go.Proofs.YtbgnoibellfojaaGreatDoor
open Go Go.X
set_option maxRecDepth 100000
set_option maxHeartbeats 0
theorem numG_uvar (n : Nat) : ∀ (i a : Nat) (r : List UInt8), (i = 0 ∨ n ≠ 0) → i ≤ 9 → n * 2 ^ (7 * i) < 2 ^ 64 → numG i a (uvar n ++ r) = (a + n * 2 ^ (7 * i), i + (uvar n).length) := by
  induction n using Nat.strongRecOn with
  | _ n ih =>
    intro i a r h0 hi hn
    by_cases h : n < 128
    · rw [uvar_lt h]
      have hc : (UInt8.ofNat n).toNat = n := by simp; omega
      have h9 : i = 9 → n ≤ 1 := by
        rintro rfl
        by_cases h2 : n ≤ 1
        · exact h2
        · have := Nat.mul_le_mul_right (2 ^ (7 * 9)) (show 2 ≤ n by omega)
          exact absurd (Nat.lt_of_le_of_lt this hn) (by decide)
      show numG i a (UInt8.ofNat n :: r) = _
      rw [numG, hc, if_neg (by omega), if_pos h, Nat.mod_eq_of_lt h]
      rfl
    · rw [uvar_ge h]
      have hc : (UInt8.ofNat (n % 128 + 128)).toNat = n % 128 + 128 := by simp; omega
      have h9 : i ≠ 9 := by
        rintro rfl
        have := Nat.mul_le_mul_right (2 ^ (7 * 9)) (show 2 ≤ n by omega)
        exact absurd (Nat.lt_of_le_of_lt this hn) (by decide)
      have e1 : 2 ^ (7 * (i + 1)) = 128 * 2 ^ (7 * i) := by rw [show 7 * (i + 1) = 7 + 7 * i by omega, Nat.pow_add]
      have e2 : n / 128 * 2 ^ (7 * (i + 1)) + n % 128 * 2 ^ (7 * i) = n * 2 ^ (7 * i) := by
        rw [e1, ← Nat.mul_assoc, ← Nat.add_mul]
        congr 1
        omega
      show numG i a (UInt8.ofNat (n % 128 + 128) :: (uvar (n / 128) ++ r)) = _
      rw [numG, hc, if_neg (by omega), if_neg (by omega), ih (n / 128) (by omega) (i + 1) _ r (.inr (by omega)) (by omega) (by omega)]
      rw [show (n % 128 + 128) % 128 = n % 128 by omega, List.length_cons]
      congr 1
      · omega
      · omega
theorem numR_uvar {n : Nat} (r : List UInt8) (hn : n < 2 ^ 64) : numR (uvar n ++ r) = (n, (uvar n).length) := by
  have := numG_uvar n 0 0 r (.inl rfl) (by omega) (by simpa using hn)
  simpa [numR] using this
theorem uvar_pos (n : Nat) : (uvar n).length ≠ 0 := by
  by_cases h : n < 128
  · rw [uvar_lt h]; simp
  · rw [uvar_ge h]; simp
theorem rdU_uvar {n : Nat} (r : List UInt8) (hn : n < 2 ^ 64) : rdU (some (uvar n ++ r)) = (n, some r) := by
  simp only [rdU, numR_uvar r hn, if_neg (uvar_pos n), List.drop_left]
theorem rdS_uvar {n most : Nat} (r : List UInt8) (hn : n < 2 ^ 64) (hm : n ≤ most) : rdS most (some (uvar n ++ r)) = (n, some r) := by
  unfold rdS
  rw [rdU_uvar r hn, if_neg (by dsimp only; omega)]
theorem zagI_zigN {a : Int} (ha : -9223372036854775808 ≤ a ∧ a ≤ 9223372036854775807) : zagI (zigN a) = a := by
  unfold zagI
  rcases Int.lt_or_le a 0 with h | h
  · have := zigN_neg h
    rw [if_neg (by omega)]
    omega
  · have := zigN_pos h
    rw [if_pos (by omega)]
    omega
theorem rdI_uvar {a : Int} (r : List UInt8) (ha : -9223372036854775808 ≤ a ∧ a ≤ 9223372036854775807) : rdI (some (uvar (zigN a) ++ r)) = (a, some r) := by
  simp only [rdI, numR_uvar r (zigN_lt ha), if_neg (uvar_pos _), List.drop_left, zagI_zigN ha]
theorem rdT_uvar {s : ByteArray} (r : List UInt8) (hs : s.size ≤ 65536) : rdT (some (uvar s.size ++ s.data.toList ++ r)) = (s, some r) := by
  rw [List.append_assoc]
  have h1 := numR_uvar (s.data.toList ++ r) (show s.size < 2 ^ 64 by omega)
  have hl := str_len s
  have h2 : txtR (uvar s.size ++ (s.data.toList ++ r)) = (s, (uvar s.size).length + s.size) := by
    unfold txtR
    rw [h1]
    have hp := uvar_pos s.size
    rw [if_neg (by simp only [List.length_append]; omega)]
    simp only [List.drop_left]
    congr 1
    apply str_ext
    show List.take s.size (s.data.toList ++ r) = _
    rw [← hl, List.take_left]
  simp only [rdT, h2]
  have hp := uvar_pos s.size
  rw [if_neg (by omega), ← hl, ← List.length_append, ← List.append_assoc, List.drop_left]
theorem small114e {p : Nat} {st st' : RSt} {most n : Nat} (hb : RB st) (hm : most ≤ 9223372036854775807) (e : rdS most st = (n, st')) (w : World) : Fr Tryz.prog 114 #[pv p, .int .i64 most] w (RdA p st) (.int .i64 n) (RdA p st') := by
  have := small114 (p := p) hb hm w
  rwa [e] at this
theorem int115e {p : Nat} {st st' : RSt} {a : Int} (hb : RB st) (e : rdI st = (a, st')) (w : World) : Fr Tryz.prog 115 #[pv p] w (RdA p st) (.int .i64 a) (RdA p st') := by
  have := int115 (p := p) hb w
  rwa [e] at this
theorem text116e {p : Nat} {st st' : RSt} {s : ByteArray} (hb : RB st) (e : rdT st = (s, st')) (w : World) : Fr Tryz.prog 116 #[pv p] w (RdA p st) (.string s) (RdA p st') := by
  have := text116 (p := p) hb w
  rwa [e] at this
theorem end117ok {p : Nat} (w : World) : Fr Tryz.prog 117 #[pv p] w (RdA p (some [])) (.int .i64 0) (RdA p (some [])) := by
  refine enter_fr TBok (A' := RdA p (some [])) (H := [.ext 12 (RdA p (some []))]) one_foot Tryz.func117 rfl rfl Tryz.ntmps117 [.loc p 10 0] rfl rfl ?_
  intro S
  refine Run.open (α := Option Addr × Nat) (A := []) (B := []) (fun z => RdH p (some []) z ++ []) (fun w S h => RdA.open (X := []) (Y := []) h) ?_
  rintro ⟨a, cap⟩
  dsimp only [RdH, List.cons_append, List.nil_append]
  conv => whnf
  repeat' (first
 | with_reducible ((first | refine r_seq (fun KS hS => ?_) | (refine hS _ _ ?_; clear hS KS) | (refine hB _ ?_; clear hB KB) | refine r_block ?_))
 | ((with_reducible (first | refine r_region ?_ | refine r_cond (fun KA hA KB hB => ?_) | refine r_ret ?_ | refine r_skip ?_ | refine And.intro rfl ?_)); conv => whnf)
 | ((with_reducible apply OpK.more); (focus refine sok); (conv => whnf); fail_if_success guard_target =ₛ False)
 | with_reducible apply_assumption -symm -exfalso)
  all_goals exact FinK.fr (y := .ext 0 (RdA p (some []))) rfl (RdA.close rfl rfl) (fun _ _ h => h)
theorem end117bad {p : Nat} {st : RSt} (hst : st ≠ some []) (w : World) : Fr Tryz.prog 117 #[pv p] w (RdA p st) (.int .i64 10) (RdA p st) := by
  refine enter_fr TBok (A' := RdA p st) (H := [.ext 12 (RdA p st)]) one_foot Tryz.func117 rfl rfl Tryz.ntmps117 [.loc p 10 0] rfl rfl ?_
  intro S
  refine Run.open (α := Option Addr × Nat) (A := []) (B := []) (fun z => RdH p st z ++ []) (fun w S h => RdA.open (X := []) (Y := []) h) ?_
  rintro ⟨a, cap⟩
  cases st with
  | none =>
    dsimp only [RdH, List.cons_append, List.nil_append]
    conv => whnf
    repeat' (first
 | with_reducible ((first | refine r_seq (fun KS hS => ?_) | (refine hS _ _ ?_; clear hS KS) | (refine hA _ ?_; clear hA KA) | (refine hB _ ?_; clear hB KB) | refine r_block ?_))
 | ((with_reducible (first | refine r_region ?_ | refine r_cond (fun KA hA KB hB => ?_) | refine r_ret ?_ | refine And.intro rfl ?_)); conv => whnf)
 | ((with_reducible apply OpK.more); (focus refine sok); (conv => whnf); fail_if_success guard_target =ₛ False))
    exact FinK.fr (y := .ext 0 (RdA p none)) rfl RdA.closeN (fun _ _ h => h)
  | some l =>
    have hl : l.length ≠ 0 := fun h => hst (by rw [List.length_eq_zero_iff.1 h])
    dsimp only [RdH, List.cons_append, List.nil_append]
    conv => whnf
    repeat' (first
 | with_reducible ((first | refine r_seq (fun KS hS => ?_) | (refine hS _ _ ?_; clear hS KS) | (refine hA _ ?_; clear hA KA) | (refine hB _ ?_; clear hB KB) | refine r_block ?_))
 | ((with_reducible (first | refine r_region ?_ | refine r_cond (fun KA hA KB hB => ?_) | refine r_ret ?_ | refine And.intro rfl ?_)); conv => whnf)
 | ((with_reducible apply OpK.more); (focus refine sok); (conv => whnf); fail_if_success guard_target =ₛ False)
 | (refine if_decT (by omega) ?_; conv => whnf))
    exact FinK.fr (y := .ext 0 (RdA p (some l))) rfl (RdA.close rfl rfl) (fun _ _ h => h)
theorem RdA.closeT {p j i1 i2 : Nat} {l : List UInt8} {a cap} {R : List Blk} : HSub (.ext j (RdA p (some l)) :: R) (.blk i1 p [.v (.bool true), .v (.bool false), .v (.slice a l.length cap)] 238 :: .ext i2 (SlA 5 1 a l.length cap (bcells l)) :: R) :=
  HSub.app2 (A' := [_]) (A := [_, _]) (RdA.close rfl rfl) (HSub.refl R)
theorem RB.len {l : List UInt8} (h : l.length ≤ 1099511627776) : RB (some l) := fun l' e => by
  simp only [Option.some.injEq] at e
  subst e
  exact h
theorem decEff76 {s t p : Nat} {k : ByteArray} {d : Int} {a : Option Addr} {n cap : Nat} {w : World} (hr : RdS w 5 1 a n cap (bcells (uvar 1 ++ (uvar s ++ (uvar t ++ (uvar p ++ (uvar k.size ++ k.data.toList ++ (uvar (zigN d) ++ [])))))))) (h : EffOk s t p) (hk : nameOk k = true) (hks : k.size ≤ 16) (hd : d ≠ 0) (hn : NumOk d) (hl : n ≤ 65536) : Pu Tryz.prog 76 #[.slice a n cap] w (.tuple #[.agg #[.int .i64 1, .int .i64 0, .int .i64 0, .int .i64 (s : Nat), .int .i64 (t : Nat), .int .i64 (p : Nat), .string k, .int .i64 d, .int .i64 0, .string ⟨#[]⟩, .string ⟨#[]⟩, .int .i64 0, .string ⟨#[]⟩, .int .i64 0, .int .i64 0, .slice none 0 0, .int .i64 0, .int .i64 0, .int .i64 0, .int .i64 0, .bool false, .int .i64 0, .int .i64 0, .string ⟨#[]⟩], .int .i64 0]) := by
  have hlen := hr.len
  rw [bcells_length, Nat.mul_one] at hlen
  have hs := fun n' r H => Sees.old (c := ⟨Tryz.prog, TB, n', w, noS, r, TBok⟩) (H := H) hr.old
  have h' := h
  have hn' := hn
  unfold EffOk at h'
  unfold NumOk at hn'
  have e0 : rdS 15 (some (uvar 1 ++ (uvar s ++ (uvar t ++ (uvar p ++ (uvar k.size ++ k.data.toList ++ (uvar (zigN d) ++ []))))))) = (1, some (uvar s ++ (uvar t ++ (uvar p ++ (uvar k.size ++ k.data.toList ++ (uvar (zigN d) ++ [])))))) := rdS_uvar _ (by omega) (by omega)
  have e1 : rdS 9999 (some (uvar s ++ (uvar t ++ (uvar p ++ (uvar k.size ++ k.data.toList ++ (uvar (zigN d) ++ [])))))) = (s, some (uvar t ++ (uvar p ++ (uvar k.size ++ k.data.toList ++ (uvar (zigN d) ++ []))))) := rdS_uvar _ (by omega) (by omega)
  have e2 : rdS 8 (some (uvar t ++ (uvar p ++ (uvar k.size ++ k.data.toList ++ (uvar (zigN d) ++ []))))) = (t, some (uvar p ++ (uvar k.size ++ k.data.toList ++ (uvar (zigN d) ++ [])))) := rdS_uvar _ (by omega) (by omega)
  have e3 : rdS 3 (some (uvar p ++ (uvar k.size ++ k.data.toList ++ (uvar (zigN d) ++ [])))) = (p, some (uvar k.size ++ k.data.toList ++ (uvar (zigN d) ++ []))) := rdS_uvar _ (by omega) (by omega)
  have e4 : rdT (some (uvar k.size ++ k.data.toList ++ (uvar (zigN d) ++ []))) = (k, some (uvar (zigN d) ++ [])) := rdT_uvar _ (by omega)
  have e5 : rdI (some (uvar (zigN d) ++ [])) = (d, some ([])) := rdI_uvar _ (by omega)
  subst hlen
  have hne : (uvar 1 ++ (uvar s ++ (uvar t ++ (uvar p ++ (uvar k.size ++ k.data.toList ++ (uvar (zigN d) ++ [])))))).length ≠ 0 := by have := uvar_pos 1; simp only [List.length_append]; omega
  have hll := hl
  simp only [List.length_append, List.length_nil] at hll
  refine enter_sound TBok Tryz.func76 rfl rfl Tryz.ntmps76 [.v (.slice a (uvar 1 ++ (uvar s ++ (uvar t ++ (uvar p ++ (uvar k.size ++ k.data.toList ++ (uvar (zigN d) ++ [])))))).length cap)] (Kn.start w noS) rfl rfl ?_
  conv => whnf
  repeat' (first
 | with_reducible ((first | refine r_seq (fun KS hS => ?_) | (refine hS _ _ ?_; clear hS KS) | (refine hA _ ?_; clear hA KA) | (refine hB _ ?_; clear hB KB) | refine r_block ?_))
 | ((with_reducible (first | refine r_region ?_ | refine r_cond (fun KA hA KB hB => ?_) | refine r_ret ?_ | refine r_skip ?_ | refine r_exit ?_ | refine And.intro rfl ?_ | intro b)); conv => whnf)
 | ((with_reducible refine WrapK.i64 ?_ ?_); (focus omega); conv => whnf)
 | ((with_reducible refine CallK.id ?_); (first | apply in103 | apply in143 | apply in144 | apply in145 | apply in216 | apply in113 | apply in212 | apply in222 | apply in290); rfl; rfl; rfl; intro A; conv => whnf)
 | (refine ak217 ?_; conv => whnf)
 | ((with_reducible refine CallK.id ?_); refine CallK.fresh (fun ms w hk => clone191 (l := uvar 1 ++ (uvar s ++ (uvar t ++ (uvar p ++ (uvar k.size ++ k.data.toList ++ (uvar (zigN d) ++ [])))))) (Sees.rd (hs _ _ _) hk) (by omega)) ?_; conv => whnf)
 | ((with_reducible refine CallK.id ?_); (first | (refine CallK.weak (RdA.closeT (j := 0)) (CallK.frE At.head (fun w => small114e (RB.len (by simp only [List.length_append, List.length_nil]; omega)) (by omega) e0 w) ?_)) | (refine CallK.frE (by repeat (first | with_reducible apply At.head | apply At.tail)) (fun w => small114e (RB.len (by simp only [List.length_append, List.length_nil]; omega)) (by omega) e1 w) ?_) | (refine CallK.frE (by repeat (first | with_reducible apply At.head | apply At.tail)) (fun w => small114e (RB.len (by simp only [List.length_append, List.length_nil]; omega)) (by omega) e2 w) ?_) | (refine CallK.frE (by repeat (first | with_reducible apply At.head | apply At.tail)) (fun w => small114e (RB.len (by simp only [List.length_append, List.length_nil]; omega)) (by omega) e3 w) ?_) | (refine CallK.frE (by repeat (first | with_reducible apply At.head | apply At.tail)) (fun w => text116e (RB.len (by simp only [List.length_append, List.length_nil]; omega)) e4 w) ?_) | (refine CallK.frE (by repeat (first | with_reducible apply At.head | apply At.tail)) (fun w => int115e (RB.len (by simp only [List.length_append, List.length_nil]; omega)) e5 w) ?_) | refine CallK.frE (by repeat (first | with_reducible apply At.head | apply At.tail)) (fun w => end117ok w) ?_); conv => whnf)
 | ((with_reducible refine CallK.at 102 ?_); refine CallK.pu (fun w => checkEff102 h hk (by omega) hd hn w) ?_; conv => whnf)
 | ((with_reducible apply OpK.more); (focus refine sok); (conv => whnf); fail_if_success guard_target =ₛ False)
 | with_reducible (first | refine Rounds.step (fun KL hL => ?_) | refine r_rounds 100 ?_)
 | (refine if_decF (by omega) ?_; conv => whnf)
 | with_reducible apply_assumption -symm -exfalso)
  all_goals exact FinK.pu rfl
end Go.Proofs.YtbgnoibellfojaaGreatDoor

namespace Go.Proofs.YtbgnoibellfojaaGreatDoor
open Go Go.X
set_option maxRecDepth 100000
set_option maxHeartbeats 0
theorem checkReply81 {e d : Int} {x : ByteArray} (he : 0 ≤ e ∧ e ≤ 18) (hn : NumOk d) (hx : x.size ≤ 65536) (w : World) : Pu Tryz.prog 81 #[.agg #[.int .i64 e, .int .i64 d, .string x]] w (.int .i64 0) := by
  refine enter_sound TBok Tryz.func81 rfl rfl Tryz.ntmps81 [.agg [.v (.int .i64 e), .v (.int .i64 d), .v (.string x)]] (Kn.start w noS) rfl rfl ?_
  conv => whnf
  repeat' (first
 | with_reducible ((first | refine r_seq (fun KS hS => ?_) | (refine hS _ _ ?_; clear hS KS) | (refine hB _ ?_; clear hB KB)))
 | ((with_reducible (first | refine r_region ?_ | refine r_cond (fun KA hA KB hB => ?_) | refine r_ret ?_ | refine r_skip ?_ | refine And.intro rfl ?_ | intro b)); conv => whnf)
 | ((with_reducible refine CallK.at 131 ?_); refine CallK.pu (fun w => numOk131 hn w) ?_; conv => whnf)
 | (refine if_decF (by omega) ?_; conv => whnf)
 | with_reducible apply_assumption -symm -exfalso)
  exact FinK.pu rfl
theorem checkReplyBad81 {e d : Int} {x : ByteArray} (h : ¬ ((0 ≤ e ∧ e ≤ 18) ∧ NumOk d ∧ x.size ≤ 65536)) (w : World) : Pu Tryz.prog 81 #[.agg #[.int .i64 e, .int .i64 d, .string x]] w (.int .i64 2) := by
  refine enter_sound TBok Tryz.func81 rfl rfl Tryz.ntmps81 [.agg [.v (.int .i64 e), .v (.int .i64 d), .v (.string x)]] (Kn.start w noS) rfl rfl ?_
  by_cases hn : NumOk d
  · have h2 : ¬ ((0 ≤ e ∧ e ≤ 18) ∧ x.size ≤ 65536) := fun ⟨a, b⟩ => h ⟨a, hn, b⟩
    conv => whnf
    repeat' (first
 | with_reducible ((first | refine r_seq (fun KS hS => ?_) | (refine hS _ _ ?_; clear hS KS) | (refine hA _ ?_; clear hA KA)))
 | ((with_reducible (first | refine r_region ?_ | refine r_cond (fun KA hA KB hB => ?_) | refine r_ret ?_ | refine And.intro rfl ?_ | intro b)); conv => whnf)
 | ((with_reducible refine CallK.at 131 ?_); refine CallK.pu (fun w => numOk131 hn w) ?_; conv => whnf)
 | (refine if_decT (by omega) ?_; conv => whnf)
 | (refine if_dec (fun h => ?_) (fun h => ?_); all_goals (conv => whnf)))
    all_goals first | exact FinK.pu rfl | (exfalso; omega)
  · conv => whnf
    repeat' (first
 | with_reducible ((first | refine r_seq (fun KS hS => ?_) | (refine hS _ _ ?_; clear hS KS) | (refine hA _ ?_; clear hA KA)))
 | ((with_reducible (first | refine r_region ?_ | refine r_cond (fun KA hA KB hB => ?_) | refine r_ret ?_ | refine And.intro rfl ?_ | intro b)); conv => whnf)
 | ((with_reducible refine CallK.at 131 ?_); refine CallK.pu (fun w => numBad131 hn w) ?_; conv => whnf)
 | (refine if_dec (fun h => ?_) (fun h => ?_); all_goals (conv => whnf)))
    all_goals exact FinK.pu rfl
theorem reply46 {e : Nat} {d : Int} {x : ByteArray} (he : 0 ≤ (e : Int) ∧ (e : Int) ≤ 18) (hn : NumOk d) (hx : x.size ≤ 65536) (hl : (uvar e ++ uvar (zigN d) ++ uvar x.size ++ x.data.toList).length ≤ 65536) (w : World) :
    FrZ Tryz.prog 46 #[.agg #[.int .i64 (e : Nat), .int .i64 d, .string x]] w emp (fun z : Option Addr × Nat => .tuple #[.slice z.1 (uvar e ++ uvar (zigN d) ++ uvar x.size ++ x.data.toList).length z.2, .int .i64 0]) (fun z => SlA 5 1 z.1 (uvar e ++ uvar (zigN d) ++ uvar x.size ++ x.data.toList).length z.2 (bcells (uvar e ++ uvar (zigN d) ++ uvar x.size ++ x.data.toList))) := by
  refine enter_frZ TBok (H := []) emp_foot Tryz.func46 rfl rfl Tryz.ntmps46 [.agg [.v (.int .i64 (e : Nat)), .v (.int .i64 d), .v (.string x)]] rfl rfl ?_
  intro S _ _
  have hn' := hn
  unfold NumOk at hn'
  have hz := zigN_lt (a := d) (by omega)
  have hkl := str_len x
  have hu0 := uvar_len64 (n := e) (by omega)
  have hu1 := uvar_len64 (n := zigN d) hz
  have hu2 := uvar_len64 (n := x.size) (by omega)
  conv => whnf
  repeat' (first
 | with_reducible ((first | refine r_seq (fun KS hS => ?_) | (refine hS _ _ ?_; clear hS KS) | (refine hB _ ?_; clear hB KB)))
 | ((with_reducible (first | refine r_region ?_ | refine r_cond (fun KA hA KB hB => ?_) | refine r_ret ?_ | refine r_skip ?_ | refine And.intro rfl ?_ | intro b)); conv => whnf)
 | ((with_reducible refine CallK.id ?_); (first | apply in82 | apply in84); rfl; rfl; rfl; intro A; conv => whnf)
 | ((with_reducible refine CallK.at 81 ?_); refine CallK.pu (fun w => checkReply81 he hn hx w) ?_; conv => whnf)
 | ((with_reducible refine WrapK.id ?_); refine WrapK.eq (IntWalk.u64_in _ (by omega)) ?_; conv => whnf)
 | ((with_reducible refine CallK.id ?_); (first | refine CallK.frB At.head (fun w => uint83n (n := e) (by omega) w) ?_ | (refine CallK.frE (by repeat (first | with_reducible apply At.head | apply At.tail)) (fun w => text85 (by omega) (by first | omega | (simp only [List.length_append, List.length_nil]; omega)) w) ?_)); conv => whnf)
 | ((with_reducible refine CallK.at 133 ?_); refine CallK.pu (fun w => zig133 (by omega) w) ?_; conv => whnf)
 | ((with_reducible refine CallK.id ?_); refine CallK.frZE (by repeat (first | with_reducible apply At.head | apply At.tail)) (fun w => limited86 hl w) ?_; conv => whnf)
 | ((with_reducible refine CallK.id ?_); refine CallK.frE (by repeat (first | with_reducible apply At.head | apply At.tail)) (fun w => uint83 (n := zigN d) hz (by omega) w) ?_; conv => whnf)
 | with_reducible apply_assumption -symm -exfalso)
  exact FinK.frZ b rfl (HSub.pick (by repeat (first | with_reducible apply At.head | apply At.tail)))
theorem parse71 {e : Nat} {d : Int} {x : ByteArray} {a : Option Addr} {n cap : Nat} {w : World} (hr : RdS w 5 1 a n cap (bcells (uvar e ++ (uvar (zigN d) ++ (uvar x.size ++ x.data.toList ++ []))))) (he : 0 ≤ (e : Int) ∧ (e : Int) ≤ 18) (hn : NumOk d) (hx : x.size ≤ 65536) (hl : n ≤ 65536) :
    Pu Tryz.prog 71 #[.slice a n cap] w (.tuple #[.agg #[.int .i64 (e : Nat), .int .i64 d, .string x], .int .i64 0]) := by
  have hlen := hr.len
  rw [bcells_length, Nat.mul_one] at hlen
  have hs := fun n' r H => Sees.old (c := ⟨Tryz.prog, TB, n', w, noS, r, TBok⟩) (H := H) hr.old
  have hn' := hn
  unfold NumOk at hn'
  have e0 : rdS 18 (some (uvar e ++ (uvar (zigN d) ++ (uvar x.size ++ x.data.toList ++ [])))) = (e, some (uvar (zigN d) ++ (uvar x.size ++ x.data.toList ++ []))) := rdS_uvar _ (by omega) (by omega)
  have e1 : rdI (some (uvar (zigN d) ++ (uvar x.size ++ x.data.toList ++ []))) = (d, some (uvar x.size ++ x.data.toList ++ [])) := rdI_uvar _ (by omega)
  have e2 : rdT (some (uvar x.size ++ x.data.toList ++ [])) = (x, some []) := rdT_uvar _ (by omega)
  subst hlen
  have hll := hl
  simp only [List.length_append, List.length_nil] at hll
  refine enter_sound TBok Tryz.func71 rfl rfl Tryz.ntmps71 [.v (.slice a (uvar e ++ (uvar (zigN d) ++ (uvar x.size ++ x.data.toList ++ []))).length cap)] (Kn.start w noS) rfl rfl ?_
  conv => whnf
  repeat' (first
 | with_reducible ((first | refine r_seq (fun KS hS => ?_) | (refine hS _ _ ?_; clear hS KS) | (refine hB _ ?_; clear hB KB)))
 | ((with_reducible (first | refine r_region ?_ | refine r_cond (fun KA hA KB hB => ?_) | refine r_ret ?_ | refine r_skip ?_ | refine And.intro rfl ?_ | intro b)); conv => whnf)
 | (apply in113; rfl; rfl; rfl; intro A; conv => whnf)
 | ((with_reducible refine CallK.id ?_); refine CallK.fresh (fun ms w hk => clone191 (l := uvar e ++ (uvar (zigN d) ++ (uvar x.size ++ x.data.toList ++ []))) (Sees.rd (hs _ _ _) hk) (by omega)) ?_; conv => whnf)
 | ((with_reducible refine CallK.id ?_); (first | (refine CallK.weak (RdA.closeT (j := 0)) (CallK.frE At.head (fun w => small114e (RB.len (by simp only [List.length_append, List.length_nil]; omega)) (by omega) e0 w) ?_)) | (refine CallK.frE (by repeat (first | with_reducible apply At.head | apply At.tail)) (fun w => int115e (RB.len (by simp only [List.length_append, List.length_nil]; omega)) e1 w) ?_) | (refine CallK.frE (by repeat (first | with_reducible apply At.head | apply At.tail)) (fun w => text116e (RB.len (by simp only [List.length_append, List.length_nil]; omega)) e2 w) ?_) | refine CallK.frE (by repeat (first | with_reducible apply At.head | apply At.tail)) (fun w => end117ok w) ?_); conv => whnf)
 | ((with_reducible refine CallK.at 81 ?_); refine CallK.pu (fun w => checkReply81 he hn hx w) ?_; conv => whnf)
 | (refine if_decF (by omega) ?_; conv => whnf)
 | with_reducible apply_assumption -symm -exfalso)
  exact FinK.pu rfl
end Go.Proofs.YtbgnoibellfojaaGreatDoor

namespace Go.Proofs.YtbgnoibellfojaaGreatDoor
open Go Go.X
set_option maxRecDepth 100000
theorem in65 : InSt 65 Tryz.f65 96 := InSt.mk' Tryz.func65 rfl Tryz.ntmps65
theorem in108 : InSt 108 Tryz.f108 7 := InSt.mk' Tryz.func108 rfl Tryz.ntmps108
theorem in160 : InSt 160 Tryz.f160 7 := InSt.mk' Tryz.func160 rfl Tryz.ntmps160
theorem in168 : InSt 168 Tryz.f168 6 := InSt.mk' Tryz.func168 rfl Tryz.ntmps168
theorem in174 : InSt 174 Tryz.f174 17 := InSt.mk' Tryz.func174 rfl Tryz.ntmps174
theorem in179 : InSt 179 Tryz.f179 5 := InSt.mk' Tryz.func179 rfl Tryz.ntmps179
theorem in186 : InSt 186 Tryz.f186 7 := InSt.mk' Tryz.func186 rfl Tryz.ntmps186
theorem in109 : InSt 109 Tryz.f109 9 := InSt.mk' Tryz.func109 rfl Tryz.ntmps109
theorem in190 : InSt 190 Tryz.f190 19 := InSt.mk' Tryz.func190 rfl Tryz.ntmps190
theorem in111 : InSt 111 Tryz.f111 46 := InSt.mk' Tryz.func111 rfl Tryz.ntmps111
theorem in176 : InSt 176 Tryz.f176 9 := InSt.mk' Tryz.func176 rfl Tryz.ntmps176
theorem in181 : InSt 181 Tryz.f181 8 := InSt.mk' Tryz.func181 rfl Tryz.ntmps181
end Go.Proofs.YtbgnoibellfojaaGreatDoor

namespace Go.X
open Go
theorem OpK.aIx {c : Cx} {o : Oper} {E : Env} {H : List Blk} {nx : K1} {t e len : Nat} {x ix : Operand} {ti j : TI} (ho : o.op = .index t x ix) {cs : List SV} {q : IntKind} {z : Int} (hx : opd E x = some (.agg cs)) (hi : opd E ix = some (.v (.int q z)))
    (hti : c.T.get t = some ti) (hd : ti.desc = .array len e) (hj : c.T.get e = some j) (h0 : 0 ≤ z) (hlt : z < len) (h : loadF c e cs (z.toNat * j.size) (fun s => nx s H)) : OpK c o E H nx := by
  have hnd : ∀ cl, o.op ≠ .defer cl := by rw [ho]; intro cl e; cases e
  obtain ⟨s, h1, h2⟩ := part_run c.ok h
  refine OpK.val hnd s (fun ms ac w ha hk => ?_) h2
  have hu := (c.ok t ti hti).1
  rw [hd] at hu
  have e1 := ha.opd hx
  have e2 := ha.opd hi
  simp only [den] at e1 e2
  simp [execOp, ho, e1, e2, Instr.index, asIntOf, run_underlying hu, r_sizeOf (c.ok e j hj) w, hlt, h0, h1 w]
end Go.X
namespace Go.Proofs.YtbgnoibellfojaaGreatDoor
open Go Go.X
set_option maxRecDepth 100000
set_option maxHeartbeats 0
theorem bytes135 {p : Nat} {l : List UInt8} (hl : l.length ≤ 1099511627776) (w : World) : FrZ Tryz.prog 135 #[pv p] w (WrA p l) (fun z : Option Addr × Nat => .slice z.1 l.length z.2) (fun z => SlA 5 1 z.1 l.length z.2 (bcells l)) := by
  refine enter_frZ TBok (H := [.ext 12 (WrA p l)]) one_foot Tryz.func135 rfl rfl Tryz.ntmps135 [.loc p 10 0] rfl rfl ?_
  intro S _ _
  refine Run.open (α := Option Addr × Nat) (A := []) (B := []) (fun z => [.blk 10 p [.v (.bool true), .v (.slice z.1 l.length z.2)] 209, .ext 11 (SlA 5 1 z.1 l.length z.2 (bcells l))]) (fun w S h => WrA.open (X := []) (Y := []) h) ?_
  rintro ⟨a, cap⟩
  dsimp only
  conv => whnf
  repeat' (first
 | with_reducible ((first | refine r_seq (fun KS hS => ?_) | (refine hS _ _ ?_; clear hS KS) | (refine hB _ ?_; clear hB KB)))
 | ((with_reducible (first | refine r_region ?_ | refine r_cond (fun KA hA KB hB => ?_) | refine r_ret ?_ | refine r_skip ?_ | refine And.intro rfl ?_ | intro b)); conv => whnf)
 | ((with_reducible refine CallK.id ?_); refine CallK.fresh (fun ms w hk => clone191 (l := l) (Sees.rd (Sees.ext (by repeat (first | with_reducible apply At.head | apply At.tail))) hk) (by omega)) ?_; conv => whnf)
 | ((with_reducible apply OpK.more); (focus refine sok); (conv => whnf); fail_if_success guard_target =ₛ False)
 | with_reducible apply_assumption -symm -exfalso)
  exact FinK.frZ (i := 0) b rfl (HSub.ext (fun _ _ h => h) (HSub.drop (HSub.drop HSub.nil)))
def askC : List SV := [.v (.string ⟨#[97, 115, 107]⟩), .v (.int .i64 12), .v (.int .i64 0), .v (.int .i64 1), .v (.int .i64 2147483647)]
def ansC : List SV := [.v (.string ⟨#[97, 110, 115, 119, 101, 114]⟩), .v (.int .i64 12), .v (.int .i64 0), .v (.int .i64 1), .v (.int .i64 2147483647)]
/-- the table of the kinds of messages is as the program laid it -/
def KAt (w : World) : Prop := 0 < w.heap.size ∧ ∃ C t f, w.heap[0]? = some (.cells C t f) ∧ (∀ j v, (denL askC)[j]? = some v → C[50 + j]? = some v) ∧ ∀ j v, (denL ansC)[j]? = some v → C[55 + j]? = some v
theorem KAt.ask {w : World} {n : Nat} {r : Option Nat} {H : List Blk} {S : Nat → Prop} (h : KAt w) (hS : ¬ S 0) : PC ⟨Tryz.prog, TB, n, w, S, r, TBok⟩ H 0 (0 + (Int.toNat 10) * TI.size ti179) askC := by
  obtain ⟨hp, C, t, f, h1, h2, _⟩ := h
  exact fun ms w' hk => ⟨C, t, f, by rw [Kn0.old hk 0 hp hS]; exact h1, fun j v hj => h2 j v hj⟩
theorem KAt.ans {w : World} {n : Nat} {r : Option Nat} {H : List Blk} {S : Nat → Prop} (h : KAt w) (hS : ¬ S 0) : PC ⟨Tryz.prog, TB, n, w, S, r, TBok⟩ H 0 (0 + (Int.toNat 11) * TI.size ti179) ansC := by
  obtain ⟨hp, C, t, f, h1, _, h2⟩ := h
  exact fun ms w' hk => ⟨C, t, f, by rw [Kn0.old hk 0 hp hS]; exact h1, fun j v hj => h2 j v hj⟩
theorem KAt.now {W w : World} {S : Nat → Prop} {ms : List Nat} {H : List Blk} (h : KAt W) (hS : ¬ S 0) (hk : Kn W S ms H w) : KAt w := by
  obtain ⟨hp, C, t, f, h1, h2⟩ := h
  exact ⟨Nat.lt_of_lt_of_le hp (Kn0.size hk), C, t, f, by rw [Kn0.old hk 0 hp hS]; exact h1, h2⟩
theorem find_ask107 {w : World} (h : KAt w) : Pu Tryz.prog 107 #[.int .i64 10] w (.tuple #[.agg (denL askC).toArray, .bool true]) := by
  refine enter_sound TBok Tryz.func107 rfl rfl Tryz.ntmps107 [.v (.int .i64 10)] (Kn.start w noS) rfl rfl ?_
  conv => whnf
  repeat' (first
 | with_reducible ((first | refine r_seq (fun KS hS => ?_) | (refine hS _ _ ?_; clear hS KS) | (refine hB _ ?_; clear hB KB)))
 | ((with_reducible (first | refine r_region ?_ | refine r_cond (fun KA hA KB hB => ?_) | refine r_ret ?_ | refine r_skip ?_ | refine And.intro rfl ?_ | intro b)); conv => whnf)
 | ((with_reducible refine OpK.id ?_); (first | (refine OpK.ixP rfl rfl rfl rfl rfl rfl (by omega) (by show _ < (12 : Int); omega) ?_) | refine OpK.ldp rfl rfl (h.ask (fun h => h)) (List.cons_ne_nil _ _) ?_); conv => whnf)
 | with_reducible apply_assumption -symm -exfalso)
  exact FinK.pu rfl
theorem check_ask28 {f t n : Nat} {v : ByteArray} {w : World} (h : KAt w) (hf : f ≤ 55) (ht : t ≤ 55) (hft : f < t ∨ t < f) (hn : 1 ≤ n ∧ n ≤ 2147483647) (hv : v.size ≤ 65536) : Pu Tryz.prog 28 #[.agg #[.int .i64 10, .int .i64 (f : Nat), .int .i64 (t : Nat), .int .i64 0, .int .i64 0, .int .i64 0, .int .i64 (n : Nat), .string v, .slice none 0 0]] w (.int .i64 0) := by
  have hvl := str_len v
  have hu0 := uvar_len64 (n := 10) (by omega)
  have hu1 := uvar_len64 (n := f) (by omega)
  have hu2 := uvar_len64 (n := t) (by omega)
  have hu3 := uvar_len64 (n := n) (by omega)
  have hu4 := uvar_len64 (n := v.size) (by omega)
  have hbl : (uvar 10 ++ uvar f ++ uvar t ++ uvar n ++ uvar v.size ++ v.data.toList).length ≤ 65600 := by simp only [List.length_append]; omega
  refine enter_sound TBok Tryz.func28 rfl rfl Tryz.ntmps28 [.agg [.v (.int .i64 10), .v (.int .i64 (f : Nat)), .v (.int .i64 (t : Nat)), .v (.int .i64 0), .v (.int .i64 0), .v (.int .i64 0), .v (.int .i64 (n : Nat)), .v (.string v), .v (.slice none 0 0)]] (Kn.start w noS) rfl rfl ?_
  conv => whnf
  repeat' (first
 | with_reducible ((first | refine r_seq (fun KS hS => ?_) | (refine hS _ _ ?_; clear hS KS) | (refine hA _ ?_; clear hA KA) | (refine hB _ ?_; clear hB KB) | refine r_block ?_))
 | ((with_reducible (first | refine r_region ?_ | refine r_cond (fun KA hA KB hB => ?_) | refine r_ret ?_ | refine r_skip ?_ | refine r_exit ?_ | refine And.intro rfl ?_ | intro b)); conv => whnf)
 | ((with_reducible refine WrapK.i64 ?_ ?_); (focus omega); conv => whnf)
 | ((with_reducible refine CallK.id ?_); (first | apply in65 | apply in108 | apply in82 | apply in160 | apply in168 | apply in174 | apply in179 | apply in186 | apply in109 | apply in190 | apply in111 | apply in176 | apply in181); rfl; rfl; rfl; intro A; conv => whnf)
 | ((with_reducible refine OpK.id ?_); refine OpK.aIx rfl rfl rfl rfl rfl rfl (by omega) (by show _ < (3 : Int); omega) ?_; conv => whnf)
 | ((with_reducible refine CallK.id ?_); refine CallK.frZE (by repeat (first | with_reducible apply At.head | apply At.tail)) (fun w => bytes135 (l := uvar 10 ++ uvar f ++ uvar t ++ uvar n ++ uvar v.size ++ v.data.toList) (by omega) w) ?_; conv => whnf)
 | ((with_reducible refine CallK.at 107 ?_); refine CallK.puW (fun ms w hk => find_ask107 (h.now (fun h => h) hk)) ?_; conv => whnf)
 | (refine BitK.eq (z := 0) (by decide +kernel) ?_; conv => whnf)
 | (refine BitK.eq (z := 4) (by decide +kernel) ?_; conv => whnf)
 | (refine BitK.eq (z := 8) (by decide +kernel) ?_; conv => whnf)
 | ((with_reducible refine WrapK.id ?_); refine WrapK.eq (IntWalk.u64_in _ (by omega)) ?_; conv => whnf)
 | ((with_reducible refine CallK.id ?_); (first | refine CallK.frB At.head (fun w => uint83n (n := 10) (by omega) w) ?_ | (refine CallK.frE (by repeat (first | with_reducible apply At.head | apply At.tail)) (fun w => text85 (by omega) (by first | omega | (simp only [List.length_append, List.length_nil]; omega)) w) ?_) | (refine CallK.frE (by repeat (first | with_reducible apply At.head | apply At.tail)) (fun w => uint83 (n := f) (by omega) (by first | omega | (simp only [List.length_append, List.length_nil]; omega)) w) ?_) | (refine CallK.frE (by repeat (first | with_reducible apply At.head | apply At.tail)) (fun w => uint83 (n := t) (by omega) (by first | omega | (simp only [List.length_append, List.length_nil]; omega)) w) ?_) | (refine CallK.frE (by repeat (first | with_reducible apply At.head | apply At.tail)) (fun w => uint83 (n := n) (by omega) (by first | omega | (simp only [List.length_append, List.length_nil]; omega)) w) ?_)); conv => whnf)
 | ((with_reducible apply OpK.more); (focus refine sok); (conv => whnf); fail_if_success guard_target =ₛ False)
 | with_reducible (first | refine Rounds.step (fun KL hL => ?_) | refine r_rounds 100 ?_)
 | ((first | refine if_decT (by omega) ?_ | refine if_decF (by omega) ?_ | refine if_ndecF (by omega) ?_); conv => whnf)
 | with_reducible apply_assumption -symm -exfalso)
  exact FinK.pu rfl
theorem find_ans107 {w : World} (h : KAt w) : Pu Tryz.prog 107 #[.int .i64 11] w (.tuple #[.agg (denL ansC).toArray, .bool true]) := by
  refine enter_sound TBok Tryz.func107 rfl rfl Tryz.ntmps107 [.v (.int .i64 11)] (Kn.start w noS) rfl rfl ?_
  conv => whnf
  repeat' (first
 | with_reducible ((first | refine r_seq (fun KS hS => ?_) | (refine hS _ _ ?_; clear hS KS) | (refine hB _ ?_; clear hB KB)))
 | ((with_reducible (first | refine r_region ?_ | refine r_cond (fun KA hA KB hB => ?_) | refine r_ret ?_ | refine r_skip ?_ | refine And.intro rfl ?_ | intro b)); conv => whnf)
 | ((with_reducible refine OpK.id ?_); (first | (refine OpK.ixP rfl rfl rfl rfl rfl rfl (by omega) (by show _ < (12 : Int); omega) ?_) | refine OpK.ldp rfl rfl (h.ans (fun h => h)) (List.cons_ne_nil _ _) ?_); conv => whnf)
 | with_reducible apply_assumption -symm -exfalso)
  exact FinK.pu rfl
theorem check_ans28 {f t n : Nat} {v : ByteArray} {w : World} (h : KAt w) (hf : f ≤ 55) (ht : t ≤ 55) (hft : f < t ∨ t < f) (hn : 1 ≤ n ∧ n ≤ 2147483647) (hv : v.size ≤ 65536) : Pu Tryz.prog 28 #[.agg #[.int .i64 11, .int .i64 (f : Nat), .int .i64 (t : Nat), .int .i64 0, .int .i64 0, .int .i64 0, .int .i64 (n : Nat), .string v, .slice none 0 0]] w (.int .i64 0) := by
  have hvl := str_len v
  have hu0 := uvar_len64 (n := 11) (by omega)
  have hu1 := uvar_len64 (n := f) (by omega)
  have hu2 := uvar_len64 (n := t) (by omega)
  have hu3 := uvar_len64 (n := n) (by omega)
  have hu4 := uvar_len64 (n := v.size) (by omega)
  have hbl : (uvar 11 ++ uvar f ++ uvar t ++ uvar n ++ uvar v.size ++ v.data.toList).length ≤ 65600 := by simp only [List.length_append]; omega
  refine enter_sound TBok Tryz.func28 rfl rfl Tryz.ntmps28 [.agg [.v (.int .i64 11), .v (.int .i64 (f : Nat)), .v (.int .i64 (t : Nat)), .v (.int .i64 0), .v (.int .i64 0), .v (.int .i64 0), .v (.int .i64 (n : Nat)), .v (.string v), .v (.slice none 0 0)]] (Kn.start w noS) rfl rfl ?_
  conv => whnf
  repeat' (first
 | with_reducible ((first | refine r_seq (fun KS hS => ?_) | (refine hS _ _ ?_; clear hS KS) | (refine hA _ ?_; clear hA KA) | (refine hB _ ?_; clear hB KB) | refine r_block ?_))
 | ((with_reducible (first | refine r_region ?_ | refine r_cond (fun KA hA KB hB => ?_) | refine r_ret ?_ | refine r_skip ?_ | refine r_exit ?_ | refine And.intro rfl ?_ | intro b)); conv => whnf)
 | ((with_reducible refine WrapK.i64 ?_ ?_); (focus omega); conv => whnf)
 | ((with_reducible refine CallK.id ?_); (first | apply in65 | apply in108 | apply in82 | apply in160 | apply in168 | apply in174 | apply in179 | apply in186 | apply in109 | apply in190 | apply in111 | apply in176 | apply in181); rfl; rfl; rfl; intro A; conv => whnf)
 | ((with_reducible refine OpK.id ?_); refine OpK.aIx rfl rfl rfl rfl rfl rfl (by omega) (by show _ < (3 : Int); omega) ?_; conv => whnf)
 | ((with_reducible refine CallK.id ?_); refine CallK.frZE (by repeat (first | with_reducible apply At.head | apply At.tail)) (fun w => bytes135 (l := uvar 11 ++ uvar f ++ uvar t ++ uvar n ++ uvar v.size ++ v.data.toList) (by omega) w) ?_; conv => whnf)
 | ((with_reducible refine CallK.at 107 ?_); refine CallK.puW (fun ms w hk => find_ans107 (h.now (fun h => h) hk)) ?_; conv => whnf)
 | (refine BitK.eq (z := 0) (by decide +kernel) ?_; conv => whnf)
 | (refine BitK.eq (z := 4) (by decide +kernel) ?_; conv => whnf)
 | (refine BitK.eq (z := 8) (by decide +kernel) ?_; conv => whnf)
 | ((with_reducible refine WrapK.id ?_); refine WrapK.eq (IntWalk.u64_in _ (by omega)) ?_; conv => whnf)
 | ((with_reducible refine CallK.id ?_); (first | refine CallK.frB At.head (fun w => uint83n (n := 11) (by omega) w) ?_ | (refine CallK.frE (by repeat (first | with_reducible apply At.head | apply At.tail)) (fun w => text85 (by omega) (by first | omega | (simp only [List.length_append, List.length_nil]; omega)) w) ?_) | (refine CallK.frE (by repeat (first | with_reducible apply At.head | apply At.tail)) (fun w => uint83 (n := f) (by omega) (by first | omega | (simp only [List.length_append, List.length_nil]; omega)) w) ?_) | (refine CallK.frE (by repeat (first | with_reducible apply At.head | apply At.tail)) (fun w => uint83 (n := t) (by omega) (by first | omega | (simp only [List.length_append, List.length_nil]; omega)) w) ?_) | (refine CallK.frE (by repeat (first | with_reducible apply At.head | apply At.tail)) (fun w => uint83 (n := n) (by omega) (by first | omega | (simp only [List.length_append, List.length_nil]; omega)) w) ?_)); conv => whnf)
 | ((with_reducible apply OpK.more); (focus refine sok); (conv => whnf); fail_if_success guard_target =ₛ False)
 | with_reducible (first | refine Rounds.step (fun KL hL => ?_) | refine r_rounds 100 ?_)
 | ((first | refine if_decT (by omega) ?_ | refine if_decF (by omega) ?_ | refine if_ndecF (by omega) ?_); conv => whnf)
 | with_reducible apply_assumption -symm -exfalso)
  exact FinK.pu rfl
end Go.Proofs.YtbgnoibellfojaaGreatDoor

namespace Go.Proofs.YtbgnoibellfojaaGreatDoor
open Go Go.X
set_option maxRecDepth 100000
theorem in45 : InSt 45 Tryz.f45 12 := InSt.mk' Tryz.func45 rfl Tryz.ntmps45
theorem in57 : InSt 57 Tryz.f57 37 := InSt.mk' Tryz.func57 rfl Tryz.ntmps57
theorem in58 : InSt 58 Tryz.f58 19 := InSt.mk' Tryz.func58 rfl Tryz.ntmps58
theorem in59 : InSt 59 Tryz.f59 16 := InSt.mk' Tryz.func59 rfl Tryz.ntmps59
theorem in60 : InSt 60 Tryz.f60 6 := InSt.mk' Tryz.func60 rfl Tryz.ntmps60
theorem in64 : InSt 64 Tryz.f64 4 := InSt.mk' Tryz.func64 rfl Tryz.ntmps64
theorem in101 : InSt 101 Tryz.f101 4 := InSt.mk' Tryz.func101 rfl Tryz.ntmps101
theorem in104 : InSt 104 Tryz.f104 5 := InSt.mk' Tryz.func104 rfl Tryz.ntmps104
theorem in155 : InSt 155 Tryz.f155 13 := InSt.mk' Tryz.func155 rfl Tryz.ntmps155
theorem in156 : InSt 156 Tryz.f156 134 := InSt.mk' Tryz.func156 rfl Tryz.ntmps156
theorem in261 : InSt 261 Tryz.f261 49 := InSt.mk' Tryz.func261 rfl Tryz.ntmps261
theorem in271 : InSt 271 Tryz.f271 25 := InSt.mk' Tryz.func271 rfl Tryz.ntmps271
theorem in68 : InSt 68 Tryz.f68 19 := InSt.mk' Tryz.func68 rfl Tryz.ntmps68
theorem in69 : InSt 69 Tryz.f69 32 := InSt.mk' Tryz.func69 rfl Tryz.ntmps69
end Go.Proofs.YtbgnoibellfojaaGreatDoor
