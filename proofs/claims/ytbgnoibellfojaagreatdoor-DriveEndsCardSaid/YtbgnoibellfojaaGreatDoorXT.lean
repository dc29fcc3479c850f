/- Contracts and lemmas for the claim (part XT); no condition of its own. -/
import Derived.Test.YtbgnoibellfojaaGreatDoorProg
import Derived.Test.YtbgnoibellfojaaGreatDoorXA
import Derived.Test.YtbgnoibellfojaaGreatDoorXB
set_option linter.all false
set_option linter.unusedVariables false
set_option linter.unusedSimpArgs false
set_option linter.unnecessarySimpa false
namespace Go.Proofs.YtbgnoibellfojaaGreatDoor
open Go Go.X
def ti2 : TI := ⟨.int .i64, 1, 8, .int .i64 0⟩
theorem tk2 : TIok Tryz.prog 2 ti2 := ⟨Tryz.underlying2, by kernel_rfl⟩
def ti3 : TI := ⟨.int .i64, 1, 8, .int .i64 0⟩
theorem tk3 : TIok Tryz.prog 3 ti3 := ⟨Tryz.underlying3, by kernel_rfl⟩
def ti4 : TI := ⟨.bool, 1, 1, .bool false⟩
theorem tk4 : TIok Tryz.prog 4 ti4 := ⟨Tryz.underlying4, by kernel_rfl⟩
def ti5 : TI := ⟨.int .u8, 1, 1, .int .u8 0⟩
theorem tk5 : TIok Tryz.prog 5 ti5 := ⟨Tryz.underlying5, by kernel_rfl⟩
def ti9 : TI := ⟨.string, 1, 16, .string ⟨#[]⟩⟩
theorem tk9 : TIok Tryz.prog 9 ti9 := ⟨Tryz.underlying9, by kernel_rfl⟩
def ti20 : TI := ⟨.interface #[], 1, 16, .nilIface⟩
theorem tk20 : TIok Tryz.prog 20 ti20 := ⟨Tryz.underlying20, by kernel_rfl⟩
def ti21 : TI := ⟨.int .i32, 1, 4, .int .i32 0⟩
theorem tk21 : TIok Tryz.prog 21 ti21 := ⟨Tryz.underlying21, by kernel_rfl⟩
def ti23 : TI := ⟨.struct #[{ name := "Round", type := 3, offset := 0, embedded := false, tag := "", pkgPath := "", byteOffset := 0 }, { name := "Node", type := 3, offset := 1, embedded := false, tag := "", pkgPath := "", byteOffset := 8 }], 2, 16, .agg #[.int .i64 0, .int .i64 0]⟩
theorem tk23 : TIok Tryz.prog 23 ti23 := ⟨Tryz.underlying23, by kernel_rfl⟩
def ti24 : TI := ⟨.slice 87, 1, 24, .slice none 0 0⟩
theorem tk24 : TIok Tryz.prog 24 ti24 := ⟨Tryz.underlying24, by kernel_rfl⟩
def ti26 : TI := ⟨.struct #[{ name := "Kind", type := 3, offset := 0, embedded := false, tag := "", pkgPath := "", byteOffset := 0 }, { name := "From", type := 3, offset := 1, embedded := false, tag := "", pkgPath := "", byteOffset := 8 }, { name := "To", type := 3, offset := 2, embedded := false, tag := "", pkgPath := "", byteOffset := 16 }, { name := "B", type := 23, offset := 3, embedded := false, tag := "", pkgPath := "", byteOffset := 24 }, { name := "Slot", type := 3, offset := 5, embedded := false, tag := "", pkgPath := "", byteOffset := 40 }, { name := "Num", type := 3, offset := 6, embedded := false, tag := "", pkgPath := "", byteOffset := 48 }, { name := "Value", type := 9, offset := 7, embedded := false, tag := "", pkgPath := "", byteOffset := 56 }, { name := "List", type := 24, offset := 8, embedded := false, tag := "", pkgPath := "", byteOffset := 72 }], 9, 96, .agg #[.int .i64 0, .int .i64 0, .int .i64 0, .int .i64 0, .int .i64 0, .int .i64 0, .int .i64 0, .string ⟨#[]⟩, .slice none 0 0]⟩
theorem tk26 : TIok Tryz.prog 26 ti26 := ⟨Tryz.underlying26, by kernel_rfl⟩
def ti27 : TI := ⟨.int .i64, 1, 8, .int .i64 0⟩
theorem tk27 : TIok Tryz.prog 27 ti27 := ⟨Tryz.underlying27, by kernel_rfl⟩
def ti29 : TI := ⟨.struct #[{ name := "Err", type := 27, offset := 0, embedded := false, tag := "", pkgPath := "", byteOffset := 0 }, { name := "Num", type := 2, offset := 1, embedded := false, tag := "", pkgPath := "", byteOffset := 8 }, { name := "Data", type := 9, offset := 2, embedded := false, tag := "", pkgPath := "", byteOffset := 16 }], 3, 32, .agg #[.int .i64 0, .int .i64 0, .string ⟨#[]⟩]⟩
theorem tk29 : TIok Tryz.prog 29 ti29 := ⟨Tryz.underlying29, by kernel_rfl⟩
def ti30 : TI := ⟨.func #[26] #[4] false, 1, 8, .nilFunc⟩
theorem tk30 : TIok Tryz.prog 30 ti30 := ⟨Tryz.underlying30, by kernel_rfl⟩
def ti32 : TI := ⟨.pointer 81, 1, 8, .pointer none⟩
theorem tk32 : TIok Tryz.prog 32 ti32 := ⟨Tryz.underlying32, by kernel_rfl⟩
def ti35 : TI := ⟨.pointer 92, 1, 8, .pointer none⟩
theorem tk35 : TIok Tryz.prog 35 ti35 := ⟨Tryz.underlying35, by kernel_rfl⟩
def ti39 : TI := ⟨.struct #[{ name := "Saga", type := 3, offset := 0, embedded := false, tag := "", pkgPath := "", byteOffset := 0 }, { name := "Step", type := 3, offset := 1, embedded := false, tag := "", pkgPath := "", byteOffset := 8 }, { name := "Phase", type := 3, offset := 2, embedded := false, tag := "", pkgPath := "", byteOffset := 16 }], 3, 24, .agg #[.int .i64 0, .int .i64 0, .int .i64 0]⟩
theorem tk39 : TIok Tryz.prog 39 ti39 := ⟨Tryz.underlying39, by kernel_rfl⟩
def ti40 : TI := ⟨.func #[39] #[29, 4] false, 1, 8, .nilFunc⟩
theorem tk40 : TIok Tryz.prog 40 ti40 := ⟨Tryz.underlying40, by kernel_rfl⟩
def ti41 : TI := ⟨.slice 40, 1, 24, .slice none 0 0⟩
theorem tk41 : TIok Tryz.prog 41 ti41 := ⟨Tryz.underlying41, by kernel_rfl⟩
def ti43 : TI := ⟨.struct #[{ name := "From", type := 9, offset := 0, embedded := false, tag := "", pkgPath := "", byteOffset := 0 }, { name := "To", type := 9, offset := 1, embedded := false, tag := "", pkgPath := "", byteOffset := 16 }], 2, 32, .agg #[.string ⟨#[]⟩, .string ⟨#[]⟩]⟩
theorem tk43 : TIok Tryz.prog 43 ti43 := ⟨Tryz.underlying43, by kernel_rfl⟩
def ti44 : TI := ⟨.slice 144, 1, 24, .slice none 0 0⟩
theorem tk44 : TIok Tryz.prog 44 ti44 := ⟨Tryz.underlying44, by kernel_rfl⟩
def ti46 : TI := ⟨.struct #[{ name := "Name", type := 9, offset := 0, embedded := false, tag := "", pkgPath := "", byteOffset := 0 }, { name := "Retries", type := 3, offset := 1, embedded := false, tag := "", pkgPath := "", byteOffset := 16 }, { name := "Deadline", type := 3, offset := 2, embedded := false, tag := "", pkgPath := "", byteOffset := 24 }, { name := "Steps", type := 44, offset := 3, embedded := false, tag := "", pkgPath := "", byteOffset := 32 }], 4, 56, .agg #[.string ⟨#[]⟩, .int .i64 0, .int .i64 0, .slice none 0 0]⟩
theorem tk46 : TIok Tryz.prog 46 ti46 := ⟨Tryz.underlying46, by kernel_rfl⟩
def ti48 : TI := ⟨.struct #[{ name := "Eff", type := 39, offset := 0, embedded := false, tag := "", pkgPath := "", byteOffset := 0 }, { name := "Move", type := 3, offset := 3, embedded := false, tag := "", pkgPath := "", byteOffset := 24 }, { name := "In", type := 4, offset := 4, embedded := false, tag := "", pkgPath := "", byteOffset := 32 }, { name := "Group", type := 3, offset := 5, embedded := false, tag := "", pkgPath := "", byteOffset := 40 }], 6, 48, .agg #[.int .i64 0, .int .i64 0, .int .i64 0, .int .i64 0, .bool false, .int .i64 0]⟩
theorem tk48 : TIok Tryz.prog 48 ti48 := ⟨Tryz.underlying48, by kernel_rfl⟩
def ti50 : TI := ⟨.struct #[{ name := "Kind", type := 3, offset := 0, embedded := false, tag := "", pkgPath := "", byteOffset := 0 }, { name := "Call", type := 3, offset := 1, embedded := false, tag := "", pkgPath := "", byteOffset := 8 }, { name := "Saga", type := 3, offset := 2, embedded := false, tag := "", pkgPath := "", byteOffset := 16 }, { name := "Eff", type := 39, offset := 3, embedded := false, tag := "", pkgPath := "", byteOffset := 24 }, { name := "Key", type := 9, offset := 6, embedded := false, tag := "", pkgPath := "", byteOffset := 48 }, { name := "Delta", type := 2, offset := 7, embedded := false, tag := "", pkgPath := "", byteOffset := 64 }, { name := "Move", type := 3, offset := 8, embedded := false, tag := "", pkgPath := "", byteOffset := 72 }, { name := "R", type := 43, offset := 9, embedded := false, tag := "", pkgPath := "", byteOffset := 80 }, { name := "Group", type := 3, offset := 11, embedded := false, tag := "", pkgPath := "", byteOffset := 112 }, { name := "Def", type := 46, offset := 12, embedded := false, tag := "", pkgPath := "", byteOffset := 120 }, { name := "Item", type := 48, offset := 16, embedded := false, tag := "", pkgPath := "", byteOffset := 176 }, { name := "Res", type := 27, offset := 22, embedded := false, tag := "", pkgPath := "", byteOffset := 224 }, { name := "Data", type := 9, offset := 23, embedded := false, tag := "", pkgPath := "", byteOffset := 232 }], 24, 248, .agg #[.int .i64 0, .int .i64 0, .int .i64 0, .int .i64 0, .int .i64 0, .int .i64 0, .string ⟨#[]⟩, .int .i64 0, .int .i64 0, .string ⟨#[]⟩, .string ⟨#[]⟩, .int .i64 0, .string ⟨#[]⟩, .int .i64 0, .int .i64 0, .slice none 0 0, .int .i64 0, .int .i64 0, .int .i64 0, .int .i64 0, .bool false, .int .i64 0, .int .i64 0, .string ⟨#[]⟩]⟩
theorem tk50 : TIok Tryz.prog 50 ti50 := ⟨Tryz.underlying50, by kernel_rfl⟩
def ti59 : TI := ⟨.array 2 3, 2, 16, .agg #[.int .i64 0, .int .i64 0]⟩
theorem tk59 : TIok Tryz.prog 59 ti59 := ⟨Tryz.underlying59, by kernel_rfl⟩
def ti60 : TI := ⟨.slice 59, 1, 24, .slice none 0 0⟩
theorem tk60 : TIok Tryz.prog 60 ti60 := ⟨Tryz.underlying60, by kernel_rfl⟩
def ti64 : TI := ⟨.func #[48] #[50, 4] false, 1, 8, .nilFunc⟩
theorem tk64 : TIok Tryz.prog 64 ti64 := ⟨Tryz.underlying64, by kernel_rfl⟩
def ti66 : TI := ⟨.slice 26, 1, 24, .slice none 0 0⟩
theorem tk66 : TIok Tryz.prog 66 ti66 := ⟨Tryz.underlying66, by kernel_rfl⟩
def ti68 : TI := ⟨.slice 48, 1, 24, .slice none 0 0⟩
theorem tk68 : TIok Tryz.prog 68 ti68 := ⟨Tryz.underlying68, by kernel_rfl⟩
def ti69 : TI := ⟨.slice 3, 1, 24, .slice none 0 0⟩
theorem tk69 : TIok Tryz.prog 69 ti69 := ⟨Tryz.underlying69, by kernel_rfl⟩
def ti71 : TI := ⟨.int .u16, 1, 2, .int .u16 0⟩
theorem tk71 : TIok Tryz.prog 71 ti71 := ⟨Tryz.underlying71, by kernel_rfl⟩
def ti79 : TI := ⟨.map 3 120, 1, 8, .map none⟩
theorem tk79 : TIok Tryz.prog 79 ti79 := ⟨Tryz.underlying79, by kernel_rfl⟩
def ti81 : TI := ⟨.struct #[{ name := "n", type := 3, offset := 0, embedded := false, tag := "", pkgPath := "skald/drive", byteOffset := 0 }, { name := "groups", type := 3, offset := 1, embedded := false, tag := "", pkgPath := "skald/drive", byteOffset := 8 }, { name := "ticks", type := 3, offset := 2, embedded := false, tag := "", pkgPath := "skald/drive", byteOffset := 16 }, { name := "waits", type := 79, offset := 3, embedded := false, tag := "", pkgPath := "skald/drive", byteOffset := 24 }], 4, 32, .agg #[.int .i64 0, .int .i64 0, .int .i64 0, .map none]⟩
theorem tk81 : TIok Tryz.prog 81 ti81 := ⟨Tryz.underlying81, by kernel_rfl⟩
def ti82 : TI := ⟨.slice 32, 1, 24, .slice none 0 0⟩
theorem tk82 : TIok Tryz.prog 82 ti82 := ⟨Tryz.underlying82, by kernel_rfl⟩
def ti87 : TI := ⟨.struct #[{ name := "Slot", type := 3, offset := 0, embedded := false, tag := "", pkgPath := "", byteOffset := 0 }, { name := "B", type := 23, offset := 1, embedded := false, tag := "", pkgPath := "", byteOffset := 8 }, { name := "Value", type := 9, offset := 3, embedded := false, tag := "", pkgPath := "", byteOffset := 24 }], 4, 40, .agg #[.int .i64 0, .int .i64 0, .int .i64 0, .string ⟨#[]⟩]⟩
theorem tk87 : TIok Tryz.prog 87 ti87 := ⟨Tryz.underlying87, by kernel_rfl⟩
def ti90 : TI := ⟨.slice 351, 1, 24, .slice none 0 0⟩
theorem tk90 : TIok Tryz.prog 90 ti90 := ⟨Tryz.underlying90, by kernel_rfl⟩
def ti92 : TI := ⟨.struct #[{ name := "Made", type := 4, offset := 0, embedded := false, tag := "", pkgPath := "", byteOffset := 0 }, { name := "N", type := 3, offset := 1, embedded := false, tag := "", pkgPath := "", byteOffset := 8 }, { name := "Groups", type := 3, offset := 2, embedded := false, tag := "", pkgPath := "", byteOffset := 16 }, { name := "Ticks", type := 3, offset := 3, embedded := false, tag := "", pkgPath := "", byteOffset := 24 }, { name := "L", type := 90, offset := 4, embedded := false, tag := "", pkgPath := "", byteOffset := 32 }], 5, 56, .agg #[.bool false, .int .i64 0, .int .i64 0, .int .i64 0, .slice none 0 0]⟩
theorem tk92 : TIok Tryz.prog 92 ti92 := ⟨Tryz.underlying92, by kernel_rfl⟩
def ti97 : TI := ⟨.slice 5, 1, 24, .slice none 0 0⟩
theorem tk97 : TIok Tryz.prog 97 ti97 := ⟨Tryz.underlying97, by kernel_rfl⟩
def ti102 : TI := ⟨.int .u64, 1, 8, .int .u64 0⟩
theorem tk102 : TIok Tryz.prog 102 ti102 := ⟨Tryz.underlying102, by kernel_rfl⟩
def ti106 : TI := ⟨.pointer 108, 1, 8, .pointer none⟩
theorem tk106 : TIok Tryz.prog 106 ti106 := ⟨Tryz.underlying106, by kernel_rfl⟩
def ti108 : TI := ⟨.struct #[{ name := "addr", type := 106, offset := 0, embedded := false, tag := "", pkgPath := "strings", byteOffset := 0 }, { name := "buf", type := 97, offset := 1, embedded := false, tag := "", pkgPath := "strings", byteOffset := 8 }], 2, 32, .agg #[.pointer none, .slice none 0 0]⟩
theorem tk108 : TIok Tryz.prog 108 ti108 := ⟨Tryz.underlying108, by kernel_rfl⟩
def ti116 : TI := ⟨.map 3 48, 1, 8, .map none⟩
theorem tk116 : TIok Tryz.prog 116 ti116 := ⟨Tryz.underlying116, by kernel_rfl⟩
def ti120 : TI := ⟨.struct #[{ name := "asked", type := 3, offset := 0, embedded := false, tag := "", pkgPath := "skald/drive", byteOffset := 0 }, { name := "last", type := 3, offset := 1, embedded := false, tag := "", pkgPath := "skald/drive", byteOffset := 8 }], 2, 16, .agg #[.int .i64 0, .int .i64 0]⟩
theorem tk120 : TIok Tryz.prog 120 ti120 := ⟨Tryz.underlying120, by kernel_rfl⟩
def ti122 : TI := ⟨.func #[3, 120] #[4] false, 1, 8, .nilFunc⟩
theorem tk122 : TIok Tryz.prog 122 ti122 := ⟨Tryz.underlying122, by kernel_rfl⟩
def ti130 : TI := ⟨.func #[177] #[] false, 1, 8, .nilFunc⟩
theorem tk130 : TIok Tryz.prog 130 ti130 := ⟨Tryz.underlying130, by kernel_rfl⟩
def ti135 : TI := ⟨.func #[48] #[4] false, 1, 8, .nilFunc⟩
theorem tk135 : TIok Tryz.prog 135 ti135 := ⟨Tryz.underlying135, by kernel_rfl⟩
def ti144 : TI := ⟨.struct #[{ name := "Key", type := 9, offset := 0, embedded := false, tag := "", pkgPath := "", byteOffset := 0 }, { name := "Delta", type := 2, offset := 1, embedded := false, tag := "", pkgPath := "", byteOffset := 16 }], 2, 24, .agg #[.string ⟨#[]⟩, .int .i64 0]⟩
theorem tk144 : TIok Tryz.prog 144 ti144 := ⟨Tryz.underlying144, by kernel_rfl⟩
def ti145 : TI := ⟨.pointer 209, 1, 8, .pointer none⟩
theorem tk145 : TIok Tryz.prog 145 ti145 := ⟨Tryz.underlying145, by kernel_rfl⟩
def ti148 : TI := ⟨.int .u64, 1, 8, .int .u64 0⟩
theorem tk148 : TIok Tryz.prog 148 ti148 := ⟨Tryz.underlying148, by kernel_rfl⟩
def ti152 : TI := ⟨.pointer 215, 1, 8, .pointer none⟩
theorem tk152 : TIok Tryz.prog 152 ti152 := ⟨Tryz.underlying152, by kernel_rfl⟩
def ti156 : TI := ⟨.int .u32, 1, 4, .int .u32 0⟩
theorem tk156 : TIok Tryz.prog 156 ti156 := ⟨Tryz.underlying156, by kernel_rfl⟩
def ti161 : TI := ⟨.pointer 5, 1, 8, .pointer none⟩
theorem tk161 : TIok Tryz.prog 161 ti161 := ⟨Tryz.underlying161, by kernel_rfl⟩
def ti165 : TI := ⟨.slice 174, 1, 24, .slice none 0 0⟩
theorem tk165 : TIok Tryz.prog 165 ti165 := ⟨Tryz.underlying165, by kernel_rfl⟩
def ti168 : TI := ⟨.func #[175] #[4] false, 1, 8, .nilFunc⟩
theorem tk168 : TIok Tryz.prog 168 ti168 := ⟨Tryz.underlying168, by kernel_rfl⟩
def ti169 : TI := ⟨.func #[145, 175] #[] false, 1, 8, .nilFunc⟩
theorem tk169 : TIok Tryz.prog 169 ti169 := ⟨Tryz.underlying169, by kernel_rfl⟩
def ti170 : TI := ⟨.func #[194, 175] #[] false, 1, 8, .nilFunc⟩
theorem tk170 : TIok Tryz.prog 170 ti170 := ⟨Tryz.underlying170, by kernel_rfl⟩
def ti171 : TI := ⟨.func #[175] #[9] false, 1, 8, .nilFunc⟩
theorem tk171 : TIok Tryz.prog 171 ti171 := ⟨Tryz.underlying171, by kernel_rfl⟩
def ti172 : TI := ⟨.func #[175] #[] false, 1, 8, .nilFunc⟩
theorem tk172 : TIok Tryz.prog 172 ti172 := ⟨Tryz.underlying172, by kernel_rfl⟩
def ti174 : TI := ⟨.struct #[{ name := "ok", type := 168, offset := 0, embedded := false, tag := "", pkgPath := "skald/cmds", byteOffset := 0 }, { name := "write", type := 169, offset := 1, embedded := false, tag := "", pkgPath := "skald/cmds", byteOffset := 8 }, { name := "read", type := 170, offset := 2, embedded := false, tag := "", pkgPath := "skald/cmds", byteOffset := 16 }, { name := "text", type := 171, offset := 3, embedded := false, tag := "", pkgPath := "skald/cmds", byteOffset := 24 }, { name := "clear", type := 172, offset := 4, embedded := false, tag := "", pkgPath := "skald/cmds", byteOffset := 32 }], 5, 40, .agg #[.nilFunc, .nilFunc, .nilFunc, .nilFunc, .nilFunc]⟩
theorem tk174 : TIok Tryz.prog 174 ti174 := ⟨Tryz.underlying174, by kernel_rfl⟩
def ti175 : TI := ⟨.pointer 50, 1, 8, .pointer none⟩
theorem tk175 : TIok Tryz.prog 175 ti175 := ⟨Tryz.underlying175, by kernel_rfl⟩
def ti179 : TI := ⟨.struct #[{ name := "word", type := 9, offset := 0, embedded := false, tag := "", pkgPath := "skald/msg", byteOffset := 0 }, { name := "uses", type := 3, offset := 1, embedded := false, tag := "", pkgPath := "skald/msg", byteOffset := 16 }, { name := "slot", type := 3, offset := 2, embedded := false, tag := "", pkgPath := "skald/msg", byteOffset := 24 }, { name := "low", type := 3, offset := 3, embedded := false, tag := "", pkgPath := "skald/msg", byteOffset := 32 }, { name := "high", type := 3, offset := 4, embedded := false, tag := "", pkgPath := "skald/msg", byteOffset := 40 }], 5, 48, .agg #[.string ⟨#[]⟩, .int .i64 0, .int .i64 0, .int .i64 0, .int .i64 0]⟩
theorem tk179 : TIok Tryz.prog 179 ti179 := ⟨Tryz.underlying179, by kernel_rfl⟩
def ti182 : TI := ⟨.slice 189, 1, 24, .slice none 0 0⟩
theorem tk182 : TIok Tryz.prog 182 ti182 := ⟨Tryz.underlying182, by kernel_rfl⟩
def ti184 : TI := ⟨.func #[179, 26] #[4] false, 1, 8, .nilFunc⟩
theorem tk184 : TIok Tryz.prog 184 ti184 := ⟨Tryz.underlying184, by kernel_rfl⟩
def ti185 : TI := ⟨.func #[145, 26] #[] false, 1, 8, .nilFunc⟩
theorem tk185 : TIok Tryz.prog 185 ti185 := ⟨Tryz.underlying185, by kernel_rfl⟩
def ti186 : TI := ⟨.func #[26] #[9] false, 1, 8, .nilFunc⟩
theorem tk186 : TIok Tryz.prog 186 ti186 := ⟨Tryz.underlying186, by kernel_rfl⟩
def ti187 : TI := ⟨.func #[194, 229] #[] false, 1, 8, .nilFunc⟩
theorem tk187 : TIok Tryz.prog 187 ti187 := ⟨Tryz.underlying187, by kernel_rfl⟩
def ti189 : TI := ⟨.struct #[{ name := "use", type := 3, offset := 0, embedded := false, tag := "", pkgPath := "skald/msg", byteOffset := 0 }, { name := "ok", type := 184, offset := 1, embedded := false, tag := "", pkgPath := "skald/msg", byteOffset := 8 }, { name := "zero", type := 30, offset := 2, embedded := false, tag := "", pkgPath := "skald/msg", byteOffset := 16 }, { name := "write", type := 185, offset := 3, embedded := false, tag := "", pkgPath := "skald/msg", byteOffset := 24 }, { name := "text", type := 186, offset := 4, embedded := false, tag := "", pkgPath := "skald/msg", byteOffset := 32 }, { name := "read", type := 187, offset := 5, embedded := false, tag := "", pkgPath := "skald/msg", byteOffset := 40 }], 6, 48, .agg #[.int .i64 0, .nilFunc, .nilFunc, .nilFunc, .nilFunc, .nilFunc]⟩
theorem tk189 : TIok Tryz.prog 189 ti189 := ⟨Tryz.underlying189, by kernel_rfl⟩
def ti191 : TI := ⟨.func #[87] #[4] false, 1, 8, .nilFunc⟩
theorem tk191 : TIok Tryz.prog 191 ti191 := ⟨Tryz.underlying191, by kernel_rfl⟩
def ti194 : TI := ⟨.pointer 238, 1, 8, .pointer none⟩
theorem tk194 : TIok Tryz.prog 194 ti194 := ⟨Tryz.underlying194, by kernel_rfl⟩
def ti201 : TI := ⟨.pointer 251, 1, 8, .pointer none⟩
theorem tk201 : TIok Tryz.prog 201 ti201 := ⟨Tryz.underlying201, by kernel_rfl⟩
def ti209 : TI := ⟨.struct #[{ name := "made", type := 4, offset := 0, embedded := false, tag := "", pkgPath := "skald/wire", byteOffset := 0 }, { name := "b", type := 97, offset := 1, embedded := false, tag := "", pkgPath := "skald/wire", byteOffset := 8 }], 2, 32, .agg #[.bool false, .slice none 0 0]⟩
theorem tk209 : TIok Tryz.prog 209 ti209 := ⟨Tryz.underlying209, by kernel_rfl⟩
def ti215 : TI := ⟨.struct #[{ name := "Made", type := 4, offset := 0, embedded := false, tag := "", pkgPath := "", byteOffset := 0 }, { name := "B", type := 97, offset := 1, embedded := false, tag := "", pkgPath := "", byteOffset := 8 }], 2, 32, .agg #[.bool false, .slice none 0 0]⟩
theorem tk215 : TIok Tryz.prog 215 ti215 := ⟨Tryz.underlying215, by kernel_rfl⟩
def ti225 : TI := ⟨.array 12 179, 60, 576, .agg #[.string ⟨#[]⟩, .int .i64 0, .int .i64 0, .int .i64 0, .int .i64 0, .string ⟨#[]⟩, .int .i64 0, .int .i64 0, .int .i64 0, .int .i64 0, .string ⟨#[]⟩, .int .i64 0, .int .i64 0, .int .i64 0, .int .i64 0, .string ⟨#[]⟩, .int .i64 0, .int .i64 0, .int .i64 0, .int .i64 0, .string ⟨#[]⟩, .int .i64 0, .int .i64 0, .int .i64 0, .int .i64 0, .string ⟨#[]⟩, .int .i64 0, .int .i64 0, .int .i64 0, .int .i64 0, .string ⟨#[]⟩, .int .i64 0, .int .i64 0, .int .i64 0, .int .i64 0, .string ⟨#[]⟩, .int .i64 0, .int .i64 0, .int .i64 0, .int .i64 0, .string ⟨#[]⟩, .int .i64 0, .int .i64 0, .int .i64 0, .int .i64 0, .string ⟨#[]⟩, .int .i64 0, .int .i64 0, .int .i64 0, .int .i64 0, .string ⟨#[]⟩, .int .i64 0, .int .i64 0, .int .i64 0, .int .i64 0, .string ⟨#[]⟩, .int .i64 0, .int .i64 0, .int .i64 0, .int .i64 0]⟩
theorem tk225 : TIok Tryz.prog 225 ti225 := ⟨Tryz.underlying225, by kernel_rfl⟩
def ti233 : TI := ⟨.func #[9] #[9] false, 1, 8, .nilFunc⟩
theorem tk233 : TIok Tryz.prog 233 ti233 := ⟨Tryz.underlying233, by kernel_rfl⟩
def ti235 : TI := ⟨.array 3 3, 3, 24, .agg #[.int .i64 0, .int .i64 0, .int .i64 0]⟩
theorem tk235 : TIok Tryz.prog 235 ti235 := ⟨Tryz.underlying235, by kernel_rfl⟩
def ti238 : TI := ⟨.struct #[{ name := "made", type := 4, offset := 0, embedded := false, tag := "", pkgPath := "skald/wire", byteOffset := 0 }, { name := "failed", type := 4, offset := 1, embedded := false, tag := "", pkgPath := "skald/wire", byteOffset := 1 }, { name := "left", type := 97, offset := 2, embedded := false, tag := "", pkgPath := "skald/wire", byteOffset := 8 }], 3, 32, .agg #[.bool false, .bool false, .slice none 0 0]⟩
theorem tk238 : TIok Tryz.prog 238 ti238 := ⟨Tryz.underlying238, by kernel_rfl⟩
def ti242 : TI := ⟨.func #[97] #[148, 3] false, 1, 8, .nilFunc⟩
theorem tk242 : TIok Tryz.prog 242 ti242 := ⟨Tryz.underlying242, by kernel_rfl⟩
def ti244 : TI := ⟨.func #[97] #[2, 3] false, 1, 8, .nilFunc⟩
theorem tk244 : TIok Tryz.prog 244 ti244 := ⟨Tryz.underlying244, by kernel_rfl⟩
def ti246 : TI := ⟨.func #[97] #[9, 3] false, 1, 8, .nilFunc⟩
theorem tk246 : TIok Tryz.prog 246 ti246 := ⟨Tryz.underlying246, by kernel_rfl⟩
def ti251 : TI := ⟨.struct #[{ name := "Made", type := 4, offset := 0, embedded := false, tag := "", pkgPath := "", byteOffset := 0 }, { name := "B", type := 97, offset := 1, embedded := false, tag := "", pkgPath := "", byteOffset := 8 }, { name := "Failed", type := 4, offset := 2, embedded := false, tag := "", pkgPath := "", byteOffset := 32 }], 3, 40, .agg #[.bool false, .slice none 0 0, .bool false]⟩
theorem tk251 : TIok Tryz.prog 251 ti251 := ⟨Tryz.underlying251, by kernel_rfl⟩
def ti260 : TI := ⟨.func #[175] #[259] false, 1, 8, .nilFunc⟩
theorem tk260 : TIok Tryz.prog 260 ti260 := ⟨Tryz.underlying260, by kernel_rfl⟩
def ti261 : TI := ⟨.func #[9] #[4] false, 1, 8, .nilFunc⟩
theorem tk261 : TIok Tryz.prog 261 ti261 := ⟨Tryz.underlying261, by kernel_rfl⟩
def ti264 : TI := ⟨.pointer 3, 1, 8, .pointer none⟩
theorem tk264 : TIok Tryz.prog 264 ti264 := ⟨Tryz.underlying264, by kernel_rfl⟩
def ti265 : TI := ⟨.func #[175] #[264] false, 1, 8, .nilFunc⟩
theorem tk265 : TIok Tryz.prog 265 ti265 := ⟨Tryz.underlying265, by kernel_rfl⟩
def ti272 : TI := ⟨.int .i64, 1, 8, .int .i64 0⟩
theorem tk272 : TIok Tryz.prog 272 ti272 := ⟨Tryz.underlying272, by kernel_rfl⟩
def ti285 : TI := ⟨.slice 9, 1, 24, .slice none 0 0⟩
theorem tk285 : TIok Tryz.prog 285 ti285 := ⟨Tryz.underlying285, by kernel_rfl⟩
def ti292 : TI := ⟨.func #[21] #[4] false, 1, 8, .nilFunc⟩
theorem tk292 : TIok Tryz.prog 292 ti292 := ⟨Tryz.underlying292, by kernel_rfl⟩
def ti295 : TI := ⟨.func #[144] #[4] false, 1, 8, .nilFunc⟩
theorem tk295 : TIok Tryz.prog 295 ti295 := ⟨Tryz.underlying295, by kernel_rfl⟩
def ti297 : TI := ⟨.int .u64, 1, 8, .int .u64 0⟩
theorem tk297 : TIok Tryz.prog 297 ti297 := ⟨Tryz.underlying297, by kernel_rfl⟩
def ti305 : TI := ⟨.array 256 4, 256, 256, .agg #[.bool false, .bool false, .bool false, .bool false, .bool false, .bool false, .bool false, .bool false, .bool false, .bool false, .bool false, .bool false, .bool false, .bool false, .bool false, .bool false, .bool false, .bool false, .bool false, .bool false, .bool false, .bool false, .bool false, .bool false, .bool false, .bool false, .bool false, .bool false, .bool false, .bool false, .bool false, .bool false, .bool false, .bool false, .bool false, .bool false, .bool false, .bool false, .bool false, .bool false, .bool false, .bool false, .bool false, .bool false, .bool false, .bool false, .bool false, .bool false, .bool false, .bool false, .bool false, .bool false, .bool false, .bool false, .bool false, .bool false, .bool false, .bool false, .bool false, .bool false, .bool false, .bool false, .bool false, .bool false, .bool false, .bool false, .bool false, .bool false, .bool false, .bool false, .bool false, .bool false, .bool false, .bool false, .bool false, .bool false, .bool false, .bool false, .bool false, .bool false, .bool false, .bool false, .bool false, .bool false, .bool false, .bool false, .bool false, .bool false, .bool false, .bool false, .bool false, .bool false, .bool false, .bool false, .bool false, .bool false, .bool false, .bool false, .bool false, .bool false, .bool false, .bool false, .bool false, .bool false, .bool false, .bool false, .bool false, .bool false, .bool false, .bool false, .bool false, .bool false, .bool false, .bool false, .bool false, .bool false, .bool false, .bool false, .bool false, .bool false, .bool false, .bool false, .bool false, .bool false, .bool false, .bool false, .bool false, .bool false, .bool false, .bool false, .bool false, .bool false, .bool false, .bool false, .bool false, .bool false, .bool false, .bool false, .bool false, .bool false, .bool false, .bool false, .bool false, .bool false, .bool false, .bool false, .bool false, .bool false, .bool false, .bool false, .bool false, .bool false, .bool false, .bool false, .bool false, .bool false, .bool false, .bool false, .bool false, .bool false, .bool false, .bool false, .bool false, .bool false, .bool false, .bool false, .bool false, .bool false, .bool false, .bool false, .bool false, .bool false, .bool false, .bool false, .bool false, .bool false, .bool false, .bool false, .bool false, .bool false, .bool false, .bool false, .bool false, .bool false, .bool false, .bool false, .bool false, .bool false, .bool false, .bool false, .bool false, .bool false, .bool false, .bool false, .bool false, .bool false, .bool false, .bool false, .bool false, .bool false, .bool false, .bool false, .bool false, .bool false, .bool false, .bool false, .bool false, .bool false, .bool false, .bool false, .bool false, .bool false, .bool false, .bool false, .bool false, .bool false, .bool false, .bool false, .bool false, .bool false, .bool false, .bool false, .bool false, .bool false, .bool false, .bool false, .bool false, .bool false, .bool false, .bool false, .bool false, .bool false, .bool false, .bool false, .bool false, .bool false, .bool false, .bool false, .bool false, .bool false, .bool false, .bool false, .bool false, .bool false, .bool false, .bool false, .bool false, .bool false, .bool false, .bool false, .bool false, .bool false, .bool false, .bool false, .bool false, .bool false]⟩
theorem tk305 : TIok Tryz.prog 305 ti305 := ⟨Tryz.underlying305, by kernel_rfl⟩
def ti309 : TI := ⟨.pointer 305, 1, 8, .pointer none⟩
theorem tk309 : TIok Tryz.prog 309 ti309 := ⟨Tryz.underlying309, by kernel_rfl⟩
def ti311 : TI := ⟨.array 24 5, 24, 24, .agg #[.int .u8 0, .int .u8 0, .int .u8 0, .int .u8 0, .int .u8 0, .int .u8 0, .int .u8 0, .int .u8 0, .int .u8 0, .int .u8 0, .int .u8 0, .int .u8 0, .int .u8 0, .int .u8 0, .int .u8 0, .int .u8 0, .int .u8 0, .int .u8 0, .int .u8 0, .int .u8 0, .int .u8 0, .int .u8 0, .int .u8 0, .int .u8 0]⟩
theorem tk311 : TIok Tryz.prog 311 ti311 := ⟨Tryz.underlying311, by kernel_rfl⟩
def ti326 : TI := ⟨.array 20 148, 20, 160, .agg #[.int .u64 0, .int .u64 0, .int .u64 0, .int .u64 0, .int .u64 0, .int .u64 0, .int .u64 0, .int .u64 0, .int .u64 0, .int .u64 0, .int .u64 0, .int .u64 0, .int .u64 0, .int .u64 0, .int .u64 0, .int .u64 0, .int .u64 0, .int .u64 0, .int .u64 0, .int .u64 0]⟩
theorem tk326 : TIok Tryz.prog 326 ti326 := ⟨Tryz.underlying326, by kernel_rfl⟩
def ti327 : TI := ⟨.array 65 5, 65, 65, .agg #[.int .u8 0, .int .u8 0, .int .u8 0, .int .u8 0, .int .u8 0, .int .u8 0, .int .u8 0, .int .u8 0, .int .u8 0, .int .u8 0, .int .u8 0, .int .u8 0, .int .u8 0, .int .u8 0, .int .u8 0, .int .u8 0, .int .u8 0, .int .u8 0, .int .u8 0, .int .u8 0, .int .u8 0, .int .u8 0, .int .u8 0, .int .u8 0, .int .u8 0, .int .u8 0, .int .u8 0, .int .u8 0, .int .u8 0, .int .u8 0, .int .u8 0, .int .u8 0, .int .u8 0, .int .u8 0, .int .u8 0, .int .u8 0, .int .u8 0, .int .u8 0, .int .u8 0, .int .u8 0, .int .u8 0, .int .u8 0, .int .u8 0, .int .u8 0, .int .u8 0, .int .u8 0, .int .u8 0, .int .u8 0, .int .u8 0, .int .u8 0, .int .u8 0, .int .u8 0, .int .u8 0, .int .u8 0, .int .u8 0, .int .u8 0, .int .u8 0, .int .u8 0, .int .u8 0, .int .u8 0, .int .u8 0, .int .u8 0, .int .u8 0, .int .u8 0, .int .u8 0]⟩
theorem tk327 : TIok Tryz.prog 327 ti327 := ⟨Tryz.underlying327, by kernel_rfl⟩
def ti328 : TI := ⟨.array 16 156, 16, 64, .agg #[.int .u32 0, .int .u32 0, .int .u32 0, .int .u32 0, .int .u32 0, .int .u32 0, .int .u32 0, .int .u32 0, .int .u32 0, .int .u32 0, .int .u32 0, .int .u32 0, .int .u32 0, .int .u32 0, .int .u32 0, .int .u32 0]⟩
theorem tk328 : TIok Tryz.prog 328 ti328 := ⟨Tryz.underlying328, by kernel_rfl⟩
def ti330 : TI := ⟨.array 256 5, 256, 256, .agg #[.int .u8 0, .int .u8 0, .int .u8 0, .int .u8 0, .int .u8 0, .int .u8 0, .int .u8 0, .int .u8 0, .int .u8 0, .int .u8 0, .int .u8 0, .int .u8 0, .int .u8 0, .int .u8 0, .int .u8 0, .int .u8 0, .int .u8 0, .int .u8 0, .int .u8 0, .int .u8 0, .int .u8 0, .int .u8 0, .int .u8 0, .int .u8 0, .int .u8 0, .int .u8 0, .int .u8 0, .int .u8 0, .int .u8 0, .int .u8 0, .int .u8 0, .int .u8 0, .int .u8 0, .int .u8 0, .int .u8 0, .int .u8 0, .int .u8 0, .int .u8 0, .int .u8 0, .int .u8 0, .int .u8 0, .int .u8 0, .int .u8 0, .int .u8 0, .int .u8 0, .int .u8 0, .int .u8 0, .int .u8 0, .int .u8 0, .int .u8 0, .int .u8 0, .int .u8 0, .int .u8 0, .int .u8 0, .int .u8 0, .int .u8 0, .int .u8 0, .int .u8 0, .int .u8 0, .int .u8 0, .int .u8 0, .int .u8 0, .int .u8 0, .int .u8 0, .int .u8 0, .int .u8 0, .int .u8 0, .int .u8 0, .int .u8 0, .int .u8 0, .int .u8 0, .int .u8 0, .int .u8 0, .int .u8 0, .int .u8 0, .int .u8 0, .int .u8 0, .int .u8 0, .int .u8 0, .int .u8 0, .int .u8 0, .int .u8 0, .int .u8 0, .int .u8 0, .int .u8 0, .int .u8 0, .int .u8 0, .int .u8 0, .int .u8 0, .int .u8 0, .int .u8 0, .int .u8 0, .int .u8 0, .int .u8 0, .int .u8 0, .int .u8 0, .int .u8 0, .int .u8 0, .int .u8 0, .int .u8 0, .int .u8 0, .int .u8 0, .int .u8 0, .int .u8 0, .int .u8 0, .int .u8 0, .int .u8 0, .int .u8 0, .int .u8 0, .int .u8 0, .int .u8 0, .int .u8 0, .int .u8 0, .int .u8 0, .int .u8 0, .int .u8 0, .int .u8 0, .int .u8 0, .int .u8 0, .int .u8 0, .int .u8 0, .int .u8 0, .int .u8 0, .int .u8 0, .int .u8 0, .int .u8 0, .int .u8 0, .int .u8 0, .int .u8 0, .int .u8 0, .int .u8 0, .int .u8 0, .int .u8 0, .int .u8 0, .int .u8 0, .int .u8 0, .int .u8 0, .int .u8 0, .int .u8 0, .int .u8 0, .int .u8 0, .int .u8 0, .int .u8 0, .int .u8 0, .int .u8 0, .int .u8 0, .int .u8 0, .int .u8 0, .int .u8 0, .int .u8 0, .int .u8 0, .int .u8 0, .int .u8 0, .int .u8 0, .int .u8 0, .int .u8 0, .int .u8 0, .int .u8 0, .int .u8 0, .int .u8 0, .int .u8 0, .int .u8 0, .int .u8 0, .int .u8 0, .int .u8 0, .int .u8 0, .int .u8 0, .int .u8 0, .int .u8 0, .int .u8 0, .int .u8 0, .int .u8 0, .int .u8 0, .int .u8 0, .int .u8 0, .int .u8 0, .int .u8 0, .int .u8 0, .int .u8 0, .int .u8 0, .int .u8 0, .int .u8 0, .int .u8 0, .int .u8 0, .int .u8 0, .int .u8 0, .int .u8 0, .int .u8 0, .int .u8 0, .int .u8 0, .int .u8 0, .int .u8 0, .int .u8 0, .int .u8 0, .int .u8 0, .int .u8 0, .int .u8 0, .int .u8 0, .int .u8 0, .int .u8 0, .int .u8 0, .int .u8 0, .int .u8 0, .int .u8 0, .int .u8 0, .int .u8 0, .int .u8 0, .int .u8 0, .int .u8 0, .int .u8 0, .int .u8 0, .int .u8 0, .int .u8 0, .int .u8 0, .int .u8 0, .int .u8 0, .int .u8 0, .int .u8 0, .int .u8 0, .int .u8 0, .int .u8 0, .int .u8 0, .int .u8 0, .int .u8 0, .int .u8 0, .int .u8 0, .int .u8 0, .int .u8 0, .int .u8 0, .int .u8 0, .int .u8 0, .int .u8 0, .int .u8 0, .int .u8 0, .int .u8 0, .int .u8 0, .int .u8 0, .int .u8 0, .int .u8 0, .int .u8 0, .int .u8 0, .int .u8 0, .int .u8 0, .int .u8 0, .int .u8 0, .int .u8 0, .int .u8 0, .int .u8 0, .int .u8 0, .int .u8 0, .int .u8 0, .int .u8 0, .int .u8 0, .int .u8 0, .int .u8 0, .int .u8 0]⟩
theorem tk330 : TIok Tryz.prog 330 ti330 := ⟨Tryz.underlying330, by kernel_rfl⟩
def ti332 : TI := ⟨.struct #[{ name := "lo", type := 5, offset := 0, embedded := false, tag := "", pkgPath := "unicode/utf8", byteOffset := 0 }, { name := "hi", type := 5, offset := 1, embedded := false, tag := "", pkgPath := "unicode/utf8", byteOffset := 1 }], 2, 2, .agg #[.int .u8 0, .int .u8 0]⟩
theorem tk332 : TIok Tryz.prog 332 ti332 := ⟨Tryz.underlying332, by kernel_rfl⟩
def ti333 : TI := ⟨.array 16 332, 32, 32, .agg #[.int .u8 0, .int .u8 0, .int .u8 0, .int .u8 0, .int .u8 0, .int .u8 0, .int .u8 0, .int .u8 0, .int .u8 0, .int .u8 0, .int .u8 0, .int .u8 0, .int .u8 0, .int .u8 0, .int .u8 0, .int .u8 0, .int .u8 0, .int .u8 0, .int .u8 0, .int .u8 0, .int .u8 0, .int .u8 0, .int .u8 0, .int .u8 0, .int .u8 0, .int .u8 0, .int .u8 0, .int .u8 0, .int .u8 0, .int .u8 0, .int .u8 0, .int .u8 0]⟩
theorem tk333 : TIok Tryz.prog 333 ti333 := ⟨Tryz.underlying333, by kernel_rfl⟩
def ti336 : TI := ⟨.array 32 5, 32, 32, .agg #[.int .u8 0, .int .u8 0, .int .u8 0, .int .u8 0, .int .u8 0, .int .u8 0, .int .u8 0, .int .u8 0, .int .u8 0, .int .u8 0, .int .u8 0, .int .u8 0, .int .u8 0, .int .u8 0, .int .u8 0, .int .u8 0, .int .u8 0, .int .u8 0, .int .u8 0, .int .u8 0, .int .u8 0, .int .u8 0, .int .u8 0, .int .u8 0, .int .u8 0, .int .u8 0, .int .u8 0, .int .u8 0, .int .u8 0, .int .u8 0, .int .u8 0, .int .u8 0]⟩
theorem tk336 : TIok Tryz.prog 336 ti336 := ⟨Tryz.underlying336, by kernel_rfl⟩
def ti337 : TI := ⟨.array 64 5, 64, 64, .agg #[.int .u8 0, .int .u8 0, .int .u8 0, .int .u8 0, .int .u8 0, .int .u8 0, .int .u8 0, .int .u8 0, .int .u8 0, .int .u8 0, .int .u8 0, .int .u8 0, .int .u8 0, .int .u8 0, .int .u8 0, .int .u8 0, .int .u8 0, .int .u8 0, .int .u8 0, .int .u8 0, .int .u8 0, .int .u8 0, .int .u8 0, .int .u8 0, .int .u8 0, .int .u8 0, .int .u8 0, .int .u8 0, .int .u8 0, .int .u8 0, .int .u8 0, .int .u8 0, .int .u8 0, .int .u8 0, .int .u8 0, .int .u8 0, .int .u8 0, .int .u8 0, .int .u8 0, .int .u8 0, .int .u8 0, .int .u8 0, .int .u8 0, .int .u8 0, .int .u8 0, .int .u8 0, .int .u8 0, .int .u8 0, .int .u8 0, .int .u8 0, .int .u8 0, .int .u8 0, .int .u8 0, .int .u8 0, .int .u8 0, .int .u8 0, .int .u8 0, .int .u8 0, .int .u8 0, .int .u8 0, .int .u8 0, .int .u8 0, .int .u8 0, .int .u8 0]⟩
theorem tk337 : TIok Tryz.prog 337 ti337 := ⟨Tryz.underlying337, by kernel_rfl⟩
def TB : TR := (.node (.node (.node (.node (.node (.node (.node .leaf 2 ti2 .leaf) 3 ti3 (.node .leaf 4 ti4 .leaf)) 5 ti5 (.node (.node .leaf 9 ti9 .leaf) 20 ti20 .leaf)) 21 ti21 (.node (.node (.node .leaf 23 ti23 .leaf) 24 ti24 .leaf) 26 ti26 (.node (.node .leaf 27 ti27 .leaf) 29 ti29 .leaf))) 30 ti30 (.node (.node (.node (.node .leaf 32 ti32 .leaf) 35 ti35 .leaf) 39 ti39 (.node (.node .leaf 40 ti40 .leaf) 41 ti41 .leaf)) 43 ti43 (.node (.node (.node .leaf 44 ti44 .leaf) 46 ti46 .leaf) 48 ti48 (.node (.node .leaf 50 ti50 .leaf) 59 ti59 .leaf)))) 60 ti60 (.node (.node (.node (.node (.node .leaf 64 ti64 .leaf) 66 ti66 (.node .leaf 68 ti68 .leaf)) 69 ti69 (.node (.node .leaf 71 ti71 .leaf) 79 ti79 .leaf)) 81 ti81 (.node (.node (.node .leaf 82 ti82 .leaf) 87 ti87 .leaf) 90 ti90 (.node (.node .leaf 92 ti92 .leaf) 97 ti97 .leaf))) 102 ti102 (.node (.node (.node (.node .leaf 106 ti106 .leaf) 108 ti108 .leaf) 116 ti116 (.node (.node .leaf 120 ti120 .leaf) 122 ti122 .leaf)) 130 ti130 (.node (.node (.node .leaf 135 ti135 .leaf) 144 ti144 .leaf) 145 ti145 (.node (.node .leaf 148 ti148 .leaf) 152 ti152 .leaf))))) 156 ti156 (.node (.node (.node (.node (.node (.node .leaf 161 ti161 .leaf) 165 ti165 (.node .leaf 168 ti168 .leaf)) 169 ti169 (.node (.node .leaf 170 ti170 .leaf) 171 ti171 .leaf)) 172 ti172 (.node (.node (.node .leaf 174 ti174 .leaf) 175 ti175 .leaf) 179 ti179 (.node (.node .leaf 182 ti182 .leaf) 184 ti184 .leaf))) 185 ti185 (.node (.node (.node (.node .leaf 186 ti186 .leaf) 187 ti187 .leaf) 189 ti189 (.node (.node .leaf 191 ti191 .leaf) 194 ti194 .leaf)) 201 ti201 (.node (.node (.node .leaf 209 ti209 .leaf) 215 ti215 .leaf) 225 ti225 (.node (.node .leaf 233 ti233 .leaf) 235 ti235 .leaf)))) 238 ti238 (.node (.node (.node (.node (.node .leaf 242 ti242 .leaf) 244 ti244 (.node .leaf 246 ti246 .leaf)) 251 ti251 (.node (.node .leaf 260 ti260 .leaf) 261 ti261 .leaf)) 264 ti264 (.node (.node (.node .leaf 265 ti265 .leaf) 272 ti272 .leaf) 285 ti285 (.node (.node .leaf 292 ti292 .leaf) 295 ti295 .leaf))) 297 ti297 (.node (.node (.node (.node .leaf 305 ti305 .leaf) 309 ti309 .leaf) 311 ti311 (.node (.node .leaf 326 ti326 .leaf) 327 ti327 .leaf)) 328 ti328 (.node (.node (.node .leaf 330 ti330 .leaf) 332 ti332 .leaf) 333 ti333 (.node (.node .leaf 336 ti336 .leaf) 337 ti337 .leaf))))))
theorem TBok : TOk Tryz.prog TB := (TOk.node (TOk.node (TOk.node (TOk.node (TOk.node (TOk.node (TOk.node TOk.leaf tk2 TOk.leaf) tk3 (TOk.node TOk.leaf tk4 TOk.leaf)) tk5 (TOk.node (TOk.node TOk.leaf tk9 TOk.leaf) tk20 TOk.leaf)) tk21 (TOk.node (TOk.node (TOk.node TOk.leaf tk23 TOk.leaf) tk24 TOk.leaf) tk26 (TOk.node (TOk.node TOk.leaf tk27 TOk.leaf) tk29 TOk.leaf))) tk30 (TOk.node (TOk.node (TOk.node (TOk.node TOk.leaf tk32 TOk.leaf) tk35 TOk.leaf) tk39 (TOk.node (TOk.node TOk.leaf tk40 TOk.leaf) tk41 TOk.leaf)) tk43 (TOk.node (TOk.node (TOk.node TOk.leaf tk44 TOk.leaf) tk46 TOk.leaf) tk48 (TOk.node (TOk.node TOk.leaf tk50 TOk.leaf) tk59 TOk.leaf)))) tk60 (TOk.node (TOk.node (TOk.node (TOk.node (TOk.node TOk.leaf tk64 TOk.leaf) tk66 (TOk.node TOk.leaf tk68 TOk.leaf)) tk69 (TOk.node (TOk.node TOk.leaf tk71 TOk.leaf) tk79 TOk.leaf)) tk81 (TOk.node (TOk.node (TOk.node TOk.leaf tk82 TOk.leaf) tk87 TOk.leaf) tk90 (TOk.node (TOk.node TOk.leaf tk92 TOk.leaf) tk97 TOk.leaf))) tk102 (TOk.node (TOk.node (TOk.node (TOk.node TOk.leaf tk106 TOk.leaf) tk108 TOk.leaf) tk116 (TOk.node (TOk.node TOk.leaf tk120 TOk.leaf) tk122 TOk.leaf)) tk130 (TOk.node (TOk.node (TOk.node TOk.leaf tk135 TOk.leaf) tk144 TOk.leaf) tk145 (TOk.node (TOk.node TOk.leaf tk148 TOk.leaf) tk152 TOk.leaf))))) tk156 (TOk.node (TOk.node (TOk.node (TOk.node (TOk.node (TOk.node TOk.leaf tk161 TOk.leaf) tk165 (TOk.node TOk.leaf tk168 TOk.leaf)) tk169 (TOk.node (TOk.node TOk.leaf tk170 TOk.leaf) tk171 TOk.leaf)) tk172 (TOk.node (TOk.node (TOk.node TOk.leaf tk174 TOk.leaf) tk175 TOk.leaf) tk179 (TOk.node (TOk.node TOk.leaf tk182 TOk.leaf) tk184 TOk.leaf))) tk185 (TOk.node (TOk.node (TOk.node (TOk.node TOk.leaf tk186 TOk.leaf) tk187 TOk.leaf) tk189 (TOk.node (TOk.node TOk.leaf tk191 TOk.leaf) tk194 TOk.leaf)) tk201 (TOk.node (TOk.node (TOk.node TOk.leaf tk209 TOk.leaf) tk215 TOk.leaf) tk225 (TOk.node (TOk.node TOk.leaf tk233 TOk.leaf) tk235 TOk.leaf)))) tk238 (TOk.node (TOk.node (TOk.node (TOk.node (TOk.node TOk.leaf tk242 TOk.leaf) tk244 (TOk.node TOk.leaf tk246 TOk.leaf)) tk251 (TOk.node (TOk.node TOk.leaf tk260 TOk.leaf) tk261 TOk.leaf)) tk264 (TOk.node (TOk.node (TOk.node TOk.leaf tk265 TOk.leaf) tk272 TOk.leaf) tk285 (TOk.node (TOk.node TOk.leaf tk292 TOk.leaf) tk295 TOk.leaf))) tk297 (TOk.node (TOk.node (TOk.node (TOk.node TOk.leaf tk305 TOk.leaf) tk309 TOk.leaf) tk311 (TOk.node (TOk.node TOk.leaf tk326 TOk.leaf) tk327 TOk.leaf)) tk328 (TOk.node (TOk.node (TOk.node TOk.leaf tk330 TOk.leaf) tk332 TOk.leaf) tk333 (TOk.node (TOk.node TOk.leaf tk336 TOk.leaf) tk337 TOk.leaf))))))
end Go.Proofs.YtbgnoibellfojaaGreatDoor

namespace Go.X
open Go
def sokB (P : Program) (L : List Nat) : Bool := L.all fun t => !P.stoodInHeld t && !P.eqGuardType P.depth t && (P.fieldsOf t).toList.all fun f => f.name != "_"
theorem sokB_spec {P : Program} {L : List Nat} (h : sokB P L = true) : SOk P L := by
  intro t ht
  have := List.all_eq_true.1 h t ht
  simp only [Bool.and_eq_true, Bool.not_eq_true', List.all_eq_true, bne_iff_ne, ne_eq] at this
  exact ⟨this.1.1, this.1.2, this.2⟩
end Go.X
namespace Go.Proofs.YtbgnoibellfojaaGreatDoor
open Go Go.X
theorem mixed : Tryz.prog.follows .mixedOrders = true := by kernel_rfl
def SL : List Nat := [39, 43, 48, 87, 23, 50]
theorem sok : SOk Tryz.prog [23, 39, 43, 48] := sokB_spec (by kernel_rfl)
end Go.Proofs.YtbgnoibellfojaaGreatDoor

namespace Go.Proofs.YtbgnoibellfojaaGreatDoor
open Go Go.X
set_option maxRecDepth 100000
theorem in132 {n n' : Nat} {x : Code} {rs : List ResultVar} {W : World} {S : Nat → Prop} {r : Option Nat} {args : List SV} {H : List Blk} {nx : K1} (hn : Tryz.f132.ntmps = n') (hlen : Nat.ble (lenL args) n' = true) (hb : Tryz.f132.body = some x) (hrs : Tryz.f132.results.toList = rs)
    (h : ∀ A : Ass, snocF H (.ext 0 A) (fun H' => envF 0 args (fun E => Run ⟨Tryz.prog, TB, n', W, S, none, TBok⟩ x E H' (inK ⟨Tryz.prog, TB, n', W, S, none, TBok⟩ A rs nx)))) :
    CallK ⟨Tryz.prog, TB, n, W, S, r, TBok⟩ 132 args H nx := CallK.inline Tryz.func132 hb rfl hn hlen hrs h
theorem in279 {n n' : Nat} {x : Code} {rs : List ResultVar} {W : World} {S : Nat → Prop} {r : Option Nat} {args : List SV} {H : List Blk} {nx : K1} (hn : Tryz.f279.ntmps = n') (hlen : Nat.ble (lenL args) n' = true) (hb : Tryz.f279.body = some x) (hrs : Tryz.f279.results.toList = rs)
    (h : ∀ A : Ass, snocF H (.ext 0 A) (fun H' => envF 0 args (fun E => Run ⟨Tryz.prog, TB, n', W, S, none, TBok⟩ x E H' (inK ⟨Tryz.prog, TB, n', W, S, none, TBok⟩ A rs nx)))) :
    CallK ⟨Tryz.prog, TB, n, W, S, r, TBok⟩ 279 args H nx := CallK.inline Tryz.func279 hb rfl hn hlen hrs h
theorem in193 {n n' : Nat} {x : Code} {rs : List ResultVar} {W : World} {S : Nat → Prop} {r : Option Nat} {args : List SV} {H : List Blk} {nx : K1} (hn : Tryz.f193.ntmps = n') (hlen : Nat.ble (lenL args) n' = true) (hb : Tryz.f193.body = some x) (hrs : Tryz.f193.results.toList = rs)
    (h : ∀ A : Ass, snocF H (.ext 0 A) (fun H' => envF 0 args (fun E => Run ⟨Tryz.prog, TB, n', W, S, none, TBok⟩ x E H' (inK ⟨Tryz.prog, TB, n', W, S, none, TBok⟩ A rs nx)))) :
    CallK ⟨Tryz.prog, TB, n, W, S, r, TBok⟩ 193 args H nx := CallK.inline Tryz.func193 hb rfl hn hlen hrs h
theorem in192 {n n' : Nat} {x : Code} {rs : List ResultVar} {W : World} {S : Nat → Prop} {r : Option Nat} {args : List SV} {H : List Blk} {nx : K1} (hn : Tryz.f192.ntmps = n') (hlen : Nat.ble (lenL args) n' = true) (hb : Tryz.f192.body = some x) (hrs : Tryz.f192.results.toList = rs)
    (h : ∀ A : Ass, snocF H (.ext 0 A) (fun H' => envF 0 args (fun E => Run ⟨Tryz.prog, TB, n', W, S, none, TBok⟩ x E H' (inK ⟨Tryz.prog, TB, n', W, S, none, TBok⟩ A rs nx)))) :
    CallK ⟨Tryz.prog, TB, n, W, S, r, TBok⟩ 192 args H nx := CallK.inline Tryz.func192 hb rfl hn hlen hrs h
theorem in194 {n n' : Nat} {x : Code} {rs : List ResultVar} {W : World} {S : Nat → Prop} {r : Option Nat} {args : List SV} {H : List Blk} {nx : K1} (hn : Tryz.f194.ntmps = n') (hlen : Nat.ble (lenL args) n' = true) (hb : Tryz.f194.body = some x) (hrs : Tryz.f194.results.toList = rs)
    (h : ∀ A : Ass, snocF H (.ext 0 A) (fun H' => envF 0 args (fun E => Run ⟨Tryz.prog, TB, n', W, S, none, TBok⟩ x E H' (inK ⟨Tryz.prog, TB, n', W, S, none, TBok⟩ A rs nx)))) :
    CallK ⟨Tryz.prog, TB, n, W, S, r, TBok⟩ 194 args H nx := CallK.inline Tryz.func194 hb rfl hn hlen hrs h
theorem in198 {n n' : Nat} {x : Code} {rs : List ResultVar} {W : World} {S : Nat → Prop} {r : Option Nat} {args : List SV} {H : List Blk} {nx : K1} (hn : Tryz.f198.ntmps = n') (hlen : Nat.ble (lenL args) n' = true) (hb : Tryz.f198.body = some x) (hrs : Tryz.f198.results.toList = rs)
    (h : ∀ A : Ass, snocF H (.ext 0 A) (fun H' => envF 0 args (fun E => Run ⟨Tryz.prog, TB, n', W, S, none, TBok⟩ x E H' (inK ⟨Tryz.prog, TB, n', W, S, none, TBok⟩ A rs nx)))) :
    CallK ⟨Tryz.prog, TB, n, W, S, r, TBok⟩ 198 args H nx := CallK.inline Tryz.func198 hb rfl hn hlen hrs h
theorem in133 {n n' : Nat} {x : Code} {rs : List ResultVar} {W : World} {S : Nat → Prop} {r : Option Nat} {args : List SV} {H : List Blk} {nx : K1} (hn : Tryz.f133.ntmps = n') (hlen : Nat.ble (lenL args) n' = true) (hb : Tryz.f133.body = some x) (hrs : Tryz.f133.results.toList = rs)
    (h : ∀ A : Ass, snocF H (.ext 0 A) (fun H' => envF 0 args (fun E => Run ⟨Tryz.prog, TB, n', W, S, none, TBok⟩ x E H' (inK ⟨Tryz.prog, TB, n', W, S, none, TBok⟩ A rs nx)))) :
    CallK ⟨Tryz.prog, TB, n, W, S, r, TBok⟩ 133 args H nx := CallK.inline Tryz.func133 hb rfl hn hlen hrs h
theorem in83 {n n' : Nat} {x : Code} {rs : List ResultVar} {W : World} {S : Nat → Prop} {r : Option Nat} {args : List SV} {H : List Blk} {nx : K1} (hn : Tryz.f83.ntmps = n') (hlen : Nat.ble (lenL args) n' = true) (hb : Tryz.f83.body = some x) (hrs : Tryz.f83.results.toList = rs)
    (h : ∀ A : Ass, snocF H (.ext 0 A) (fun H' => envF 0 args (fun E => Run ⟨Tryz.prog, TB, n', W, S, none, TBok⟩ x E H' (inK ⟨Tryz.prog, TB, n', W, S, none, TBok⟩ A rs nx)))) :
    CallK ⟨Tryz.prog, TB, n, W, S, r, TBok⟩ 83 args H nx := CallK.inline Tryz.func83 hb rfl hn hlen hrs h
theorem in84 {n n' : Nat} {x : Code} {rs : List ResultVar} {W : World} {S : Nat → Prop} {r : Option Nat} {args : List SV} {H : List Blk} {nx : K1} (hn : Tryz.f84.ntmps = n') (hlen : Nat.ble (lenL args) n' = true) (hb : Tryz.f84.body = some x) (hrs : Tryz.f84.results.toList = rs)
    (h : ∀ A : Ass, snocF H (.ext 0 A) (fun H' => envF 0 args (fun E => Run ⟨Tryz.prog, TB, n', W, S, none, TBok⟩ x E H' (inK ⟨Tryz.prog, TB, n', W, S, none, TBok⟩ A rs nx)))) :
    CallK ⟨Tryz.prog, TB, n, W, S, r, TBok⟩ 84 args H nx := CallK.inline Tryz.func84 hb rfl hn hlen hrs h
theorem in134 {n n' : Nat} {x : Code} {rs : List ResultVar} {W : World} {S : Nat → Prop} {r : Option Nat} {args : List SV} {H : List Blk} {nx : K1} (hn : Tryz.f134.ntmps = n') (hlen : Nat.ble (lenL args) n' = true) (hb : Tryz.f134.body = some x) (hrs : Tryz.f134.results.toList = rs)
    (h : ∀ A : Ass, snocF H (.ext 0 A) (fun H' => envF 0 args (fun E => Run ⟨Tryz.prog, TB, n', W, S, none, TBok⟩ x E H' (inK ⟨Tryz.prog, TB, n', W, S, none, TBok⟩ A rs nx)))) :
    CallK ⟨Tryz.prog, TB, n, W, S, r, TBok⟩ 134 args H nx := CallK.inline Tryz.func134 hb rfl hn hlen hrs h
theorem in135 {n n' : Nat} {x : Code} {rs : List ResultVar} {W : World} {S : Nat → Prop} {r : Option Nat} {args : List SV} {H : List Blk} {nx : K1} (hn : Tryz.f135.ntmps = n') (hlen : Nat.ble (lenL args) n' = true) (hb : Tryz.f135.body = some x) (hrs : Tryz.f135.results.toList = rs)
    (h : ∀ A : Ass, snocF H (.ext 0 A) (fun H' => envF 0 args (fun E => Run ⟨Tryz.prog, TB, n', W, S, none, TBok⟩ x E H' (inK ⟨Tryz.prog, TB, n', W, S, none, TBok⟩ A rs nx)))) :
    CallK ⟨Tryz.prog, TB, n, W, S, r, TBok⟩ 135 args H nx := CallK.inline Tryz.func135 hb rfl hn hlen hrs h
theorem in113 {n n' : Nat} {x : Code} {rs : List ResultVar} {W : World} {S : Nat → Prop} {r : Option Nat} {args : List SV} {H : List Blk} {nx : K1} (hn : Tryz.f113.ntmps = n') (hlen : Nat.ble (lenL args) n' = true) (hb : Tryz.f113.body = some x) (hrs : Tryz.f113.results.toList = rs)
    (h : ∀ A : Ass, snocF H (.ext 0 A) (fun H' => envF 0 args (fun E => Run ⟨Tryz.prog, TB, n', W, S, none, TBok⟩ x E H' (inK ⟨Tryz.prog, TB, n', W, S, none, TBok⟩ A rs nx)))) :
    CallK ⟨Tryz.prog, TB, n, W, S, r, TBok⟩ 113 args H nx := CallK.inline Tryz.func113 hb rfl hn hlen hrs h
theorem in117 {n n' : Nat} {x : Code} {rs : List ResultVar} {W : World} {S : Nat → Prop} {r : Option Nat} {args : List SV} {H : List Blk} {nx : K1} (hn : Tryz.f117.ntmps = n') (hlen : Nat.ble (lenL args) n' = true) (hb : Tryz.f117.body = some x) (hrs : Tryz.f117.results.toList = rs)
    (h : ∀ A : Ass, snocF H (.ext 0 A) (fun H' => envF 0 args (fun E => Run ⟨Tryz.prog, TB, n', W, S, none, TBok⟩ x E H' (inK ⟨Tryz.prog, TB, n', W, S, none, TBok⟩ A rs nx)))) :
    CallK ⟨Tryz.prog, TB, n, W, S, r, TBok⟩ 117 args H nx := CallK.inline Tryz.func117 hb rfl hn hlen hrs h
theorem in82 {n n' : Nat} {x : Code} {rs : List ResultVar} {W : World} {S : Nat → Prop} {r : Option Nat} {args : List SV} {H : List Blk} {nx : K1} (hn : Tryz.f82.ntmps = n') (hlen : Nat.ble (lenL args) n' = true) (hb : Tryz.f82.body = some x) (hrs : Tryz.f82.results.toList = rs)
    (h : ∀ A : Ass, snocF H (.ext 0 A) (fun H' => envF 0 args (fun E => Run ⟨Tryz.prog, TB, n', W, S, none, TBok⟩ x E H' (inK ⟨Tryz.prog, TB, n', W, S, none, TBok⟩ A rs nx)))) :
    CallK ⟨Tryz.prog, TB, n, W, S, r, TBok⟩ 82 args H nx := CallK.inline Tryz.func82 hb rfl hn hlen hrs h
theorem in191 {n n' : Nat} {x : Code} {rs : List ResultVar} {W : World} {S : Nat → Prop} {r : Option Nat} {args : List SV} {H : List Blk} {nx : K1} (hn : Tryz.f191.ntmps = n') (hlen : Nat.ble (lenL args) n' = true) (hb : Tryz.f191.body = some x) (hrs : Tryz.f191.results.toList = rs)
    (h : ∀ A : Ass, snocF H (.ext 0 A) (fun H' => envF 0 args (fun E => Run ⟨Tryz.prog, TB, n', W, S, none, TBok⟩ x E H' (inK ⟨Tryz.prog, TB, n', W, S, none, TBok⟩ A rs nx)))) :
    CallK ⟨Tryz.prog, TB, n, W, S, r, TBok⟩ 191 args H nx := CallK.inline Tryz.func191 hb rfl hn hlen hrs h
theorem in195 {n n' : Nat} {x : Code} {rs : List ResultVar} {W : World} {S : Nat → Prop} {r : Option Nat} {args : List SV} {H : List Blk} {nx : K1} (hn : Tryz.f195.ntmps = n') (hlen : Nat.ble (lenL args) n' = true) (hb : Tryz.f195.body = some x) (hrs : Tryz.f195.results.toList = rs)
    (h : ∀ A : Ass, snocF H (.ext 0 A) (fun H' => envF 0 args (fun E => Run ⟨Tryz.prog, TB, n', W, S, none, TBok⟩ x E H' (inK ⟨Tryz.prog, TB, n', W, S, none, TBok⟩ A rs nx)))) :
    CallK ⟨Tryz.prog, TB, n, W, S, r, TBok⟩ 195 args H nx := CallK.inline Tryz.func195 hb rfl hn hlen hrs h
theorem in197 {n n' : Nat} {x : Code} {rs : List ResultVar} {W : World} {S : Nat → Prop} {r : Option Nat} {args : List SV} {H : List Blk} {nx : K1} (hn : Tryz.f197.ntmps = n') (hlen : Nat.ble (lenL args) n' = true) (hb : Tryz.f197.body = some x) (hrs : Tryz.f197.results.toList = rs)
    (h : ∀ A : Ass, snocF H (.ext 0 A) (fun H' => envF 0 args (fun E => Run ⟨Tryz.prog, TB, n', W, S, none, TBok⟩ x E H' (inK ⟨Tryz.prog, TB, n', W, S, none, TBok⟩ A rs nx)))) :
    CallK ⟨Tryz.prog, TB, n, W, S, r, TBok⟩ 197 args H nx := CallK.inline Tryz.func197 hb rfl hn hlen hrs h
theorem in199 {n n' : Nat} {x : Code} {rs : List ResultVar} {W : World} {S : Nat → Prop} {r : Option Nat} {args : List SV} {H : List Blk} {nx : K1} (hn : Tryz.f199.ntmps = n') (hlen : Nat.ble (lenL args) n' = true) (hb : Tryz.f199.body = some x) (hrs : Tryz.f199.results.toList = rs)
    (h : ∀ A : Ass, snocF H (.ext 0 A) (fun H' => envF 0 args (fun E => Run ⟨Tryz.prog, TB, n', W, S, none, TBok⟩ x E H' (inK ⟨Tryz.prog, TB, n', W, S, none, TBok⟩ A rs nx)))) :
    CallK ⟨Tryz.prog, TB, n, W, S, r, TBok⟩ 199 args H nx := CallK.inline Tryz.func199 hb rfl hn hlen hrs h
theorem in331 {n n' : Nat} {x : Code} {rs : List ResultVar} {W : World} {S : Nat → Prop} {r : Option Nat} {args : List SV} {H : List Blk} {nx : K1} (hn : Tryz.f331.ntmps = n') (hlen : Nat.ble (lenL args) n' = true) (hb : Tryz.f331.body = some x) (hrs : Tryz.f331.results.toList = rs)
    (h : ∀ A : Ass, snocF H (.ext 0 A) (fun H' => envF 0 args (fun E => Run ⟨Tryz.prog, TB, n', W, S, none, TBok⟩ x E H' (inK ⟨Tryz.prog, TB, n', W, S, none, TBok⟩ A rs nx)))) :
    CallK ⟨Tryz.prog, TB, n, W, S, r, TBok⟩ 331 args H nx := CallK.inline Tryz.func331 hb rfl hn hlen hrs h
theorem in294 {n n' : Nat} {x : Code} {rs : List ResultVar} {W : World} {S : Nat → Prop} {r : Option Nat} {args : List SV} {H : List Blk} {nx : K1} (hn : Tryz.f294.ntmps = n') (hlen : Nat.ble (lenL args) n' = true) (hb : Tryz.f294.body = some x) (hrs : Tryz.f294.results.toList = rs)
    (h : ∀ A : Ass, snocF H (.ext 0 A) (fun H' => envF 0 args (fun E => Run ⟨Tryz.prog, TB, n', W, S, none, TBok⟩ x E H' (inK ⟨Tryz.prog, TB, n', W, S, none, TBok⟩ A rs nx)))) :
    CallK ⟨Tryz.prog, TB, n, W, S, r, TBok⟩ 294 args H nx := CallK.inline Tryz.func294 hb rfl hn hlen hrs h
theorem in322 {n n' : Nat} {x : Code} {rs : List ResultVar} {W : World} {S : Nat → Prop} {r : Option Nat} {args : List SV} {H : List Blk} {nx : K1} (hn : Tryz.f322.ntmps = n') (hlen : Nat.ble (lenL args) n' = true) (hb : Tryz.f322.body = some x) (hrs : Tryz.f322.results.toList = rs)
    (h : ∀ A : Ass, snocF H (.ext 0 A) (fun H' => envF 0 args (fun E => Run ⟨Tryz.prog, TB, n', W, S, none, TBok⟩ x E H' (inK ⟨Tryz.prog, TB, n', W, S, none, TBok⟩ A rs nx)))) :
    CallK ⟨Tryz.prog, TB, n, W, S, r, TBok⟩ 322 args H nx := CallK.inline Tryz.func322 hb rfl hn hlen hrs h
theorem in295 {n n' : Nat} {x : Code} {rs : List ResultVar} {W : World} {S : Nat → Prop} {r : Option Nat} {args : List SV} {H : List Blk} {nx : K1} (hn : Tryz.f295.ntmps = n') (hlen : Nat.ble (lenL args) n' = true) (hb : Tryz.f295.body = some x) (hrs : Tryz.f295.results.toList = rs)
    (h : ∀ A : Ass, snocF H (.ext 0 A) (fun H' => envF 0 args (fun E => Run ⟨Tryz.prog, TB, n', W, S, none, TBok⟩ x E H' (inK ⟨Tryz.prog, TB, n', W, S, none, TBok⟩ A rs nx)))) :
    CallK ⟨Tryz.prog, TB, n, W, S, r, TBok⟩ 295 args H nx := CallK.inline Tryz.func295 hb rfl hn hlen hrs h
end Go.Proofs.YtbgnoibellfojaaGreatDoor

namespace Go.Proofs.YtbgnoibellfojaaGreatDoor
open Go Go.X
set_option maxRecDepth 100000
theorem in103 {n n' : Nat} {x : Code} {rs : List ResultVar} {W : World} {S : Nat → Prop} {r : Option Nat} {args : List SV} {H : List Blk} {nx : K1} (hn : Tryz.f103.ntmps = n') (hlen : Nat.ble (lenL args) n' = true) (hb : Tryz.f103.body = some x) (hrs : Tryz.f103.results.toList = rs)
    (h : ∀ A : Ass, snocF H (.ext 0 A) (fun H' => envF 0 args (fun E => Run ⟨Tryz.prog, TB, n', W, S, none, TBok⟩ x E H' (inK ⟨Tryz.prog, TB, n', W, S, none, TBok⟩ A rs nx)))) :
    CallK ⟨Tryz.prog, TB, n, W, S, r, TBok⟩ 103 args H nx := CallK.inline Tryz.func103 hb rfl hn hlen hrs h
theorem in143 {n n' : Nat} {x : Code} {rs : List ResultVar} {W : World} {S : Nat → Prop} {r : Option Nat} {args : List SV} {H : List Blk} {nx : K1} (hn : Tryz.f143.ntmps = n') (hlen : Nat.ble (lenL args) n' = true) (hb : Tryz.f143.body = some x) (hrs : Tryz.f143.results.toList = rs)
    (h : ∀ A : Ass, snocF H (.ext 0 A) (fun H' => envF 0 args (fun E => Run ⟨Tryz.prog, TB, n', W, S, none, TBok⟩ x E H' (inK ⟨Tryz.prog, TB, n', W, S, none, TBok⟩ A rs nx)))) :
    CallK ⟨Tryz.prog, TB, n, W, S, r, TBok⟩ 143 args H nx := CallK.inline Tryz.func143 hb rfl hn hlen hrs h
theorem in144 {n n' : Nat} {x : Code} {rs : List ResultVar} {W : World} {S : Nat → Prop} {r : Option Nat} {args : List SV} {H : List Blk} {nx : K1} (hn : Tryz.f144.ntmps = n') (hlen : Nat.ble (lenL args) n' = true) (hb : Tryz.f144.body = some x) (hrs : Tryz.f144.results.toList = rs)
    (h : ∀ A : Ass, snocF H (.ext 0 A) (fun H' => envF 0 args (fun E => Run ⟨Tryz.prog, TB, n', W, S, none, TBok⟩ x E H' (inK ⟨Tryz.prog, TB, n', W, S, none, TBok⟩ A rs nx)))) :
    CallK ⟨Tryz.prog, TB, n, W, S, r, TBok⟩ 144 args H nx := CallK.inline Tryz.func144 hb rfl hn hlen hrs h
theorem in145 {n n' : Nat} {x : Code} {rs : List ResultVar} {W : World} {S : Nat → Prop} {r : Option Nat} {args : List SV} {H : List Blk} {nx : K1} (hn : Tryz.f145.ntmps = n') (hlen : Nat.ble (lenL args) n' = true) (hb : Tryz.f145.body = some x) (hrs : Tryz.f145.results.toList = rs)
    (h : ∀ A : Ass, snocF H (.ext 0 A) (fun H' => envF 0 args (fun E => Run ⟨Tryz.prog, TB, n', W, S, none, TBok⟩ x E H' (inK ⟨Tryz.prog, TB, n', W, S, none, TBok⟩ A rs nx)))) :
    CallK ⟨Tryz.prog, TB, n, W, S, r, TBok⟩ 145 args H nx := CallK.inline Tryz.func145 hb rfl hn hlen hrs h
theorem in147 {n n' : Nat} {x : Code} {rs : List ResultVar} {W : World} {S : Nat → Prop} {r : Option Nat} {args : List SV} {H : List Blk} {nx : K1} (hn : Tryz.f147.ntmps = n') (hlen : Nat.ble (lenL args) n' = true) (hb : Tryz.f147.body = some x) (hrs : Tryz.f147.results.toList = rs)
    (h : ∀ A : Ass, snocF H (.ext 0 A) (fun H' => envF 0 args (fun E => Run ⟨Tryz.prog, TB, n', W, S, none, TBok⟩ x E H' (inK ⟨Tryz.prog, TB, n', W, S, none, TBok⟩ A rs nx)))) :
    CallK ⟨Tryz.prog, TB, n, W, S, r, TBok⟩ 147 args H nx := CallK.inline Tryz.func147 hb rfl hn hlen hrs h
theorem in148 {n n' : Nat} {x : Code} {rs : List ResultVar} {W : World} {S : Nat → Prop} {r : Option Nat} {args : List SV} {H : List Blk} {nx : K1} (hn : Tryz.f148.ntmps = n') (hlen : Nat.ble (lenL args) n' = true) (hb : Tryz.f148.body = some x) (hrs : Tryz.f148.results.toList = rs)
    (h : ∀ A : Ass, snocF H (.ext 0 A) (fun H' => envF 0 args (fun E => Run ⟨Tryz.prog, TB, n', W, S, none, TBok⟩ x E H' (inK ⟨Tryz.prog, TB, n', W, S, none, TBok⟩ A rs nx)))) :
    CallK ⟨Tryz.prog, TB, n, W, S, r, TBok⟩ 148 args H nx := CallK.inline Tryz.func148 hb rfl hn hlen hrs h
theorem in149 {n n' : Nat} {x : Code} {rs : List ResultVar} {W : World} {S : Nat → Prop} {r : Option Nat} {args : List SV} {H : List Blk} {nx : K1} (hn : Tryz.f149.ntmps = n') (hlen : Nat.ble (lenL args) n' = true) (hb : Tryz.f149.body = some x) (hrs : Tryz.f149.results.toList = rs)
    (h : ∀ A : Ass, snocF H (.ext 0 A) (fun H' => envF 0 args (fun E => Run ⟨Tryz.prog, TB, n', W, S, none, TBok⟩ x E H' (inK ⟨Tryz.prog, TB, n', W, S, none, TBok⟩ A rs nx)))) :
    CallK ⟨Tryz.prog, TB, n, W, S, r, TBok⟩ 149 args H nx := CallK.inline Tryz.func149 hb rfl hn hlen hrs h
theorem in216 {n n' : Nat} {x : Code} {rs : List ResultVar} {W : World} {S : Nat → Prop} {r : Option Nat} {args : List SV} {H : List Blk} {nx : K1} (hn : Tryz.f216.ntmps = n') (hlen : Nat.ble (lenL args) n' = true) (hb : Tryz.f216.body = some x) (hrs : Tryz.f216.results.toList = rs)
    (h : ∀ A : Ass, snocF H (.ext 0 A) (fun H' => envF 0 args (fun E => Run ⟨Tryz.prog, TB, n', W, S, none, TBok⟩ x E H' (inK ⟨Tryz.prog, TB, n', W, S, none, TBok⟩ A rs nx)))) :
    CallK ⟨Tryz.prog, TB, n, W, S, r, TBok⟩ 216 args H nx := CallK.inline Tryz.func216 hb rfl hn hlen hrs h
theorem in226 {n n' : Nat} {x : Code} {rs : List ResultVar} {W : World} {S : Nat → Prop} {r : Option Nat} {args : List SV} {H : List Blk} {nx : K1} (hn : Tryz.f226.ntmps = n') (hlen : Nat.ble (lenL args) n' = true) (hb : Tryz.f226.body = some x) (hrs : Tryz.f226.results.toList = rs)
    (h : ∀ A : Ass, snocF H (.ext 0 A) (fun H' => envF 0 args (fun E => Run ⟨Tryz.prog, TB, n', W, S, none, TBok⟩ x E H' (inK ⟨Tryz.prog, TB, n', W, S, none, TBok⟩ A rs nx)))) :
    CallK ⟨Tryz.prog, TB, n, W, S, r, TBok⟩ 226 args H nx := CallK.inline Tryz.func226 hb rfl hn hlen hrs h
theorem in210 {n n' : Nat} {x : Code} {rs : List ResultVar} {W : World} {S : Nat → Prop} {r : Option Nat} {args : List SV} {H : List Blk} {nx : K1} (hn : Tryz.f210.ntmps = n') (hlen : Nat.ble (lenL args) n' = true) (hb : Tryz.f210.body = some x) (hrs : Tryz.f210.results.toList = rs)
    (h : ∀ A : Ass, snocF H (.ext 0 A) (fun H' => envF 0 args (fun E => Run ⟨Tryz.prog, TB, n', W, S, none, TBok⟩ x E H' (inK ⟨Tryz.prog, TB, n', W, S, none, TBok⟩ A rs nx)))) :
    CallK ⟨Tryz.prog, TB, n, W, S, r, TBok⟩ 210 args H nx := CallK.inline Tryz.func210 hb rfl hn hlen hrs h
theorem in288 {n n' : Nat} {x : Code} {rs : List ResultVar} {W : World} {S : Nat → Prop} {r : Option Nat} {args : List SV} {H : List Blk} {nx : K1} (hn : Tryz.f288.ntmps = n') (hlen : Nat.ble (lenL args) n' = true) (hb : Tryz.f288.body = some x) (hrs : Tryz.f288.results.toList = rs)
    (h : ∀ A : Ass, snocF H (.ext 0 A) (fun H' => envF 0 args (fun E => Run ⟨Tryz.prog, TB, n', W, S, none, TBok⟩ x E H' (inK ⟨Tryz.prog, TB, n', W, S, none, TBok⟩ A rs nx)))) :
    CallK ⟨Tryz.prog, TB, n, W, S, r, TBok⟩ 288 args H nx := CallK.inline Tryz.func288 hb rfl hn hlen hrs h
theorem in220 {n n' : Nat} {x : Code} {rs : List ResultVar} {W : World} {S : Nat → Prop} {r : Option Nat} {args : List SV} {H : List Blk} {nx : K1} (hn : Tryz.f220.ntmps = n') (hlen : Nat.ble (lenL args) n' = true) (hb : Tryz.f220.body = some x) (hrs : Tryz.f220.results.toList = rs)
    (h : ∀ A : Ass, snocF H (.ext 0 A) (fun H' => envF 0 args (fun E => Run ⟨Tryz.prog, TB, n', W, S, none, TBok⟩ x E H' (inK ⟨Tryz.prog, TB, n', W, S, none, TBok⟩ A rs nx)))) :
    CallK ⟨Tryz.prog, TB, n, W, S, r, TBok⟩ 220 args H nx := CallK.inline Tryz.func220 hb rfl hn hlen hrs h
theorem in297 {n n' : Nat} {x : Code} {rs : List ResultVar} {W : World} {S : Nat → Prop} {r : Option Nat} {args : List SV} {H : List Blk} {nx : K1} (hn : Tryz.f297.ntmps = n') (hlen : Nat.ble (lenL args) n' = true) (hb : Tryz.f297.body = some x) (hrs : Tryz.f297.results.toList = rs)
    (h : ∀ A : Ass, snocF H (.ext 0 A) (fun H' => envF 0 args (fun E => Run ⟨Tryz.prog, TB, n', W, S, none, TBok⟩ x E H' (inK ⟨Tryz.prog, TB, n', W, S, none, TBok⟩ A rs nx)))) :
    CallK ⟨Tryz.prog, TB, n, W, S, r, TBok⟩ 297 args H nx := CallK.inline Tryz.func297 hb rfl hn hlen hrs h
theorem in298 {n n' : Nat} {x : Code} {rs : List ResultVar} {W : World} {S : Nat → Prop} {r : Option Nat} {args : List SV} {H : List Blk} {nx : K1} (hn : Tryz.f298.ntmps = n') (hlen : Nat.ble (lenL args) n' = true) (hb : Tryz.f298.body = some x) (hrs : Tryz.f298.results.toList = rs)
    (h : ∀ A : Ass, snocF H (.ext 0 A) (fun H' => envF 0 args (fun E => Run ⟨Tryz.prog, TB, n', W, S, none, TBok⟩ x E H' (inK ⟨Tryz.prog, TB, n', W, S, none, TBok⟩ A rs nx)))) :
    CallK ⟨Tryz.prog, TB, n, W, S, r, TBok⟩ 298 args H nx := CallK.inline Tryz.func298 hb rfl hn hlen hrs h
theorem in229 {n n' : Nat} {x : Code} {rs : List ResultVar} {W : World} {S : Nat → Prop} {r : Option Nat} {args : List SV} {H : List Blk} {nx : K1} (hn : Tryz.f229.ntmps = n') (hlen : Nat.ble (lenL args) n' = true) (hb : Tryz.f229.body = some x) (hrs : Tryz.f229.results.toList = rs)
    (h : ∀ A : Ass, snocF H (.ext 0 A) (fun H' => envF 0 args (fun E => Run ⟨Tryz.prog, TB, n', W, S, none, TBok⟩ x E H' (inK ⟨Tryz.prog, TB, n', W, S, none, TBok⟩ A rs nx)))) :
    CallK ⟨Tryz.prog, TB, n, W, S, r, TBok⟩ 229 args H nx := CallK.inline Tryz.func229 hb rfl hn hlen hrs h
theorem in238 {n n' : Nat} {x : Code} {rs : List ResultVar} {W : World} {S : Nat → Prop} {r : Option Nat} {args : List SV} {H : List Blk} {nx : K1} (hn : Tryz.f238.ntmps = n') (hlen : Nat.ble (lenL args) n' = true) (hb : Tryz.f238.body = some x) (hrs : Tryz.f238.results.toList = rs)
    (h : ∀ A : Ass, snocF H (.ext 0 A) (fun H' => envF 0 args (fun E => Run ⟨Tryz.prog, TB, n', W, S, none, TBok⟩ x E H' (inK ⟨Tryz.prog, TB, n', W, S, none, TBok⟩ A rs nx)))) :
    CallK ⟨Tryz.prog, TB, n, W, S, r, TBok⟩ 238 args H nx := CallK.inline Tryz.func238 hb rfl hn hlen hrs h
theorem in289 {n n' : Nat} {x : Code} {rs : List ResultVar} {W : World} {S : Nat → Prop} {r : Option Nat} {args : List SV} {H : List Blk} {nx : K1} (hn : Tryz.f289.ntmps = n') (hlen : Nat.ble (lenL args) n' = true) (hb : Tryz.f289.body = some x) (hrs : Tryz.f289.results.toList = rs)
    (h : ∀ A : Ass, snocF H (.ext 0 A) (fun H' => envF 0 args (fun E => Run ⟨Tryz.prog, TB, n', W, S, none, TBok⟩ x E H' (inK ⟨Tryz.prog, TB, n', W, S, none, TBok⟩ A rs nx)))) :
    CallK ⟨Tryz.prog, TB, n, W, S, r, TBok⟩ 289 args H nx := CallK.inline Tryz.func289 hb rfl hn hlen hrs h
theorem in215 {n n' : Nat} {x : Code} {rs : List ResultVar} {W : World} {S : Nat → Prop} {r : Option Nat} {args : List SV} {H : List Blk} {nx : K1} (hn : Tryz.f215.ntmps = n') (hlen : Nat.ble (lenL args) n' = true) (hb : Tryz.f215.body = some x) (hrs : Tryz.f215.results.toList = rs)
    (h : ∀ A : Ass, snocF H (.ext 0 A) (fun H' => envF 0 args (fun E => Run ⟨Tryz.prog, TB, n', W, S, none, TBok⟩ x E H' (inK ⟨Tryz.prog, TB, n', W, S, none, TBok⟩ A rs nx)))) :
    CallK ⟨Tryz.prog, TB, n, W, S, r, TBok⟩ 215 args H nx := CallK.inline Tryz.func215 hb rfl hn hlen hrs h
theorem in292 {n n' : Nat} {x : Code} {rs : List ResultVar} {W : World} {S : Nat → Prop} {r : Option Nat} {args : List SV} {H : List Blk} {nx : K1} (hn : Tryz.f292.ntmps = n') (hlen : Nat.ble (lenL args) n' = true) (hb : Tryz.f292.body = some x) (hrs : Tryz.f292.results.toList = rs)
    (h : ∀ A : Ass, snocF H (.ext 0 A) (fun H' => envF 0 args (fun E => Run ⟨Tryz.prog, TB, n', W, S, none, TBok⟩ x E H' (inK ⟨Tryz.prog, TB, n', W, S, none, TBok⟩ A rs nx)))) :
    CallK ⟨Tryz.prog, TB, n, W, S, r, TBok⟩ 292 args H nx := CallK.inline Tryz.func292 hb rfl hn hlen hrs h
theorem in225 {n n' : Nat} {x : Code} {rs : List ResultVar} {W : World} {S : Nat → Prop} {r : Option Nat} {args : List SV} {H : List Blk} {nx : K1} (hn : Tryz.f225.ntmps = n') (hlen : Nat.ble (lenL args) n' = true) (hb : Tryz.f225.body = some x) (hrs : Tryz.f225.results.toList = rs)
    (h : ∀ A : Ass, snocF H (.ext 0 A) (fun H' => envF 0 args (fun E => Run ⟨Tryz.prog, TB, n', W, S, none, TBok⟩ x E H' (inK ⟨Tryz.prog, TB, n', W, S, none, TBok⟩ A rs nx)))) :
    CallK ⟨Tryz.prog, TB, n, W, S, r, TBok⟩ 225 args H nx := CallK.inline Tryz.func225 hb rfl hn hlen hrs h
theorem in302 {n n' : Nat} {x : Code} {rs : List ResultVar} {W : World} {S : Nat → Prop} {r : Option Nat} {args : List SV} {H : List Blk} {nx : K1} (hn : Tryz.f302.ntmps = n') (hlen : Nat.ble (lenL args) n' = true) (hb : Tryz.f302.body = some x) (hrs : Tryz.f302.results.toList = rs)
    (h : ∀ A : Ass, snocF H (.ext 0 A) (fun H' => envF 0 args (fun E => Run ⟨Tryz.prog, TB, n', W, S, none, TBok⟩ x E H' (inK ⟨Tryz.prog, TB, n', W, S, none, TBok⟩ A rs nx)))) :
    CallK ⟨Tryz.prog, TB, n, W, S, r, TBok⟩ 302 args H nx := CallK.inline Tryz.func302 hb rfl hn hlen hrs h
theorem in235 {n n' : Nat} {x : Code} {rs : List ResultVar} {W : World} {S : Nat → Prop} {r : Option Nat} {args : List SV} {H : List Blk} {nx : K1} (hn : Tryz.f235.ntmps = n') (hlen : Nat.ble (lenL args) n' = true) (hb : Tryz.f235.body = some x) (hrs : Tryz.f235.results.toList = rs)
    (h : ∀ A : Ass, snocF H (.ext 0 A) (fun H' => envF 0 args (fun E => Run ⟨Tryz.prog, TB, n', W, S, none, TBok⟩ x E H' (inK ⟨Tryz.prog, TB, n', W, S, none, TBok⟩ A rs nx)))) :
    CallK ⟨Tryz.prog, TB, n, W, S, r, TBok⟩ 235 args H nx := CallK.inline Tryz.func235 hb rfl hn hlen hrs h
theorem in29 {n n' : Nat} {x : Code} {rs : List ResultVar} {W : World} {S : Nat → Prop} {r : Option Nat} {args : List SV} {H : List Blk} {nx : K1} (hn : Tryz.f29.ntmps = n') (hlen : Nat.ble (lenL args) n' = true) (hb : Tryz.f29.body = some x) (hrs : Tryz.f29.results.toList = rs)
    (h : ∀ A : Ass, snocF H (.ext 0 A) (fun H' => envF 0 args (fun E => Run ⟨Tryz.prog, TB, n', W, S, none, TBok⟩ x E H' (inK ⟨Tryz.prog, TB, n', W, S, none, TBok⟩ A rs nx)))) :
    CallK ⟨Tryz.prog, TB, n, W, S, r, TBok⟩ 29 args H nx := CallK.inline Tryz.func29 hb rfl hn hlen hrs h
theorem in66 {n n' : Nat} {x : Code} {rs : List ResultVar} {W : World} {S : Nat → Prop} {r : Option Nat} {args : List SV} {H : List Blk} {nx : K1} (hn : Tryz.f66.ntmps = n') (hlen : Nat.ble (lenL args) n' = true) (hb : Tryz.f66.body = some x) (hrs : Tryz.f66.results.toList = rs)
    (h : ∀ A : Ass, snocF H (.ext 0 A) (fun H' => envF 0 args (fun E => Run ⟨Tryz.prog, TB, n', W, S, none, TBok⟩ x E H' (inK ⟨Tryz.prog, TB, n', W, S, none, TBok⟩ A rs nx)))) :
    CallK ⟨Tryz.prog, TB, n, W, S, r, TBok⟩ 66 args H nx := CallK.inline Tryz.func66 hb rfl hn hlen hrs h
theorem in112 {n n' : Nat} {x : Code} {rs : List ResultVar} {W : World} {S : Nat → Prop} {r : Option Nat} {args : List SV} {H : List Blk} {nx : K1} (hn : Tryz.f112.ntmps = n') (hlen : Nat.ble (lenL args) n' = true) (hb : Tryz.f112.body = some x) (hrs : Tryz.f112.results.toList = rs)
    (h : ∀ A : Ass, snocF H (.ext 0 A) (fun H' => envF 0 args (fun E => Run ⟨Tryz.prog, TB, n', W, S, none, TBok⟩ x E H' (inK ⟨Tryz.prog, TB, n', W, S, none, TBok⟩ A rs nx)))) :
    CallK ⟨Tryz.prog, TB, n, W, S, r, TBok⟩ 112 args H nx := CallK.inline Tryz.func112 hb rfl hn hlen hrs h
theorem in237 {n n' : Nat} {x : Code} {rs : List ResultVar} {W : World} {S : Nat → Prop} {r : Option Nat} {args : List SV} {H : List Blk} {nx : K1} (hn : Tryz.f237.ntmps = n') (hlen : Nat.ble (lenL args) n' = true) (hb : Tryz.f237.body = some x) (hrs : Tryz.f237.results.toList = rs)
    (h : ∀ A : Ass, snocF H (.ext 0 A) (fun H' => envF 0 args (fun E => Run ⟨Tryz.prog, TB, n', W, S, none, TBok⟩ x E H' (inK ⟨Tryz.prog, TB, n', W, S, none, TBok⟩ A rs nx)))) :
    CallK ⟨Tryz.prog, TB, n, W, S, r, TBok⟩ 237 args H nx := CallK.inline Tryz.func237 hb rfl hn hlen hrs h
theorem in250 {n n' : Nat} {x : Code} {rs : List ResultVar} {W : World} {S : Nat → Prop} {r : Option Nat} {args : List SV} {H : List Blk} {nx : K1} (hn : Tryz.f250.ntmps = n') (hlen : Nat.ble (lenL args) n' = true) (hb : Tryz.f250.body = some x) (hrs : Tryz.f250.results.toList = rs)
    (h : ∀ A : Ass, snocF H (.ext 0 A) (fun H' => envF 0 args (fun E => Run ⟨Tryz.prog, TB, n', W, S, none, TBok⟩ x E H' (inK ⟨Tryz.prog, TB, n', W, S, none, TBok⟩ A rs nx)))) :
    CallK ⟨Tryz.prog, TB, n, W, S, r, TBok⟩ 250 args H nx := CallK.inline Tryz.func250 hb rfl hn hlen hrs h
theorem in211 {n n' : Nat} {x : Code} {rs : List ResultVar} {W : World} {S : Nat → Prop} {r : Option Nat} {args : List SV} {H : List Blk} {nx : K1} (hn : Tryz.f211.ntmps = n') (hlen : Nat.ble (lenL args) n' = true) (hb : Tryz.f211.body = some x) (hrs : Tryz.f211.results.toList = rs)
    (h : ∀ A : Ass, snocF H (.ext 0 A) (fun H' => envF 0 args (fun E => Run ⟨Tryz.prog, TB, n', W, S, none, TBok⟩ x E H' (inK ⟨Tryz.prog, TB, n', W, S, none, TBok⟩ A rs nx)))) :
    CallK ⟨Tryz.prog, TB, n, W, S, r, TBok⟩ 211 args H nx := CallK.inline Tryz.func211 hb rfl hn hlen hrs h
theorem in221 {n n' : Nat} {x : Code} {rs : List ResultVar} {W : World} {S : Nat → Prop} {r : Option Nat} {args : List SV} {H : List Blk} {nx : K1} (hn : Tryz.f221.ntmps = n') (hlen : Nat.ble (lenL args) n' = true) (hb : Tryz.f221.body = some x) (hrs : Tryz.f221.results.toList = rs)
    (h : ∀ A : Ass, snocF H (.ext 0 A) (fun H' => envF 0 args (fun E => Run ⟨Tryz.prog, TB, n', W, S, none, TBok⟩ x E H' (inK ⟨Tryz.prog, TB, n', W, S, none, TBok⟩ A rs nx)))) :
    CallK ⟨Tryz.prog, TB, n, W, S, r, TBok⟩ 221 args H nx := CallK.inline Tryz.func221 hb rfl hn hlen hrs h
theorem in231 {n n' : Nat} {x : Code} {rs : List ResultVar} {W : World} {S : Nat → Prop} {r : Option Nat} {args : List SV} {H : List Blk} {nx : K1} (hn : Tryz.f231.ntmps = n') (hlen : Nat.ble (lenL args) n' = true) (hb : Tryz.f231.body = some x) (hrs : Tryz.f231.results.toList = rs)
    (h : ∀ A : Ass, snocF H (.ext 0 A) (fun H' => envF 0 args (fun E => Run ⟨Tryz.prog, TB, n', W, S, none, TBok⟩ x E H' (inK ⟨Tryz.prog, TB, n', W, S, none, TBok⟩ A rs nx)))) :
    CallK ⟨Tryz.prog, TB, n, W, S, r, TBok⟩ 231 args H nx := CallK.inline Tryz.func231 hb rfl hn hlen hrs h
theorem in299 {n n' : Nat} {x : Code} {rs : List ResultVar} {W : World} {S : Nat → Prop} {r : Option Nat} {args : List SV} {H : List Blk} {nx : K1} (hn : Tryz.f299.ntmps = n') (hlen : Nat.ble (lenL args) n' = true) (hb : Tryz.f299.body = some x) (hrs : Tryz.f299.results.toList = rs)
    (h : ∀ A : Ass, snocF H (.ext 0 A) (fun H' => envF 0 args (fun E => Run ⟨Tryz.prog, TB, n', W, S, none, TBok⟩ x E H' (inK ⟨Tryz.prog, TB, n', W, S, none, TBok⟩ A rs nx)))) :
    CallK ⟨Tryz.prog, TB, n, W, S, r, TBok⟩ 299 args H nx := CallK.inline Tryz.func299 hb rfl hn hlen hrs h
theorem in290 {n n' : Nat} {x : Code} {rs : List ResultVar} {W : World} {S : Nat → Prop} {r : Option Nat} {args : List SV} {H : List Blk} {nx : K1} (hn : Tryz.f290.ntmps = n') (hlen : Nat.ble (lenL args) n' = true) (hb : Tryz.f290.body = some x) (hrs : Tryz.f290.results.toList = rs)
    (h : ∀ A : Ass, snocF H (.ext 0 A) (fun H' => envF 0 args (fun E => Run ⟨Tryz.prog, TB, n', W, S, none, TBok⟩ x E H' (inK ⟨Tryz.prog, TB, n', W, S, none, TBok⟩ A rs nx)))) :
    CallK ⟨Tryz.prog, TB, n, W, S, r, TBok⟩ 290 args H nx := CallK.inline Tryz.func290 hb rfl hn hlen hrs h
theorem in300 {n n' : Nat} {x : Code} {rs : List ResultVar} {W : World} {S : Nat → Prop} {r : Option Nat} {args : List SV} {H : List Blk} {nx : K1} (hn : Tryz.f300.ntmps = n') (hlen : Nat.ble (lenL args) n' = true) (hb : Tryz.f300.body = some x) (hrs : Tryz.f300.results.toList = rs)
    (h : ∀ A : Ass, snocF H (.ext 0 A) (fun H' => envF 0 args (fun E => Run ⟨Tryz.prog, TB, n', W, S, none, TBok⟩ x E H' (inK ⟨Tryz.prog, TB, n', W, S, none, TBok⟩ A rs nx)))) :
    CallK ⟨Tryz.prog, TB, n, W, S, r, TBok⟩ 300 args H nx := CallK.inline Tryz.func300 hb rfl hn hlen hrs h
theorem in212 {n n' : Nat} {x : Code} {rs : List ResultVar} {W : World} {S : Nat → Prop} {r : Option Nat} {args : List SV} {H : List Blk} {nx : K1} (hn : Tryz.f212.ntmps = n') (hlen : Nat.ble (lenL args) n' = true) (hb : Tryz.f212.body = some x) (hrs : Tryz.f212.results.toList = rs)
    (h : ∀ A : Ass, snocF H (.ext 0 A) (fun H' => envF 0 args (fun E => Run ⟨Tryz.prog, TB, n', W, S, none, TBok⟩ x E H' (inK ⟨Tryz.prog, TB, n', W, S, none, TBok⟩ A rs nx)))) :
    CallK ⟨Tryz.prog, TB, n, W, S, r, TBok⟩ 212 args H nx := CallK.inline Tryz.func212 hb rfl hn hlen hrs h
theorem in222 {n n' : Nat} {x : Code} {rs : List ResultVar} {W : World} {S : Nat → Prop} {r : Option Nat} {args : List SV} {H : List Blk} {nx : K1} (hn : Tryz.f222.ntmps = n') (hlen : Nat.ble (lenL args) n' = true) (hb : Tryz.f222.body = some x) (hrs : Tryz.f222.results.toList = rs)
    (h : ∀ A : Ass, snocF H (.ext 0 A) (fun H' => envF 0 args (fun E => Run ⟨Tryz.prog, TB, n', W, S, none, TBok⟩ x E H' (inK ⟨Tryz.prog, TB, n', W, S, none, TBok⟩ A rs nx)))) :
    CallK ⟨Tryz.prog, TB, n, W, S, r, TBok⟩ 222 args H nx := CallK.inline Tryz.func222 hb rfl hn hlen hrs h
theorem in232 {n n' : Nat} {x : Code} {rs : List ResultVar} {W : World} {S : Nat → Prop} {r : Option Nat} {args : List SV} {H : List Blk} {nx : K1} (hn : Tryz.f232.ntmps = n') (hlen : Nat.ble (lenL args) n' = true) (hb : Tryz.f232.body = some x) (hrs : Tryz.f232.results.toList = rs)
    (h : ∀ A : Ass, snocF H (.ext 0 A) (fun H' => envF 0 args (fun E => Run ⟨Tryz.prog, TB, n', W, S, none, TBok⟩ x E H' (inK ⟨Tryz.prog, TB, n', W, S, none, TBok⟩ A rs nx)))) :
    CallK ⟨Tryz.prog, TB, n, W, S, r, TBok⟩ 232 args H nx := CallK.inline Tryz.func232 hb rfl hn hlen hrs h
theorem in223 {n n' : Nat} {x : Code} {rs : List ResultVar} {W : World} {S : Nat → Prop} {r : Option Nat} {args : List SV} {H : List Blk} {nx : K1} (hn : Tryz.f223.ntmps = n') (hlen : Nat.ble (lenL args) n' = true) (hb : Tryz.f223.body = some x) (hrs : Tryz.f223.results.toList = rs)
    (h : ∀ A : Ass, snocF H (.ext 0 A) (fun H' => envF 0 args (fun E => Run ⟨Tryz.prog, TB, n', W, S, none, TBok⟩ x E H' (inK ⟨Tryz.prog, TB, n', W, S, none, TBok⟩ A rs nx)))) :
    CallK ⟨Tryz.prog, TB, n, W, S, r, TBok⟩ 223 args H nx := CallK.inline Tryz.func223 hb rfl hn hlen hrs h
theorem in301 {n n' : Nat} {x : Code} {rs : List ResultVar} {W : World} {S : Nat → Prop} {r : Option Nat} {args : List SV} {H : List Blk} {nx : K1} (hn : Tryz.f301.ntmps = n') (hlen : Nat.ble (lenL args) n' = true) (hb : Tryz.f301.body = some x) (hrs : Tryz.f301.results.toList = rs)
    (h : ∀ A : Ass, snocF H (.ext 0 A) (fun H' => envF 0 args (fun E => Run ⟨Tryz.prog, TB, n', W, S, none, TBok⟩ x E H' (inK ⟨Tryz.prog, TB, n', W, S, none, TBok⟩ A rs nx)))) :
    CallK ⟨Tryz.prog, TB, n, W, S, r, TBok⟩ 301 args H nx := CallK.inline Tryz.func301 hb rfl hn hlen hrs h
theorem in213 {n n' : Nat} {x : Code} {rs : List ResultVar} {W : World} {S : Nat → Prop} {r : Option Nat} {args : List SV} {H : List Blk} {nx : K1} (hn : Tryz.f213.ntmps = n') (hlen : Nat.ble (lenL args) n' = true) (hb : Tryz.f213.body = some x) (hrs : Tryz.f213.results.toList = rs)
    (h : ∀ A : Ass, snocF H (.ext 0 A) (fun H' => envF 0 args (fun E => Run ⟨Tryz.prog, TB, n', W, S, none, TBok⟩ x E H' (inK ⟨Tryz.prog, TB, n', W, S, none, TBok⟩ A rs nx)))) :
    CallK ⟨Tryz.prog, TB, n, W, S, r, TBok⟩ 213 args H nx := CallK.inline Tryz.func213 hb rfl hn hlen hrs h
end Go.Proofs.YtbgnoibellfojaaGreatDoor

namespace Go.Proofs.YtbgnoibellfojaaGreatDoor
open Go Go.X
set_option maxRecDepth 100000
theorem in65 {n n' : Nat} {x : Code} {rs : List ResultVar} {W : World} {S : Nat → Prop} {r : Option Nat} {args : List SV} {H : List Blk} {nx : K1} (hn : Tryz.f65.ntmps = n') (hlen : Nat.ble (lenL args) n' = true) (hb : Tryz.f65.body = some x) (hrs : Tryz.f65.results.toList = rs)
    (h : ∀ A : Ass, snocF H (.ext 0 A) (fun H' => envF 0 args (fun E => Run ⟨Tryz.prog, TB, n', W, S, none, TBok⟩ x E H' (inK ⟨Tryz.prog, TB, n', W, S, none, TBok⟩ A rs nx)))) :
    CallK ⟨Tryz.prog, TB, n, W, S, r, TBok⟩ 65 args H nx := CallK.inline Tryz.func65 hb rfl hn hlen hrs h
theorem in108 {n n' : Nat} {x : Code} {rs : List ResultVar} {W : World} {S : Nat → Prop} {r : Option Nat} {args : List SV} {H : List Blk} {nx : K1} (hn : Tryz.f108.ntmps = n') (hlen : Nat.ble (lenL args) n' = true) (hb : Tryz.f108.body = some x) (hrs : Tryz.f108.results.toList = rs)
    (h : ∀ A : Ass, snocF H (.ext 0 A) (fun H' => envF 0 args (fun E => Run ⟨Tryz.prog, TB, n', W, S, none, TBok⟩ x E H' (inK ⟨Tryz.prog, TB, n', W, S, none, TBok⟩ A rs nx)))) :
    CallK ⟨Tryz.prog, TB, n, W, S, r, TBok⟩ 108 args H nx := CallK.inline Tryz.func108 hb rfl hn hlen hrs h
theorem in158 {n n' : Nat} {x : Code} {rs : List ResultVar} {W : World} {S : Nat → Prop} {r : Option Nat} {args : List SV} {H : List Blk} {nx : K1} (hn : Tryz.f158.ntmps = n') (hlen : Nat.ble (lenL args) n' = true) (hb : Tryz.f158.body = some x) (hrs : Tryz.f158.results.toList = rs)
    (h : ∀ A : Ass, snocF H (.ext 0 A) (fun H' => envF 0 args (fun E => Run ⟨Tryz.prog, TB, n', W, S, none, TBok⟩ x E H' (inK ⟨Tryz.prog, TB, n', W, S, none, TBok⟩ A rs nx)))) :
    CallK ⟨Tryz.prog, TB, n, W, S, r, TBok⟩ 158 args H nx := CallK.inline Tryz.func158 hb rfl hn hlen hrs h
theorem in160 {n n' : Nat} {x : Code} {rs : List ResultVar} {W : World} {S : Nat → Prop} {r : Option Nat} {args : List SV} {H : List Blk} {nx : K1} (hn : Tryz.f160.ntmps = n') (hlen : Nat.ble (lenL args) n' = true) (hb : Tryz.f160.body = some x) (hrs : Tryz.f160.results.toList = rs)
    (h : ∀ A : Ass, snocF H (.ext 0 A) (fun H' => envF 0 args (fun E => Run ⟨Tryz.prog, TB, n', W, S, none, TBok⟩ x E H' (inK ⟨Tryz.prog, TB, n', W, S, none, TBok⟩ A rs nx)))) :
    CallK ⟨Tryz.prog, TB, n, W, S, r, TBok⟩ 160 args H nx := CallK.inline Tryz.func160 hb rfl hn hlen hrs h
theorem in168 {n n' : Nat} {x : Code} {rs : List ResultVar} {W : World} {S : Nat → Prop} {r : Option Nat} {args : List SV} {H : List Blk} {nx : K1} (hn : Tryz.f168.ntmps = n') (hlen : Nat.ble (lenL args) n' = true) (hb : Tryz.f168.body = some x) (hrs : Tryz.f168.results.toList = rs)
    (h : ∀ A : Ass, snocF H (.ext 0 A) (fun H' => envF 0 args (fun E => Run ⟨Tryz.prog, TB, n', W, S, none, TBok⟩ x E H' (inK ⟨Tryz.prog, TB, n', W, S, none, TBok⟩ A rs nx)))) :
    CallK ⟨Tryz.prog, TB, n, W, S, r, TBok⟩ 168 args H nx := CallK.inline Tryz.func168 hb rfl hn hlen hrs h
theorem in174 {n n' : Nat} {x : Code} {rs : List ResultVar} {W : World} {S : Nat → Prop} {r : Option Nat} {args : List SV} {H : List Blk} {nx : K1} (hn : Tryz.f174.ntmps = n') (hlen : Nat.ble (lenL args) n' = true) (hb : Tryz.f174.body = some x) (hrs : Tryz.f174.results.toList = rs)
    (h : ∀ A : Ass, snocF H (.ext 0 A) (fun H' => envF 0 args (fun E => Run ⟨Tryz.prog, TB, n', W, S, none, TBok⟩ x E H' (inK ⟨Tryz.prog, TB, n', W, S, none, TBok⟩ A rs nx)))) :
    CallK ⟨Tryz.prog, TB, n, W, S, r, TBok⟩ 174 args H nx := CallK.inline Tryz.func174 hb rfl hn hlen hrs h
theorem in175 {n n' : Nat} {x : Code} {rs : List ResultVar} {W : World} {S : Nat → Prop} {r : Option Nat} {args : List SV} {H : List Blk} {nx : K1} (hn : Tryz.f175.ntmps = n') (hlen : Nat.ble (lenL args) n' = true) (hb : Tryz.f175.body = some x) (hrs : Tryz.f175.results.toList = rs)
    (h : ∀ A : Ass, snocF H (.ext 0 A) (fun H' => envF 0 args (fun E => Run ⟨Tryz.prog, TB, n', W, S, none, TBok⟩ x E H' (inK ⟨Tryz.prog, TB, n', W, S, none, TBok⟩ A rs nx)))) :
    CallK ⟨Tryz.prog, TB, n, W, S, r, TBok⟩ 175 args H nx := CallK.inline Tryz.func175 hb rfl hn hlen hrs h
theorem in179 {n n' : Nat} {x : Code} {rs : List ResultVar} {W : World} {S : Nat → Prop} {r : Option Nat} {args : List SV} {H : List Blk} {nx : K1} (hn : Tryz.f179.ntmps = n') (hlen : Nat.ble (lenL args) n' = true) (hb : Tryz.f179.body = some x) (hrs : Tryz.f179.results.toList = rs)
    (h : ∀ A : Ass, snocF H (.ext 0 A) (fun H' => envF 0 args (fun E => Run ⟨Tryz.prog, TB, n', W, S, none, TBok⟩ x E H' (inK ⟨Tryz.prog, TB, n', W, S, none, TBok⟩ A rs nx)))) :
    CallK ⟨Tryz.prog, TB, n, W, S, r, TBok⟩ 179 args H nx := CallK.inline Tryz.func179 hb rfl hn hlen hrs h
theorem in180 {n n' : Nat} {x : Code} {rs : List ResultVar} {W : World} {S : Nat → Prop} {r : Option Nat} {args : List SV} {H : List Blk} {nx : K1} (hn : Tryz.f180.ntmps = n') (hlen : Nat.ble (lenL args) n' = true) (hb : Tryz.f180.body = some x) (hrs : Tryz.f180.results.toList = rs)
    (h : ∀ A : Ass, snocF H (.ext 0 A) (fun H' => envF 0 args (fun E => Run ⟨Tryz.prog, TB, n', W, S, none, TBok⟩ x E H' (inK ⟨Tryz.prog, TB, n', W, S, none, TBok⟩ A rs nx)))) :
    CallK ⟨Tryz.prog, TB, n, W, S, r, TBok⟩ 180 args H nx := CallK.inline Tryz.func180 hb rfl hn hlen hrs h
theorem in185 {n n' : Nat} {x : Code} {rs : List ResultVar} {W : World} {S : Nat → Prop} {r : Option Nat} {args : List SV} {H : List Blk} {nx : K1} (hn : Tryz.f185.ntmps = n') (hlen : Nat.ble (lenL args) n' = true) (hb : Tryz.f185.body = some x) (hrs : Tryz.f185.results.toList = rs)
    (h : ∀ A : Ass, snocF H (.ext 0 A) (fun H' => envF 0 args (fun E => Run ⟨Tryz.prog, TB, n', W, S, none, TBok⟩ x E H' (inK ⟨Tryz.prog, TB, n', W, S, none, TBok⟩ A rs nx)))) :
    CallK ⟨Tryz.prog, TB, n, W, S, r, TBok⟩ 185 args H nx := CallK.inline Tryz.func185 hb rfl hn hlen hrs h
theorem in186 {n n' : Nat} {x : Code} {rs : List ResultVar} {W : World} {S : Nat → Prop} {r : Option Nat} {args : List SV} {H : List Blk} {nx : K1} (hn : Tryz.f186.ntmps = n') (hlen : Nat.ble (lenL args) n' = true) (hb : Tryz.f186.body = some x) (hrs : Tryz.f186.results.toList = rs)
    (h : ∀ A : Ass, snocF H (.ext 0 A) (fun H' => envF 0 args (fun E => Run ⟨Tryz.prog, TB, n', W, S, none, TBok⟩ x E H' (inK ⟨Tryz.prog, TB, n', W, S, none, TBok⟩ A rs nx)))) :
    CallK ⟨Tryz.prog, TB, n, W, S, r, TBok⟩ 186 args H nx := CallK.inline Tryz.func186 hb rfl hn hlen hrs h
theorem in109 {n n' : Nat} {x : Code} {rs : List ResultVar} {W : World} {S : Nat → Prop} {r : Option Nat} {args : List SV} {H : List Blk} {nx : K1} (hn : Tryz.f109.ntmps = n') (hlen : Nat.ble (lenL args) n' = true) (hb : Tryz.f109.body = some x) (hrs : Tryz.f109.results.toList = rs)
    (h : ∀ A : Ass, snocF H (.ext 0 A) (fun H' => envF 0 args (fun E => Run ⟨Tryz.prog, TB, n', W, S, none, TBok⟩ x E H' (inK ⟨Tryz.prog, TB, n', W, S, none, TBok⟩ A rs nx)))) :
    CallK ⟨Tryz.prog, TB, n, W, S, r, TBok⟩ 109 args H nx := CallK.inline Tryz.func109 hb rfl hn hlen hrs h
theorem in190 {n n' : Nat} {x : Code} {rs : List ResultVar} {W : World} {S : Nat → Prop} {r : Option Nat} {args : List SV} {H : List Blk} {nx : K1} (hn : Tryz.f190.ntmps = n') (hlen : Nat.ble (lenL args) n' = true) (hb : Tryz.f190.body = some x) (hrs : Tryz.f190.results.toList = rs)
    (h : ∀ A : Ass, snocF H (.ext 0 A) (fun H' => envF 0 args (fun E => Run ⟨Tryz.prog, TB, n', W, S, none, TBok⟩ x E H' (inK ⟨Tryz.prog, TB, n', W, S, none, TBok⟩ A rs nx)))) :
    CallK ⟨Tryz.prog, TB, n, W, S, r, TBok⟩ 190 args H nx := CallK.inline Tryz.func190 hb rfl hn hlen hrs h
theorem in111 {n n' : Nat} {x : Code} {rs : List ResultVar} {W : World} {S : Nat → Prop} {r : Option Nat} {args : List SV} {H : List Blk} {nx : K1} (hn : Tryz.f111.ntmps = n') (hlen : Nat.ble (lenL args) n' = true) (hb : Tryz.f111.body = some x) (hrs : Tryz.f111.results.toList = rs)
    (h : ∀ A : Ass, snocF H (.ext 0 A) (fun H' => envF 0 args (fun E => Run ⟨Tryz.prog, TB, n', W, S, none, TBok⟩ x E H' (inK ⟨Tryz.prog, TB, n', W, S, none, TBok⟩ A rs nx)))) :
    CallK ⟨Tryz.prog, TB, n, W, S, r, TBok⟩ 111 args H nx := CallK.inline Tryz.func111 hb rfl hn hlen hrs h
theorem in176 {n n' : Nat} {x : Code} {rs : List ResultVar} {W : World} {S : Nat → Prop} {r : Option Nat} {args : List SV} {H : List Blk} {nx : K1} (hn : Tryz.f176.ntmps = n') (hlen : Nat.ble (lenL args) n' = true) (hb : Tryz.f176.body = some x) (hrs : Tryz.f176.results.toList = rs)
    (h : ∀ A : Ass, snocF H (.ext 0 A) (fun H' => envF 0 args (fun E => Run ⟨Tryz.prog, TB, n', W, S, none, TBok⟩ x E H' (inK ⟨Tryz.prog, TB, n', W, S, none, TBok⟩ A rs nx)))) :
    CallK ⟨Tryz.prog, TB, n, W, S, r, TBok⟩ 176 args H nx := CallK.inline Tryz.func176 hb rfl hn hlen hrs h
theorem in181 {n n' : Nat} {x : Code} {rs : List ResultVar} {W : World} {S : Nat → Prop} {r : Option Nat} {args : List SV} {H : List Blk} {nx : K1} (hn : Tryz.f181.ntmps = n') (hlen : Nat.ble (lenL args) n' = true) (hb : Tryz.f181.body = some x) (hrs : Tryz.f181.results.toList = rs)
    (h : ∀ A : Ass, snocF H (.ext 0 A) (fun H' => envF 0 args (fun E => Run ⟨Tryz.prog, TB, n', W, S, none, TBok⟩ x E H' (inK ⟨Tryz.prog, TB, n', W, S, none, TBok⟩ A rs nx)))) :
    CallK ⟨Tryz.prog, TB, n, W, S, r, TBok⟩ 181 args H nx := CallK.inline Tryz.func181 hb rfl hn hlen hrs h
theorem in167 {n n' : Nat} {x : Code} {rs : List ResultVar} {W : World} {S : Nat → Prop} {r : Option Nat} {args : List SV} {H : List Blk} {nx : K1} (hn : Tryz.f167.ntmps = n') (hlen : Nat.ble (lenL args) n' = true) (hb : Tryz.f167.body = some x) (hrs : Tryz.f167.results.toList = rs)
    (h : ∀ A : Ass, snocF H (.ext 0 A) (fun H' => envF 0 args (fun E => Run ⟨Tryz.prog, TB, n', W, S, none, TBok⟩ x E H' (inK ⟨Tryz.prog, TB, n', W, S, none, TBok⟩ A rs nx)))) :
    CallK ⟨Tryz.prog, TB, n, W, S, r, TBok⟩ 167 args H nx := CallK.inline Tryz.func167 hb rfl hn hlen hrs h
end Go.Proofs.YtbgnoibellfojaaGreatDoor

namespace Go.Proofs.YtbgnoibellfojaaGreatDoor
open Go Go.X
set_option maxRecDepth 100000
theorem in45 {n n' : Nat} {x : Code} {rs : List ResultVar} {W : World} {S : Nat → Prop} {r : Option Nat} {args : List SV} {H : List Blk} {nx : K1} (hn : Tryz.f45.ntmps = n') (hlen : Nat.ble (lenL args) n' = true) (hb : Tryz.f45.body = some x) (hrs : Tryz.f45.results.toList = rs)
    (h : ∀ A : Ass, snocF H (.ext 0 A) (fun H' => envF 0 args (fun E => Run ⟨Tryz.prog, TB, n', W, S, none, TBok⟩ x E H' (inK ⟨Tryz.prog, TB, n', W, S, none, TBok⟩ A rs nx)))) :
    CallK ⟨Tryz.prog, TB, n, W, S, r, TBok⟩ 45 args H nx := CallK.inline Tryz.func45 hb rfl hn hlen hrs h
theorem in57 {n n' : Nat} {x : Code} {rs : List ResultVar} {W : World} {S : Nat → Prop} {r : Option Nat} {args : List SV} {H : List Blk} {nx : K1} (hn : Tryz.f57.ntmps = n') (hlen : Nat.ble (lenL args) n' = true) (hb : Tryz.f57.body = some x) (hrs : Tryz.f57.results.toList = rs)
    (h : ∀ A : Ass, snocF H (.ext 0 A) (fun H' => envF 0 args (fun E => Run ⟨Tryz.prog, TB, n', W, S, none, TBok⟩ x E H' (inK ⟨Tryz.prog, TB, n', W, S, none, TBok⟩ A rs nx)))) :
    CallK ⟨Tryz.prog, TB, n, W, S, r, TBok⟩ 57 args H nx := CallK.inline Tryz.func57 hb rfl hn hlen hrs h
theorem in58 {n n' : Nat} {x : Code} {rs : List ResultVar} {W : World} {S : Nat → Prop} {r : Option Nat} {args : List SV} {H : List Blk} {nx : K1} (hn : Tryz.f58.ntmps = n') (hlen : Nat.ble (lenL args) n' = true) (hb : Tryz.f58.body = some x) (hrs : Tryz.f58.results.toList = rs)
    (h : ∀ A : Ass, snocF H (.ext 0 A) (fun H' => envF 0 args (fun E => Run ⟨Tryz.prog, TB, n', W, S, none, TBok⟩ x E H' (inK ⟨Tryz.prog, TB, n', W, S, none, TBok⟩ A rs nx)))) :
    CallK ⟨Tryz.prog, TB, n, W, S, r, TBok⟩ 58 args H nx := CallK.inline Tryz.func58 hb rfl hn hlen hrs h
theorem in59 {n n' : Nat} {x : Code} {rs : List ResultVar} {W : World} {S : Nat → Prop} {r : Option Nat} {args : List SV} {H : List Blk} {nx : K1} (hn : Tryz.f59.ntmps = n') (hlen : Nat.ble (lenL args) n' = true) (hb : Tryz.f59.body = some x) (hrs : Tryz.f59.results.toList = rs)
    (h : ∀ A : Ass, snocF H (.ext 0 A) (fun H' => envF 0 args (fun E => Run ⟨Tryz.prog, TB, n', W, S, none, TBok⟩ x E H' (inK ⟨Tryz.prog, TB, n', W, S, none, TBok⟩ A rs nx)))) :
    CallK ⟨Tryz.prog, TB, n, W, S, r, TBok⟩ 59 args H nx := CallK.inline Tryz.func59 hb rfl hn hlen hrs h
theorem in60 {n n' : Nat} {x : Code} {rs : List ResultVar} {W : World} {S : Nat → Prop} {r : Option Nat} {args : List SV} {H : List Blk} {nx : K1} (hn : Tryz.f60.ntmps = n') (hlen : Nat.ble (lenL args) n' = true) (hb : Tryz.f60.body = some x) (hrs : Tryz.f60.results.toList = rs)
    (h : ∀ A : Ass, snocF H (.ext 0 A) (fun H' => envF 0 args (fun E => Run ⟨Tryz.prog, TB, n', W, S, none, TBok⟩ x E H' (inK ⟨Tryz.prog, TB, n', W, S, none, TBok⟩ A rs nx)))) :
    CallK ⟨Tryz.prog, TB, n, W, S, r, TBok⟩ 60 args H nx := CallK.inline Tryz.func60 hb rfl hn hlen hrs h
theorem in63 {n n' : Nat} {x : Code} {rs : List ResultVar} {W : World} {S : Nat → Prop} {r : Option Nat} {args : List SV} {H : List Blk} {nx : K1} (hn : Tryz.f63.ntmps = n') (hlen : Nat.ble (lenL args) n' = true) (hb : Tryz.f63.body = some x) (hrs : Tryz.f63.results.toList = rs)
    (h : ∀ A : Ass, snocF H (.ext 0 A) (fun H' => envF 0 args (fun E => Run ⟨Tryz.prog, TB, n', W, S, none, TBok⟩ x E H' (inK ⟨Tryz.prog, TB, n', W, S, none, TBok⟩ A rs nx)))) :
    CallK ⟨Tryz.prog, TB, n, W, S, r, TBok⟩ 63 args H nx := CallK.inline Tryz.func63 hb rfl hn hlen hrs h
theorem in64 {n n' : Nat} {x : Code} {rs : List ResultVar} {W : World} {S : Nat → Prop} {r : Option Nat} {args : List SV} {H : List Blk} {nx : K1} (hn : Tryz.f64.ntmps = n') (hlen : Nat.ble (lenL args) n' = true) (hb : Tryz.f64.body = some x) (hrs : Tryz.f64.results.toList = rs)
    (h : ∀ A : Ass, snocF H (.ext 0 A) (fun H' => envF 0 args (fun E => Run ⟨Tryz.prog, TB, n', W, S, none, TBok⟩ x E H' (inK ⟨Tryz.prog, TB, n', W, S, none, TBok⟩ A rs nx)))) :
    CallK ⟨Tryz.prog, TB, n, W, S, r, TBok⟩ 64 args H nx := CallK.inline Tryz.func64 hb rfl hn hlen hrs h
theorem in101 {n n' : Nat} {x : Code} {rs : List ResultVar} {W : World} {S : Nat → Prop} {r : Option Nat} {args : List SV} {H : List Blk} {nx : K1} (hn : Tryz.f101.ntmps = n') (hlen : Nat.ble (lenL args) n' = true) (hb : Tryz.f101.body = some x) (hrs : Tryz.f101.results.toList = rs)
    (h : ∀ A : Ass, snocF H (.ext 0 A) (fun H' => envF 0 args (fun E => Run ⟨Tryz.prog, TB, n', W, S, none, TBok⟩ x E H' (inK ⟨Tryz.prog, TB, n', W, S, none, TBok⟩ A rs nx)))) :
    CallK ⟨Tryz.prog, TB, n, W, S, r, TBok⟩ 101 args H nx := CallK.inline Tryz.func101 hb rfl hn hlen hrs h
theorem in104 {n n' : Nat} {x : Code} {rs : List ResultVar} {W : World} {S : Nat → Prop} {r : Option Nat} {args : List SV} {H : List Blk} {nx : K1} (hn : Tryz.f104.ntmps = n') (hlen : Nat.ble (lenL args) n' = true) (hb : Tryz.f104.body = some x) (hrs : Tryz.f104.results.toList = rs)
    (h : ∀ A : Ass, snocF H (.ext 0 A) (fun H' => envF 0 args (fun E => Run ⟨Tryz.prog, TB, n', W, S, none, TBok⟩ x E H' (inK ⟨Tryz.prog, TB, n', W, S, none, TBok⟩ A rs nx)))) :
    CallK ⟨Tryz.prog, TB, n, W, S, r, TBok⟩ 104 args H nx := CallK.inline Tryz.func104 hb rfl hn hlen hrs h
theorem in155 {n n' : Nat} {x : Code} {rs : List ResultVar} {W : World} {S : Nat → Prop} {r : Option Nat} {args : List SV} {H : List Blk} {nx : K1} (hn : Tryz.f155.ntmps = n') (hlen : Nat.ble (lenL args) n' = true) (hb : Tryz.f155.body = some x) (hrs : Tryz.f155.results.toList = rs)
    (h : ∀ A : Ass, snocF H (.ext 0 A) (fun H' => envF 0 args (fun E => Run ⟨Tryz.prog, TB, n', W, S, none, TBok⟩ x E H' (inK ⟨Tryz.prog, TB, n', W, S, none, TBok⟩ A rs nx)))) :
    CallK ⟨Tryz.prog, TB, n, W, S, r, TBok⟩ 155 args H nx := CallK.inline Tryz.func155 hb rfl hn hlen hrs h
theorem in105 {n n' : Nat} {x : Code} {rs : List ResultVar} {W : World} {S : Nat → Prop} {r : Option Nat} {args : List SV} {H : List Blk} {nx : K1} (hn : Tryz.f105.ntmps = n') (hlen : Nat.ble (lenL args) n' = true) (hb : Tryz.f105.body = some x) (hrs : Tryz.f105.results.toList = rs)
    (h : ∀ A : Ass, snocF H (.ext 0 A) (fun H' => envF 0 args (fun E => Run ⟨Tryz.prog, TB, n', W, S, none, TBok⟩ x E H' (inK ⟨Tryz.prog, TB, n', W, S, none, TBok⟩ A rs nx)))) :
    CallK ⟨Tryz.prog, TB, n, W, S, r, TBok⟩ 105 args H nx := CallK.inline Tryz.func105 hb rfl hn hlen hrs h
theorem in156 {n n' : Nat} {x : Code} {rs : List ResultVar} {W : World} {S : Nat → Prop} {r : Option Nat} {args : List SV} {H : List Blk} {nx : K1} (hn : Tryz.f156.ntmps = n') (hlen : Nat.ble (lenL args) n' = true) (hb : Tryz.f156.body = some x) (hrs : Tryz.f156.results.toList = rs)
    (h : ∀ A : Ass, snocF H (.ext 0 A) (fun H' => envF 0 args (fun E => Run ⟨Tryz.prog, TB, n', W, S, none, TBok⟩ x E H' (inK ⟨Tryz.prog, TB, n', W, S, none, TBok⟩ A rs nx)))) :
    CallK ⟨Tryz.prog, TB, n, W, S, r, TBok⟩ 156 args H nx := CallK.inline Tryz.func156 hb rfl hn hlen hrs h
theorem in261 {n n' : Nat} {x : Code} {rs : List ResultVar} {W : World} {S : Nat → Prop} {r : Option Nat} {args : List SV} {H : List Blk} {nx : K1} (hn : Tryz.f261.ntmps = n') (hlen : Nat.ble (lenL args) n' = true) (hb : Tryz.f261.body = some x) (hrs : Tryz.f261.results.toList = rs)
    (h : ∀ A : Ass, snocF H (.ext 0 A) (fun H' => envF 0 args (fun E => Run ⟨Tryz.prog, TB, n', W, S, none, TBok⟩ x E H' (inK ⟨Tryz.prog, TB, n', W, S, none, TBok⟩ A rs nx)))) :
    CallK ⟨Tryz.prog, TB, n, W, S, r, TBok⟩ 261 args H nx := CallK.inline Tryz.func261 hb rfl hn hlen hrs h
theorem in157 {n n' : Nat} {x : Code} {rs : List ResultVar} {W : World} {S : Nat → Prop} {r : Option Nat} {args : List SV} {H : List Blk} {nx : K1} (hn : Tryz.f157.ntmps = n') (hlen : Nat.ble (lenL args) n' = true) (hb : Tryz.f157.body = some x) (hrs : Tryz.f157.results.toList = rs)
    (h : ∀ A : Ass, snocF H (.ext 0 A) (fun H' => envF 0 args (fun E => Run ⟨Tryz.prog, TB, n', W, S, none, TBok⟩ x E H' (inK ⟨Tryz.prog, TB, n', W, S, none, TBok⟩ A rs nx)))) :
    CallK ⟨Tryz.prog, TB, n, W, S, r, TBok⟩ 157 args H nx := CallK.inline Tryz.func157 hb rfl hn hlen hrs h
theorem in270 {n n' : Nat} {x : Code} {rs : List ResultVar} {W : World} {S : Nat → Prop} {r : Option Nat} {args : List SV} {H : List Blk} {nx : K1} (hn : Tryz.f270.ntmps = n') (hlen : Nat.ble (lenL args) n' = true) (hb : Tryz.f270.body = some x) (hrs : Tryz.f270.results.toList = rs)
    (h : ∀ A : Ass, snocF H (.ext 0 A) (fun H' => envF 0 args (fun E => Run ⟨Tryz.prog, TB, n', W, S, none, TBok⟩ x E H' (inK ⟨Tryz.prog, TB, n', W, S, none, TBok⟩ A rs nx)))) :
    CallK ⟨Tryz.prog, TB, n, W, S, r, TBok⟩ 270 args H nx := CallK.inline Tryz.func270 hb rfl hn hlen hrs h
theorem in271 {n n' : Nat} {x : Code} {rs : List ResultVar} {W : World} {S : Nat → Prop} {r : Option Nat} {args : List SV} {H : List Blk} {nx : K1} (hn : Tryz.f271.ntmps = n') (hlen : Nat.ble (lenL args) n' = true) (hb : Tryz.f271.body = some x) (hrs : Tryz.f271.results.toList = rs)
    (h : ∀ A : Ass, snocF H (.ext 0 A) (fun H' => envF 0 args (fun E => Run ⟨Tryz.prog, TB, n', W, S, none, TBok⟩ x E H' (inK ⟨Tryz.prog, TB, n', W, S, none, TBok⟩ A rs nx)))) :
    CallK ⟨Tryz.prog, TB, n, W, S, r, TBok⟩ 271 args H nx := CallK.inline Tryz.func271 hb rfl hn hlen hrs h
theorem in68 {n n' : Nat} {x : Code} {rs : List ResultVar} {W : World} {S : Nat → Prop} {r : Option Nat} {args : List SV} {H : List Blk} {nx : K1} (hn : Tryz.f68.ntmps = n') (hlen : Nat.ble (lenL args) n' = true) (hb : Tryz.f68.body = some x) (hrs : Tryz.f68.results.toList = rs)
    (h : ∀ A : Ass, snocF H (.ext 0 A) (fun H' => envF 0 args (fun E => Run ⟨Tryz.prog, TB, n', W, S, none, TBok⟩ x E H' (inK ⟨Tryz.prog, TB, n', W, S, none, TBok⟩ A rs nx)))) :
    CallK ⟨Tryz.prog, TB, n, W, S, r, TBok⟩ 68 args H nx := CallK.inline Tryz.func68 hb rfl hn hlen hrs h
theorem in69 {n n' : Nat} {x : Code} {rs : List ResultVar} {W : World} {S : Nat → Prop} {r : Option Nat} {args : List SV} {H : List Blk} {nx : K1} (hn : Tryz.f69.ntmps = n') (hlen : Nat.ble (lenL args) n' = true) (hb : Tryz.f69.body = some x) (hrs : Tryz.f69.results.toList = rs)
    (h : ∀ A : Ass, snocF H (.ext 0 A) (fun H' => envF 0 args (fun E => Run ⟨Tryz.prog, TB, n', W, S, none, TBok⟩ x E H' (inK ⟨Tryz.prog, TB, n', W, S, none, TBok⟩ A rs nx)))) :
    CallK ⟨Tryz.prog, TB, n, W, S, r, TBok⟩ 69 args H nx := CallK.inline Tryz.func69 hb rfl hn hlen hrs h
end Go.Proofs.YtbgnoibellfojaaGreatDoor

namespace Go.Proofs.YtbgnoibellfojaaGreatDoor
open Go Go.X
set_option maxRecDepth 100000
theorem in36 {n n' : Nat} {x : Code} {rs : List ResultVar} {W : World} {S : Nat → Prop} {r : Option Nat} {args : List SV} {H : List Blk} {nx : K1} (hn : Tryz.f36.ntmps = n') (hlen : Nat.ble (lenL args) n' = true) (hb : Tryz.f36.body = some x) (hrs : Tryz.f36.results.toList = rs)
    (h : ∀ A : Ass, snocF H (.ext 0 A) (fun H' => envF 0 args (fun E => Run ⟨Tryz.prog, TB, n', W, S, none, TBok⟩ x E H' (inK ⟨Tryz.prog, TB, n', W, S, none, TBok⟩ A rs nx)))) :
    CallK ⟨Tryz.prog, TB, n, W, S, r, TBok⟩ 36 args H nx := CallK.inline Tryz.func36 hb rfl hn hlen hrs h
theorem in35 {n n' : Nat} {x : Code} {rs : List ResultVar} {W : World} {S : Nat → Prop} {r : Option Nat} {args : List SV} {H : List Blk} {nx : K1} (hn : Tryz.f35.ntmps = n') (hlen : Nat.ble (lenL args) n' = true) (hb : Tryz.f35.body = some x) (hrs : Tryz.f35.results.toList = rs)
    (h : ∀ A : Ass, snocF H (.ext 0 A) (fun H' => envF 0 args (fun E => Run ⟨Tryz.prog, TB, n', W, S, none, TBok⟩ x E H' (inK ⟨Tryz.prog, TB, n', W, S, none, TBok⟩ A rs nx)))) :
    CallK ⟨Tryz.prog, TB, n, W, S, r, TBok⟩ 35 args H nx := CallK.inline Tryz.func35 hb rfl hn hlen hrs h
theorem in14 {n n' : Nat} {x : Code} {rs : List ResultVar} {W : World} {S : Nat → Prop} {r : Option Nat} {args : List SV} {H : List Blk} {nx : K1} (hn : Tryz.f14.ntmps = n') (hlen : Nat.ble (lenL args) n' = true) (hb : Tryz.f14.body = some x) (hrs : Tryz.f14.results.toList = rs)
    (h : ∀ A : Ass, snocF H (.ext 0 A) (fun H' => envF 0 args (fun E => Run ⟨Tryz.prog, TB, n', W, S, none, TBok⟩ x E H' (inK ⟨Tryz.prog, TB, n', W, S, none, TBok⟩ A rs nx)))) :
    CallK ⟨Tryz.prog, TB, n, W, S, r, TBok⟩ 14 args H nx := CallK.inline Tryz.func14 hb rfl hn hlen hrs h
theorem in31 {n n' : Nat} {x : Code} {rs : List ResultVar} {W : World} {S : Nat → Prop} {r : Option Nat} {args : List SV} {H : List Blk} {nx : K1} (hn : Tryz.f31.ntmps = n') (hlen : Nat.ble (lenL args) n' = true) (hb : Tryz.f31.body = some x) (hrs : Tryz.f31.results.toList = rs)
    (h : ∀ A : Ass, snocF H (.ext 0 A) (fun H' => envF 0 args (fun E => Run ⟨Tryz.prog, TB, n', W, S, none, TBok⟩ x E H' (inK ⟨Tryz.prog, TB, n', W, S, none, TBok⟩ A rs nx)))) :
    CallK ⟨Tryz.prog, TB, n, W, S, r, TBok⟩ 31 args H nx := CallK.inline Tryz.func31 hb rfl hn hlen hrs h
theorem in18 {n n' : Nat} {x : Code} {rs : List ResultVar} {W : World} {S : Nat → Prop} {r : Option Nat} {args : List SV} {H : List Blk} {nx : K1} (hn : Tryz.f18.ntmps = n') (hlen : Nat.ble (lenL args) n' = true) (hb : Tryz.f18.body = some x) (hrs : Tryz.f18.results.toList = rs)
    (h : ∀ A : Ass, snocF H (.ext 0 A) (fun H' => envF 0 args (fun E => Run ⟨Tryz.prog, TB, n', W, S, none, TBok⟩ x E H' (inK ⟨Tryz.prog, TB, n', W, S, none, TBok⟩ A rs nx)))) :
    CallK ⟨Tryz.prog, TB, n, W, S, r, TBok⟩ 18 args H nx := CallK.inline Tryz.func18 hb rfl hn hlen hrs h
theorem in24 {n n' : Nat} {x : Code} {rs : List ResultVar} {W : World} {S : Nat → Prop} {r : Option Nat} {args : List SV} {H : List Blk} {nx : K1} (hn : Tryz.f24.ntmps = n') (hlen : Nat.ble (lenL args) n' = true) (hb : Tryz.f24.body = some x) (hrs : Tryz.f24.results.toList = rs)
    (h : ∀ A : Ass, snocF H (.ext 0 A) (fun H' => envF 0 args (fun E => Run ⟨Tryz.prog, TB, n', W, S, none, TBok⟩ x E H' (inK ⟨Tryz.prog, TB, n', W, S, none, TBok⟩ A rs nx)))) :
    CallK ⟨Tryz.prog, TB, n, W, S, r, TBok⟩ 24 args H nx := CallK.inline Tryz.func24 hb rfl hn hlen hrs h
theorem in25 {n n' : Nat} {x : Code} {rs : List ResultVar} {W : World} {S : Nat → Prop} {r : Option Nat} {args : List SV} {H : List Blk} {nx : K1} (hn : Tryz.f25.ntmps = n') (hlen : Nat.ble (lenL args) n' = true) (hb : Tryz.f25.body = some x) (hrs : Tryz.f25.results.toList = rs)
    (h : ∀ A : Ass, snocF H (.ext 0 A) (fun H' => envF 0 args (fun E => Run ⟨Tryz.prog, TB, n', W, S, none, TBok⟩ x E H' (inK ⟨Tryz.prog, TB, n', W, S, none, TBok⟩ A rs nx)))) :
    CallK ⟨Tryz.prog, TB, n, W, S, r, TBok⟩ 25 args H nx := CallK.inline Tryz.func25 hb rfl hn hlen hrs h
theorem in37 {n n' : Nat} {x : Code} {rs : List ResultVar} {W : World} {S : Nat → Prop} {r : Option Nat} {args : List SV} {H : List Blk} {nx : K1} (hn : Tryz.f37.ntmps = n') (hlen : Nat.ble (lenL args) n' = true) (hb : Tryz.f37.body = some x) (hrs : Tryz.f37.results.toList = rs)
    (h : ∀ A : Ass, snocF H (.ext 0 A) (fun H' => envF 0 args (fun E => Run ⟨Tryz.prog, TB, n', W, S, none, TBok⟩ x E H' (inK ⟨Tryz.prog, TB, n', W, S, none, TBok⟩ A rs nx)))) :
    CallK ⟨Tryz.prog, TB, n, W, S, r, TBok⟩ 37 args H nx := CallK.inline Tryz.func37 hb rfl hn hlen hrs h
theorem in16 {n n' : Nat} {x : Code} {rs : List ResultVar} {W : World} {S : Nat → Prop} {r : Option Nat} {args : List SV} {H : List Blk} {nx : K1} (hn : Tryz.f16.ntmps = n') (hlen : Nat.ble (lenL args) n' = true) (hb : Tryz.f16.body = some x) (hrs : Tryz.f16.results.toList = rs)
    (h : ∀ A : Ass, snocF H (.ext 0 A) (fun H' => envF 0 args (fun E => Run ⟨Tryz.prog, TB, n', W, S, none, TBok⟩ x E H' (inK ⟨Tryz.prog, TB, n', W, S, none, TBok⟩ A rs nx)))) :
    CallK ⟨Tryz.prog, TB, n, W, S, r, TBok⟩ 16 args H nx := CallK.inline Tryz.func16 hb rfl hn hlen hrs h
theorem in43 {n n' : Nat} {x : Code} {rs : List ResultVar} {W : World} {S : Nat → Prop} {r : Option Nat} {args : List SV} {H : List Blk} {nx : K1} (hn : Tryz.f43.ntmps = n') (hlen : Nat.ble (lenL args) n' = true) (hb : Tryz.f43.body = some x) (hrs : Tryz.f43.results.toList = rs)
    (h : ∀ A : Ass, snocF H (.ext 0 A) (fun H' => envF 0 args (fun E => Run ⟨Tryz.prog, TB, n', W, S, none, TBok⟩ x E H' (inK ⟨Tryz.prog, TB, n', W, S, none, TBok⟩ A rs nx)))) :
    CallK ⟨Tryz.prog, TB, n, W, S, r, TBok⟩ 43 args H nx := CallK.inline Tryz.func43 hb rfl hn hlen hrs h
theorem in17 {n n' : Nat} {x : Code} {rs : List ResultVar} {W : World} {S : Nat → Prop} {r : Option Nat} {args : List SV} {H : List Blk} {nx : K1} (hn : Tryz.f17.ntmps = n') (hlen : Nat.ble (lenL args) n' = true) (hb : Tryz.f17.body = some x) (hrs : Tryz.f17.results.toList = rs)
    (h : ∀ A : Ass, snocF H (.ext 0 A) (fun H' => envF 0 args (fun E => Run ⟨Tryz.prog, TB, n', W, S, none, TBok⟩ x E H' (inK ⟨Tryz.prog, TB, n', W, S, none, TBok⟩ A rs nx)))) :
    CallK ⟨Tryz.prog, TB, n, W, S, r, TBok⟩ 17 args H nx := CallK.inline Tryz.func17 hb rfl hn hlen hrs h
theorem in44 {n n' : Nat} {x : Code} {rs : List ResultVar} {W : World} {S : Nat → Prop} {r : Option Nat} {args : List SV} {H : List Blk} {nx : K1} (hn : Tryz.f44.ntmps = n') (hlen : Nat.ble (lenL args) n' = true) (hb : Tryz.f44.body = some x) (hrs : Tryz.f44.results.toList = rs)
    (h : ∀ A : Ass, snocF H (.ext 0 A) (fun H' => envF 0 args (fun E => Run ⟨Tryz.prog, TB, n', W, S, none, TBok⟩ x E H' (inK ⟨Tryz.prog, TB, n', W, S, none, TBok⟩ A rs nx)))) :
    CallK ⟨Tryz.prog, TB, n, W, S, r, TBok⟩ 44 args H nx := CallK.inline Tryz.func44 hb rfl hn hlen hrs h
theorem in41 {n n' : Nat} {x : Code} {rs : List ResultVar} {W : World} {S : Nat → Prop} {r : Option Nat} {args : List SV} {H : List Blk} {nx : K1} (hn : Tryz.f41.ntmps = n') (hlen : Nat.ble (lenL args) n' = true) (hb : Tryz.f41.body = some x) (hrs : Tryz.f41.results.toList = rs)
    (h : ∀ A : Ass, snocF H (.ext 0 A) (fun H' => envF 0 args (fun E => Run ⟨Tryz.prog, TB, n', W, S, none, TBok⟩ x E H' (inK ⟨Tryz.prog, TB, n', W, S, none, TBok⟩ A rs nx)))) :
    CallK ⟨Tryz.prog, TB, n, W, S, r, TBok⟩ 41 args H nx := CallK.inline Tryz.func41 hb rfl hn hlen hrs h
theorem in75 {n n' : Nat} {x : Code} {rs : List ResultVar} {W : World} {S : Nat → Prop} {r : Option Nat} {args : List SV} {H : List Blk} {nx : K1} (hn : Tryz.f75.ntmps = n') (hlen : Nat.ble (lenL args) n' = true) (hb : Tryz.f75.body = some x) (hrs : Tryz.f75.results.toList = rs)
    (h : ∀ A : Ass, snocF H (.ext 0 A) (fun H' => envF 0 args (fun E => Run ⟨Tryz.prog, TB, n', W, S, none, TBok⟩ x E H' (inK ⟨Tryz.prog, TB, n', W, S, none, TBok⟩ A rs nx)))) :
    CallK ⟨Tryz.prog, TB, n, W, S, r, TBok⟩ 75 args H nx := CallK.inline Tryz.func75 hb rfl hn hlen hrs h
theorem in9 {n n' : Nat} {x : Code} {rs : List ResultVar} {W : World} {S : Nat → Prop} {r : Option Nat} {args : List SV} {H : List Blk} {nx : K1} (hn : Tryz.f9.ntmps = n') (hlen : Nat.ble (lenL args) n' = true) (hb : Tryz.f9.body = some x) (hrs : Tryz.f9.results.toList = rs)
    (h : ∀ A : Ass, snocF H (.ext 0 A) (fun H' => envF 0 args (fun E => Run ⟨Tryz.prog, TB, n', W, S, none, TBok⟩ x E H' (inK ⟨Tryz.prog, TB, n', W, S, none, TBok⟩ A rs nx)))) :
    CallK ⟨Tryz.prog, TB, n, W, S, r, TBok⟩ 9 args H nx := CallK.inline Tryz.func9 hb rfl hn hlen hrs h
theorem in20 {n n' : Nat} {x : Code} {rs : List ResultVar} {W : World} {S : Nat → Prop} {r : Option Nat} {args : List SV} {H : List Blk} {nx : K1} (hn : Tryz.f20.ntmps = n') (hlen : Nat.ble (lenL args) n' = true) (hb : Tryz.f20.body = some x) (hrs : Tryz.f20.results.toList = rs)
    (h : ∀ A : Ass, snocF H (.ext 0 A) (fun H' => envF 0 args (fun E => Run ⟨Tryz.prog, TB, n', W, S, none, TBok⟩ x E H' (inK ⟨Tryz.prog, TB, n', W, S, none, TBok⟩ A rs nx)))) :
    CallK ⟨Tryz.prog, TB, n, W, S, r, TBok⟩ 20 args H nx := CallK.inline Tryz.func20 hb rfl hn hlen hrs h
theorem in39 {n n' : Nat} {x : Code} {rs : List ResultVar} {W : World} {S : Nat → Prop} {r : Option Nat} {args : List SV} {H : List Blk} {nx : K1} (hn : Tryz.f39.ntmps = n') (hlen : Nat.ble (lenL args) n' = true) (hb : Tryz.f39.body = some x) (hrs : Tryz.f39.results.toList = rs)
    (h : ∀ A : Ass, snocF H (.ext 0 A) (fun H' => envF 0 args (fun E => Run ⟨Tryz.prog, TB, n', W, S, none, TBok⟩ x E H' (inK ⟨Tryz.prog, TB, n', W, S, none, TBok⟩ A rs nx)))) :
    CallK ⟨Tryz.prog, TB, n, W, S, r, TBok⟩ 39 args H nx := CallK.inline Tryz.func39 hb rfl hn hlen hrs h
end Go.Proofs.YtbgnoibellfojaaGreatDoor
