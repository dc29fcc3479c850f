/- Lemmas for the claim (part 5); no condition of its own. -/
import Derived.Test.YtfoajbnobcbflaaGreatDoorProg
import Derived.Test.YtfoajbnobcbflaaGreatDoorVO4C00
import Derived.Test.YtfoajbnobcbflaaGreatDoorVO4C02
import Derived.Test.YtfoajbnobcbflaaGreatDoorVO4C04
import Derived.Test.YtfoajbnobcbflaaGreatDoorVO4C01
import Derived.Deep.Slices
import Derived.OpenShut
set_option linter.all false
set_option linter.unusedVariables false
set_option linter.unusedSimpArgs false
set_option linter.unnecessarySimpa false
set_option linter.all false
set_option maxRecDepth 1000000
set_option maxHeartbeats 0
namespace Go.Proofs.YtfoajbnobcbflaaGreatDoor
open Go Go.X
def ti2 : TI := ⟨.int .i64, 1, 8, .int .i64 0⟩
theorem tk2 : TIok Tryz.prog 2 ti2 := ⟨Tryz.underlying2, by kernel_rfl⟩
def ti3 : TI := ⟨.int .i64, 1, 8, .int .i64 0⟩
theorem tk3 : TIok Tryz.prog 3 ti3 := ⟨Tryz.underlying3, by kernel_rfl⟩
def ti4 : TI := ⟨.bool, 1, 1, .bool false⟩
theorem tk4 : TIok Tryz.prog 4 ti4 := ⟨Tryz.underlying4, by kernel_rfl⟩
def ti5 : TI := ⟨.int .u8, 1, 1, .int .u8 0⟩
theorem tk5 : TIok Tryz.prog 5 ti5 := ⟨Tryz.underlying5, by kernel_rfl⟩
def ti9 : TI := ⟨.string, 1, 16, .string ⟨#[]⟩⟩
theorem tk9 : TIok Tryz.prog 9 ti9 := ⟨Tryz.underlying9, by kernel_rfl⟩
def ti23 : TI := ⟨.struct #[{ name := "Saga", type := 3, offset := 0, embedded := false, tag := "", pkgPath := "", byteOffset := 0 }, { name := "Step", type := 3, offset := 1, embedded := false, tag := "", pkgPath := "", byteOffset := 8 }, { name := "Phase", type := 3, offset := 2, embedded := false, tag := "", pkgPath := "", byteOffset := 16 }], 3, 24, .agg #[.int .i64 0, .int .i64 0, .int .i64 0]⟩
theorem tk23 : TIok Tryz.prog 23 ti23 := ⟨Tryz.underlying23, by kernel_rfl⟩
def ti25 : TI := ⟨.struct #[{ name := "From", type := 9, offset := 0, embedded := false, tag := "", pkgPath := "", byteOffset := 0 }, { name := "To", type := 9, offset := 1, embedded := false, tag := "", pkgPath := "", byteOffset := 16 }], 2, 32, .agg #[.string ⟨#[]⟩, .string ⟨#[]⟩]⟩
theorem tk25 : TIok Tryz.prog 25 ti25 := ⟨Tryz.underlying25, by kernel_rfl⟩
def ti26 : TI := ⟨.slice 82, 1, 24, .slice none 0 0⟩
theorem tk26 : TIok Tryz.prog 26 ti26 := ⟨Tryz.underlying26, by kernel_rfl⟩
def ti28 : TI := ⟨.struct #[{ name := "Name", type := 9, offset := 0, embedded := false, tag := "", pkgPath := "", byteOffset := 0 }, { name := "Retries", type := 3, offset := 1, embedded := false, tag := "", pkgPath := "", byteOffset := 16 }, { name := "Deadline", type := 3, offset := 2, embedded := false, tag := "", pkgPath := "", byteOffset := 24 }, { name := "Steps", type := 26, offset := 3, embedded := false, tag := "", pkgPath := "", byteOffset := 32 }], 4, 56, .agg #[.string ⟨#[]⟩, .int .i64 0, .int .i64 0, .slice none 0 0]⟩
theorem tk28 : TIok Tryz.prog 28 ti28 := ⟨Tryz.underlying28, by kernel_rfl⟩
def ti30 : TI := ⟨.struct #[{ name := "Eff", type := 23, offset := 0, embedded := false, tag := "", pkgPath := "", byteOffset := 0 }, { name := "Move", type := 3, offset := 3, embedded := false, tag := "", pkgPath := "", byteOffset := 24 }, { name := "In", type := 4, offset := 4, embedded := false, tag := "", pkgPath := "", byteOffset := 32 }, { name := "Group", type := 3, offset := 5, embedded := false, tag := "", pkgPath := "", byteOffset := 40 }], 6, 48, .agg #[.int .i64 0, .int .i64 0, .int .i64 0, .int .i64 0, .bool false, .int .i64 0]⟩
theorem tk30 : TIok Tryz.prog 30 ti30 := ⟨Tryz.underlying30, by kernel_rfl⟩
def ti31 : TI := ⟨.int .i64, 1, 8, .int .i64 0⟩
theorem tk31 : TIok Tryz.prog 31 ti31 := ⟨Tryz.underlying31, by kernel_rfl⟩
def ti33 : TI := ⟨.struct #[{ name := "Kind", type := 3, offset := 0, embedded := false, tag := "", pkgPath := "", byteOffset := 0 }, { name := "Call", type := 3, offset := 1, embedded := false, tag := "", pkgPath := "", byteOffset := 8 }, { name := "Saga", type := 3, offset := 2, embedded := false, tag := "", pkgPath := "", byteOffset := 16 }, { name := "Eff", type := 23, offset := 3, embedded := false, tag := "", pkgPath := "", byteOffset := 24 }, { name := "Key", type := 9, offset := 6, embedded := false, tag := "", pkgPath := "", byteOffset := 48 }, { name := "Delta", type := 2, offset := 7, embedded := false, tag := "", pkgPath := "", byteOffset := 64 }, { name := "Move", type := 3, offset := 8, embedded := false, tag := "", pkgPath := "", byteOffset := 72 }, { name := "R", type := 25, offset := 9, embedded := false, tag := "", pkgPath := "", byteOffset := 80 }, { name := "Group", type := 3, offset := 11, embedded := false, tag := "", pkgPath := "", byteOffset := 112 }, { name := "Def", type := 28, offset := 12, embedded := false, tag := "", pkgPath := "", byteOffset := 120 }, { name := "Item", type := 30, offset := 16, embedded := false, tag := "", pkgPath := "", byteOffset := 176 }, { name := "Res", type := 31, offset := 22, embedded := false, tag := "", pkgPath := "", byteOffset := 224 }, { name := "Data", type := 9, offset := 23, embedded := false, tag := "", pkgPath := "", byteOffset := 232 }], 24, 248, .agg #[.int .i64 0, .int .i64 0, .int .i64 0, .int .i64 0, .int .i64 0, .int .i64 0, .string ⟨#[]⟩, .int .i64 0, .int .i64 0, .string ⟨#[]⟩, .string ⟨#[]⟩, .int .i64 0, .string ⟨#[]⟩, .int .i64 0, .int .i64 0, .slice none 0 0, .int .i64 0, .int .i64 0, .int .i64 0, .int .i64 0, .bool false, .int .i64 0, .int .i64 0, .string ⟨#[]⟩]⟩
theorem tk33 : TIok Tryz.prog 33 ti33 := ⟨Tryz.underlying33, by kernel_rfl⟩
def ti35 : TI := ⟨.slice 33, 1, 24, .slice none 0 0⟩
theorem tk35 : TIok Tryz.prog 35 ti35 := ⟨Tryz.underlying35, by kernel_rfl⟩
def ti37 : TI := ⟨.pointer 42, 1, 8, .pointer none⟩
theorem tk37 : TIok Tryz.prog 37 ti37 := ⟨Tryz.underlying37, by kernel_rfl⟩
def ti38 : TI := ⟨.pointer 175, 1, 8, .pointer none⟩
theorem tk38 : TIok Tryz.prog 38 ti38 := ⟨Tryz.underlying38, by kernel_rfl⟩
def ti39 : TI := ⟨.pointer 177, 1, 8, .pointer none⟩
theorem tk39 : TIok Tryz.prog 39 ti39 := ⟨Tryz.underlying39, by kernel_rfl⟩
def ti40 : TI := ⟨.pointer 168, 1, 8, .pointer none⟩
theorem tk40 : TIok Tryz.prog 40 ti40 := ⟨Tryz.underlying40, by kernel_rfl⟩
def ti42 : TI := ⟨.struct #[{ name := "groups", type := 3, offset := 0, embedded := false, tag := "", pkgPath := "skald/orch", byteOffset := 0 }, { name := "done", type := 3, offset := 1, embedded := false, tag := "", pkgPath := "skald/orch", byteOffset := 8 }, { name := "sagas", type := 38, offset := 2, embedded := false, tag := "", pkgPath := "skald/orch", byteOffset := 16 }, { name := "moves", type := 39, offset := 3, embedded := false, tag := "", pkgPath := "skald/orch", byteOffset := 24 }, { name := "route", type := 40, offset := 4, embedded := false, tag := "", pkgPath := "skald/orch", byteOffset := 32 }], 5, 40, .agg #[.int .i64 0, .int .i64 0, .pointer none, .pointer none, .pointer none]⟩
theorem tk42 : TIok Tryz.prog 42 ti42 := ⟨Tryz.underlying42, by kernel_rfl⟩
def ti43 : TI := ⟨.slice 37, 1, 24, .slice none 0 0⟩
theorem tk43 : TIok Tryz.prog 43 ti43 := ⟨Tryz.underlying43, by kernel_rfl⟩
def ti47 : TI := ⟨.struct #[{ name := "Tried", type := 3, offset := 0, embedded := false, tag := "", pkgPath := "", byteOffset := 0 }, { name := "Began", type := 3, offset := 1, embedded := false, tag := "", pkgPath := "", byteOffset := 8 }], 2, 16, .agg #[.int .i64 0, .int .i64 0]⟩
theorem tk47 : TIok Tryz.prog 47 ti47 := ⟨Tryz.underlying47, by kernel_rfl⟩
def ti49 : TI := ⟨.struct #[{ name := "Def", type := 28, offset := 0, embedded := false, tag := "", pkgPath := "", byteOffset := 0 }, { name := "State", type := 3, offset := 4, embedded := false, tag := "", pkgPath := "", byteOffset := 56 }, { name := "At", type := 3, offset := 5, embedded := false, tag := "", pkgPath := "", byteOffset := 64 }, { name := "Cancel", type := 4, offset := 6, embedded := false, tag := "", pkgPath := "", byteOffset := 72 }, { name := "Budget", type := 47, offset := 7, embedded := false, tag := "", pkgPath := "", byteOffset := 80 }, { name := "Err", type := 31, offset := 9, embedded := false, tag := "", pkgPath := "", byteOffset := 96 }], 10, 104, .agg #[.string ⟨#[]⟩, .int .i64 0, .int .i64 0, .slice none 0 0, .int .i64 0, .int .i64 0, .bool false, .int .i64 0, .int .i64 0, .int .i64 0]⟩
theorem tk49 : TIok Tryz.prog 49 ti49 := ⟨Tryz.underlying49, by kernel_rfl⟩
def ti55 : TI := ⟨.struct #[{ name := "Err", type := 31, offset := 0, embedded := false, tag := "", pkgPath := "", byteOffset := 0 }, { name := "Num", type := 2, offset := 1, embedded := false, tag := "", pkgPath := "", byteOffset := 8 }, { name := "Data", type := 9, offset := 2, embedded := false, tag := "", pkgPath := "", byteOffset := 16 }], 3, 32, .agg #[.int .i64 0, .int .i64 0, .string ⟨#[]⟩]⟩
theorem tk55 : TIok Tryz.prog 55 ti55 := ⟨Tryz.underlying55, by kernel_rfl⟩
def ti57 : TI := ⟨.slice 30, 1, 24, .slice none 0 0⟩
theorem tk57 : TIok Tryz.prog 57 ti57 := ⟨Tryz.underlying57, by kernel_rfl⟩
def ti61 : TI := ⟨.struct #[{ name := "Tried", type := 3, offset := 0, embedded := false, tag := "", pkgPath := "", byteOffset := 0 }, { name := "Began", type := 3, offset := 1, embedded := false, tag := "", pkgPath := "", byteOffset := 8 }], 2, 16, .agg #[.int .i64 0, .int .i64 0]⟩
theorem tk61 : TIok Tryz.prog 61 ti61 := ⟨Tryz.underlying61, by kernel_rfl⟩
def ti63 : TI := ⟨.struct #[{ name := "Def", type := 28, offset := 0, embedded := false, tag := "", pkgPath := "", byteOffset := 0 }, { name := "State", type := 3, offset := 4, embedded := false, tag := "", pkgPath := "", byteOffset := 56 }, { name := "At", type := 3, offset := 5, embedded := false, tag := "", pkgPath := "", byteOffset := 64 }, { name := "Cancel", type := 4, offset := 6, embedded := false, tag := "", pkgPath := "", byteOffset := 72 }, { name := "Budget", type := 61, offset := 7, embedded := false, tag := "", pkgPath := "", byteOffset := 80 }, { name := "Err", type := 31, offset := 9, embedded := false, tag := "", pkgPath := "", byteOffset := 96 }], 10, 104, .agg #[.string ⟨#[]⟩, .int .i64 0, .int .i64 0, .slice none 0 0, .int .i64 0, .int .i64 0, .bool false, .int .i64 0, .int .i64 0, .int .i64 0]⟩
theorem tk63 : TIok Tryz.prog 63 ti63 := ⟨Tryz.underlying63, by kernel_rfl⟩
def ti66 : TI := ⟨.slice 105, 1, 24, .slice none 0 0⟩
theorem tk66 : TIok Tryz.prog 66 ti66 := ⟨Tryz.underlying66, by kernel_rfl⟩
def ti67 : TI := ⟨.slice 107, 1, 24, .slice none 0 0⟩
theorem tk67 : TIok Tryz.prog 67 ti67 := ⟨Tryz.underlying67, by kernel_rfl⟩
def ti68 : TI := ⟨.slice 25, 1, 24, .slice none 0 0⟩
theorem tk68 : TIok Tryz.prog 68 ti68 := ⟨Tryz.underlying68, by kernel_rfl⟩
def ti69 : TI := ⟨.slice 3, 1, 24, .slice none 0 0⟩
theorem tk69 : TIok Tryz.prog 69 ti69 := ⟨Tryz.underlying69, by kernel_rfl⟩
def ti71 : TI := ⟨.struct #[{ name := "Groups", type := 3, offset := 0, embedded := false, tag := "", pkgPath := "", byteOffset := 0 }, { name := "Applied", type := 3, offset := 1, embedded := false, tag := "", pkgPath := "", byteOffset := 8 }, { name := "Sagas", type := 66, offset := 2, embedded := false, tag := "", pkgPath := "", byteOffset := 16 }, { name := "Moves", type := 67, offset := 3, embedded := false, tag := "", pkgPath := "", byteOffset := 40 }, { name := "Ranges", type := 68, offset := 4, embedded := false, tag := "", pkgPath := "", byteOffset := 64 }, { name := "Owners", type := 69, offset := 5, embedded := false, tag := "", pkgPath := "", byteOffset := 88 }, { name := "Epochs", type := 69, offset := 6, embedded := false, tag := "", pkgPath := "", byteOffset := 112 }], 7, 136, .agg #[.int .i64 0, .int .i64 0, .slice none 0 0, .slice none 0 0, .slice none 0 0, .slice none 0 0, .slice none 0 0]⟩
theorem tk71 : TIok Tryz.prog 71 ti71 := ⟨Tryz.underlying71, by kernel_rfl⟩
def ti74 : TI := ⟨.slice 112, 1, 24, .slice none 0 0⟩
theorem tk74 : TIok Tryz.prog 74 ti74 := ⟨Tryz.underlying74, by kernel_rfl⟩
def ti75 : TI := ⟨.slice 115, 1, 24, .slice none 0 0⟩
theorem tk75 : TIok Tryz.prog 75 ti75 := ⟨Tryz.underlying75, by kernel_rfl⟩
def ti77 : TI := ⟨.struct #[{ name := "Groups", type := 3, offset := 0, embedded := false, tag := "", pkgPath := "", byteOffset := 0 }, { name := "Applied", type := 3, offset := 1, embedded := false, tag := "", pkgPath := "", byteOffset := 8 }, { name := "Sagas", type := 74, offset := 2, embedded := false, tag := "", pkgPath := "", byteOffset := 16 }, { name := "Moves", type := 75, offset := 3, embedded := false, tag := "", pkgPath := "", byteOffset := 40 }, { name := "Ranges", type := 68, offset := 4, embedded := false, tag := "", pkgPath := "", byteOffset := 64 }, { name := "Owners", type := 69, offset := 5, embedded := false, tag := "", pkgPath := "", byteOffset := 88 }, { name := "Epochs", type := 69, offset := 6, embedded := false, tag := "", pkgPath := "", byteOffset := 112 }], 7, 136, .agg #[.int .i64 0, .int .i64 0, .slice none 0 0, .slice none 0 0, .slice none 0 0, .slice none 0 0, .slice none 0 0]⟩
theorem tk77 : TIok Tryz.prog 77 ti77 := ⟨Tryz.underlying77, by kernel_rfl⟩
def ti82 : TI := ⟨.struct #[{ name := "Key", type := 9, offset := 0, embedded := false, tag := "", pkgPath := "", byteOffset := 0 }, { name := "Delta", type := 2, offset := 1, embedded := false, tag := "", pkgPath := "", byteOffset := 16 }], 2, 24, .agg #[.string ⟨#[]⟩, .int .i64 0]⟩
theorem tk82 : TIok Tryz.prog 82 ti82 := ⟨Tryz.underlying82, by kernel_rfl⟩
def ti87 : TI := ⟨.struct #[{ name := "c", type := 33, offset := 0, embedded := false, tag := "", pkgPath := "skald/skaldlaw35", byteOffset := 0 }, { name := "want", type := 55, offset := 24, embedded := false, tag := "", pkgPath := "skald/skaldlaw35", byteOffset := 248 }, { name := "items", type := 57, offset := 27, embedded := false, tag := "", pkgPath := "skald/skaldlaw35", byteOffset := 280 }], 28, 304, .agg #[.int .i64 0, .int .i64 0, .int .i64 0, .int .i64 0, .int .i64 0, .int .i64 0, .string ⟨#[]⟩, .int .i64 0, .int .i64 0, .string ⟨#[]⟩, .string ⟨#[]⟩, .int .i64 0, .string ⟨#[]⟩, .int .i64 0, .int .i64 0, .slice none 0 0, .int .i64 0, .int .i64 0, .int .i64 0, .int .i64 0, .bool false, .int .i64 0, .int .i64 0, .string ⟨#[]⟩, .int .i64 0, .int .i64 0, .string ⟨#[]⟩, .slice none 0 0]⟩
theorem tk87 : TIok Tryz.prog 87 ti87 := ⟨Tryz.underlying87, by kernel_rfl⟩
def ti89 : TI := ⟨.slice 87, 1, 24, .slice none 0 0⟩
theorem tk89 : TIok Tryz.prog 89 ti89 := ⟨Tryz.underlying89, by kernel_rfl⟩
def ti95 : TI := ⟨.func #[37, 33] #[55] false, 1, 8, .nilFunc⟩
theorem tk95 : TIok Tryz.prog 95 ti95 := ⟨Tryz.underlying95, by kernel_rfl⟩
def ti96 : TI := ⟨.map 3 95, 1, 8, .map none⟩
theorem tk96 : TIok Tryz.prog 96 ti96 := ⟨Tryz.underlying96, by kernel_rfl⟩
def ti105 : TI := ⟨.struct #[{ name := "Id", type := 3, offset := 0, embedded := false, tag := "", pkgPath := "", byteOffset := 0 }, { name := "Saga", type := 49, offset := 1, embedded := false, tag := "", pkgPath := "", byteOffset := 8 }], 11, 112, .agg #[.int .i64 0, .string ⟨#[]⟩, .int .i64 0, .int .i64 0, .slice none 0 0, .int .i64 0, .int .i64 0, .bool false, .int .i64 0, .int .i64 0, .int .i64 0]⟩
theorem tk105 : TIok Tryz.prog 105 ti105 := ⟨Tryz.underlying105, by kernel_rfl⟩
def ti107 : TI := ⟨.struct #[{ name := "R", type := 25, offset := 0, embedded := false, tag := "", pkgPath := "", byteOffset := 0 }, { name := "From", type := 3, offset := 2, embedded := false, tag := "", pkgPath := "", byteOffset := 32 }, { name := "To", type := 3, offset := 3, embedded := false, tag := "", pkgPath := "", byteOffset := 40 }, { name := "State", type := 3, offset := 4, embedded := false, tag := "", pkgPath := "", byteOffset := 48 }, { name := "Data", type := 9, offset := 5, embedded := false, tag := "", pkgPath := "", byteOffset := 56 }], 6, 72, .agg #[.string ⟨#[]⟩, .string ⟨#[]⟩, .int .i64 0, .int .i64 0, .int .i64 0, .string ⟨#[]⟩]⟩
theorem tk107 : TIok Tryz.prog 107 ti107 := ⟨Tryz.underlying107, by kernel_rfl⟩
def ti124 : TI := ⟨.slice 23, 1, 24, .slice none 0 0⟩
theorem tk124 : TIok Tryz.prog 124 ti124 := ⟨Tryz.underlying124, by kernel_rfl⟩
def ti127 : TI := ⟨.func #[9] #[4] false, 1, 8, .nilFunc⟩
theorem tk127 : TIok Tryz.prog 127 ti127 := ⟨Tryz.underlying127, by kernel_rfl⟩
def ti132 : TI := ⟨.struct #[{ name := "r", type := 25, offset := 0, embedded := false, tag := "", pkgPath := "skald/route", byteOffset := 0 }, { name := "group", type := 3, offset := 2, embedded := false, tag := "", pkgPath := "skald/route", byteOffset := 32 }, { name := "epoch", type := 3, offset := 3, embedded := false, tag := "", pkgPath := "skald/route", byteOffset := 40 }], 4, 48, .agg #[.string ⟨#[]⟩, .string ⟨#[]⟩, .int .i64 0, .int .i64 0]⟩
theorem tk132 : TIok Tryz.prog 132 ti132 := ⟨Tryz.underlying132, by kernel_rfl⟩
def ti147 : TI := ⟨.slice 156, 1, 24, .slice none 0 0⟩
theorem tk147 : TIok Tryz.prog 147 ti147 := ⟨Tryz.underlying147, by kernel_rfl⟩
def ti150 : TI := ⟨.func #[157] #[4] false, 1, 8, .nilFunc⟩
theorem tk150 : TIok Tryz.prog 150 ti150 := ⟨Tryz.underlying150, by kernel_rfl⟩
def ti151 : TI := ⟨.func #[243, 157] #[] false, 1, 8, .nilFunc⟩
theorem tk151 : TIok Tryz.prog 151 ti151 := ⟨Tryz.underlying151, by kernel_rfl⟩
def ti152 : TI := ⟨.func #[245, 157] #[] false, 1, 8, .nilFunc⟩
theorem tk152 : TIok Tryz.prog 152 ti152 := ⟨Tryz.underlying152, by kernel_rfl⟩
def ti153 : TI := ⟨.func #[157] #[9] false, 1, 8, .nilFunc⟩
theorem tk153 : TIok Tryz.prog 153 ti153 := ⟨Tryz.underlying153, by kernel_rfl⟩
def ti154 : TI := ⟨.func #[157] #[] false, 1, 8, .nilFunc⟩
theorem tk154 : TIok Tryz.prog 154 ti154 := ⟨Tryz.underlying154, by kernel_rfl⟩
def ti156 : TI := ⟨.struct #[{ name := "ok", type := 150, offset := 0, embedded := false, tag := "", pkgPath := "skald/cmds", byteOffset := 0 }, { name := "write", type := 151, offset := 1, embedded := false, tag := "", pkgPath := "skald/cmds", byteOffset := 8 }, { name := "read", type := 152, offset := 2, embedded := false, tag := "", pkgPath := "skald/cmds", byteOffset := 16 }, { name := "text", type := 153, offset := 3, embedded := false, tag := "", pkgPath := "skald/cmds", byteOffset := 24 }, { name := "clear", type := 154, offset := 4, embedded := false, tag := "", pkgPath := "skald/cmds", byteOffset := 32 }], 5, 40, .agg #[.nilFunc, .nilFunc, .nilFunc, .nilFunc, .nilFunc]⟩
theorem tk156 : TIok Tryz.prog 156 ti156 := ⟨Tryz.underlying156, by kernel_rfl⟩
def ti160 : TI := ⟨.int .u64, 1, 8, .int .u64 0⟩
theorem tk160 : TIok Tryz.prog 160 ti160 := ⟨Tryz.underlying160, by kernel_rfl⟩
def ti162 : TI := ⟨.func #[] #[31] false, 1, 8, .nilFunc⟩
theorem tk162 : TIok Tryz.prog 162 ti162 := ⟨Tryz.underlying162, by kernel_rfl⟩
def ti166 : TI := ⟨.slice 132, 1, 24, .slice none 0 0⟩
theorem tk166 : TIok Tryz.prog 166 ti166 := ⟨Tryz.underlying166, by kernel_rfl⟩
def ti168 : TI := ⟨.struct #[{ name := "parts", type := 166, offset := 0, embedded := false, tag := "", pkgPath := "skald/route", byteOffset := 0 }], 1, 24, .agg #[.slice none 0 0]⟩
theorem tk168 : TIok Tryz.prog 168 ti168 := ⟨Tryz.underlying168, by kernel_rfl⟩
def ti173 : TI := ⟨.map 3 49, 1, 8, .map none⟩
theorem tk173 : TIok Tryz.prog 173 ti173 := ⟨Tryz.underlying173, by kernel_rfl⟩
def ti175 : TI := ⟨.struct #[{ name := "l", type := 173, offset := 0, embedded := false, tag := "", pkgPath := "skald/sagas", byteOffset := 0 }], 1, 8, .agg #[.map none]⟩
theorem tk175 : TIok Tryz.prog 175 ti175 := ⟨Tryz.underlying175, by kernel_rfl⟩
def ti177 : TI := ⟨.struct #[{ name := "made", type := 4, offset := 0, embedded := false, tag := "", pkgPath := "skald/moves", byteOffset := 0 }, { name := "list", type := 67, offset := 1, embedded := false, tag := "", pkgPath := "skald/moves", byteOffset := 8 }], 2, 32, .agg #[.bool false, .slice none 0 0]⟩
theorem tk177 : TIok Tryz.prog 177 ti177 := ⟨Tryz.underlying177, by kernel_rfl⟩
def ti218 : TI := ⟨.int .u64, 1, 8, .int .u64 0⟩
theorem tk218 : TIok Tryz.prog 218 ti218 := ⟨Tryz.underlying218, by kernel_rfl⟩
def ti237 : TI := ⟨.slice 9, 1, 24, .slice none 0 0⟩
theorem tk237 : TIok Tryz.prog 237 ti237 := ⟨Tryz.underlying237, by kernel_rfl⟩
def ti239 : TI := ⟨.func #[49, 31, 3] #[49] false, 1, 8, .nilFunc⟩
theorem tk239 : TIok Tryz.prog 239 ti239 := ⟨Tryz.underlying239, by kernel_rfl⟩
def ti240 : TI := ⟨.array 4 239, 4, 32, .agg #[.nilFunc, .nilFunc, .nilFunc, .nilFunc]⟩
theorem tk240 : TIok Tryz.prog 240 ti240 := ⟨Tryz.underlying240, by kernel_rfl⟩
def ti241 : TI := ⟨.slice 166, 1, 24, .slice none 0 0⟩
theorem tk241 : TIok Tryz.prog 241 ti241 := ⟨Tryz.underlying241, by kernel_rfl⟩
def ti251 : TI := ⟨.func #[157] #[250] false, 1, 8, .nilFunc⟩
theorem tk251 : TIok Tryz.prog 251 ti251 := ⟨Tryz.underlying251, by kernel_rfl⟩
def ti258 : TI := ⟨.func #[157] #[257] false, 1, 8, .nilFunc⟩
theorem tk258 : TIok Tryz.prog 258 ti258 := ⟨Tryz.underlying258, by kernel_rfl⟩
def ti280 : TI := ⟨.array 4 3, 4, 32, .agg #[.int .i64 0, .int .i64 0, .int .i64 0, .int .i64 0]⟩
theorem tk280 : TIok Tryz.prog 280 ti280 := ⟨Tryz.underlying280, by kernel_rfl⟩
def ti283 : TI := ⟨.array 256 4, 256, 256, .agg #[.bool false, .bool false, .bool false, .bool false, .bool false, .bool false, .bool false, .bool false, .bool false, .bool false, .bool false, .bool false, .bool false, .bool false, .bool false, .bool false, .bool false, .bool false, .bool false, .bool false, .bool false, .bool false, .bool false, .bool false, .bool false, .bool false, .bool false, .bool false, .bool false, .bool false, .bool false, .bool false, .bool false, .bool false, .bool false, .bool false, .bool false, .bool false, .bool false, .bool false, .bool false, .bool false, .bool false, .bool false, .bool false, .bool false, .bool false, .bool false, .bool false, .bool false, .bool false, .bool false, .bool false, .bool false, .bool false, .bool false, .bool false, .bool false, .bool false, .bool false, .bool false, .bool false, .bool false, .bool false, .bool false, .bool false, .bool false, .bool false, .bool false, .bool false, .bool false, .bool false, .bool false, .bool false, .bool false, .bool false, .bool false, .bool false, .bool false, .bool false, .bool false, .bool false, .bool false, .bool false, .bool false, .bool false, .bool false, .bool false, .bool false, .bool false, .bool false, .bool false, .bool false, .bool false, .bool false, .bool false, .bool false, .bool false, .bool false, .bool false, .bool false, .bool false, .bool false, .bool false, .bool false, .bool false, .bool false, .bool false, .bool false, .bool false, .bool false, .bool false, .bool false, .bool false, .bool false, .bool false, .bool false, .bool false, .bool false, .bool false, .bool false, .bool false, .bool false, .bool false, .bool false, .bool false, .bool false, .bool false, .bool false, .bool false, .bool false, .bool false, .bool false, .bool false, .bool false, .bool false, .bool false, .bool false, .bool false, .bool false, .bool false, .bool false, .bool false, .bool false, .bool false, .bool false, .bool false, .bool false, .bool false, .bool false, .bool false, .bool false, .bool false, .bool false, .bool false, .bool false, .bool false, .bool false, .bool false, .bool false, .bool false, .bool false, .bool false, .bool false, .bool false, .bool false, .bool false, .bool false, .bool false, .bool false, .bool false, .bool false, .bool false, .bool false, .bool false, .bool false, .bool false, .bool false, .bool false, .bool false, .bool false, .bool false, .bool false, .bool false, .bool false, .bool false, .bool false, .bool false, .bool false, .bool false, .bool false, .bool false, .bool false, .bool false, .bool false, .bool false, .bool false, .bool false, .bool false, .bool false, .bool false, .bool false, .bool false, .bool false, .bool false, .bool false, .bool false, .bool false, .bool false, .bool false, .bool false, .bool false, .bool false, .bool false, .bool false, .bool false, .bool false, .bool false, .bool false, .bool false, .bool false, .bool false, .bool false, .bool false, .bool false, .bool false, .bool false, .bool false, .bool false, .bool false, .bool false, .bool false, .bool false, .bool false, .bool false, .bool false, .bool false, .bool false, .bool false, .bool false, .bool false, .bool false, .bool false, .bool false, .bool false, .bool false, .bool false, .bool false, .bool false, .bool false, .bool false, .bool false, .bool false, .bool false, .bool false, .bool false]⟩
theorem tk283 : TIok Tryz.prog 283 ti283 := ⟨Tryz.underlying283, by kernel_rfl⟩
def ti329 : TI := ⟨.slice 162, 1, 24, .slice none 0 0⟩
theorem tk329 : TIok Tryz.prog 329 ti329 := ⟨Tryz.underlying329, by kernel_rfl⟩
def ti352 : TI := ⟨.array 20 218, 20, 160, .agg #[.int .u64 0, .int .u64 0, .int .u64 0, .int .u64 0, .int .u64 0, .int .u64 0, .int .u64 0, .int .u64 0, .int .u64 0, .int .u64 0, .int .u64 0, .int .u64 0, .int .u64 0, .int .u64 0, .int .u64 0, .int .u64 0, .int .u64 0, .int .u64 0, .int .u64 0, .int .u64 0]⟩
theorem tk352 : TIok Tryz.prog 352 ti352 := ⟨Tryz.underlying352, by kernel_rfl⟩
def ti358 : TI := ⟨.struct #[{ name := "lo", type := 5, offset := 0, embedded := false, tag := "", pkgPath := "unicode/utf8", byteOffset := 0 }, { name := "hi", type := 5, offset := 1, embedded := false, tag := "", pkgPath := "unicode/utf8", byteOffset := 1 }], 2, 2, .agg #[.int .u8 0, .int .u8 0]⟩
theorem tk358 : TIok Tryz.prog 358 ti358 := ⟨Tryz.underlying358, by kernel_rfl⟩
def ti359 : TI := ⟨.array 16 358, 32, 32, .agg #[.int .u8 0, .int .u8 0, .int .u8 0, .int .u8 0, .int .u8 0, .int .u8 0, .int .u8 0, .int .u8 0, .int .u8 0, .int .u8 0, .int .u8 0, .int .u8 0, .int .u8 0, .int .u8 0, .int .u8 0, .int .u8 0, .int .u8 0, .int .u8 0, .int .u8 0, .int .u8 0, .int .u8 0, .int .u8 0, .int .u8 0, .int .u8 0, .int .u8 0, .int .u8 0, .int .u8 0, .int .u8 0, .int .u8 0, .int .u8 0, .int .u8 0, .int .u8 0]⟩
theorem tk359 : TIok Tryz.prog 359 ti359 := ⟨Tryz.underlying359, by kernel_rfl⟩
def ti364 : TI := ⟨.array 32 5, 32, 32, .agg #[.int .u8 0, .int .u8 0, .int .u8 0, .int .u8 0, .int .u8 0, .int .u8 0, .int .u8 0, .int .u8 0, .int .u8 0, .int .u8 0, .int .u8 0, .int .u8 0, .int .u8 0, .int .u8 0, .int .u8 0, .int .u8 0, .int .u8 0, .int .u8 0, .int .u8 0, .int .u8 0, .int .u8 0, .int .u8 0, .int .u8 0, .int .u8 0, .int .u8 0, .int .u8 0, .int .u8 0, .int .u8 0, .int .u8 0, .int .u8 0, .int .u8 0, .int .u8 0]⟩
theorem tk364 : TIok Tryz.prog 364 ti364 := ⟨Tryz.underlying364, by kernel_rfl⟩
def ti365 : TI := ⟨.array 64 5, 64, 64, .agg #[.int .u8 0, .int .u8 0, .int .u8 0, .int .u8 0, .int .u8 0, .int .u8 0, .int .u8 0, .int .u8 0, .int .u8 0, .int .u8 0, .int .u8 0, .int .u8 0, .int .u8 0, .int .u8 0, .int .u8 0, .int .u8 0, .int .u8 0, .int .u8 0, .int .u8 0, .int .u8 0, .int .u8 0, .int .u8 0, .int .u8 0, .int .u8 0, .int .u8 0, .int .u8 0, .int .u8 0, .int .u8 0, .int .u8 0, .int .u8 0, .int .u8 0, .int .u8 0, .int .u8 0, .int .u8 0, .int .u8 0, .int .u8 0, .int .u8 0, .int .u8 0, .int .u8 0, .int .u8 0, .int .u8 0, .int .u8 0, .int .u8 0, .int .u8 0, .int .u8 0, .int .u8 0, .int .u8 0, .int .u8 0, .int .u8 0, .int .u8 0, .int .u8 0, .int .u8 0, .int .u8 0, .int .u8 0, .int .u8 0, .int .u8 0, .int .u8 0, .int .u8 0, .int .u8 0, .int .u8 0, .int .u8 0, .int .u8 0, .int .u8 0, .int .u8 0]⟩
theorem tk365 : TIok Tryz.prog 365 ti365 := ⟨Tryz.underlying365, by kernel_rfl⟩
def ti386 : TI := ⟨.slice 31, 1, 24, .slice none 0 0⟩
theorem tk386 : TIok Tryz.prog 386 ti386 := ⟨Tryz.underlying386, by kernel_rfl⟩
def TB : TR := (.node (.node (.node (.node (.node (.node (.node .leaf 2 ti2 .leaf) 3 ti3 .leaf) 4 ti4 (.node .leaf 5 ti5 .leaf)) 9 ti9 (.node (.node (.node .leaf 23 ti23 .leaf) 25 ti25 .leaf) 26 ti26 (.node .leaf 28 ti28 .leaf))) 30 ti30 (.node (.node (.node (.node .leaf 31 ti31 .leaf) 33 ti33 .leaf) 35 ti35 (.node .leaf 37 ti37 .leaf)) 38 ti38 (.node (.node .leaf 39 ti39 .leaf) 40 ti40 (.node .leaf 42 ti42 .leaf)))) 43 ti43 (.node (.node (.node (.node (.node .leaf 47 ti47 .leaf) 49 ti49 .leaf) 55 ti55 (.node .leaf 57 ti57 .leaf)) 61 ti61 (.node (.node .leaf 63 ti63 .leaf) 66 ti66 (.node .leaf 67 ti67 .leaf))) 68 ti68 (.node (.node (.node (.node .leaf 69 ti69 .leaf) 71 ti71 .leaf) 74 ti74 (.node .leaf 75 ti75 .leaf)) 77 ti77 (.node (.node .leaf 82 ti82 .leaf) 87 ti87 (.node .leaf 89 ti89 .leaf))))) 95 ti95 (.node (.node (.node (.node (.node (.node .leaf 96 ti96 .leaf) 105 ti105 .leaf) 107 ti107 (.node .leaf 124 ti124 .leaf)) 127 ti127 (.node (.node (.node .leaf 132 ti132 .leaf) 147 ti147 .leaf) 150 ti150 (.node .leaf 151 ti151 .leaf))) 152 ti152 (.node (.node (.node (.node .leaf 153 ti153 .leaf) 154 ti154 .leaf) 156 ti156 (.node .leaf 160 ti160 .leaf)) 162 ti162 (.node (.node .leaf 166 ti166 .leaf) 168 ti168 (.node .leaf 173 ti173 .leaf)))) 175 ti175 (.node (.node (.node (.node (.node .leaf 177 ti177 .leaf) 218 ti218 .leaf) 237 ti237 (.node .leaf 239 ti239 .leaf)) 240 ti240 (.node (.node .leaf 241 ti241 .leaf) 251 ti251 (.node .leaf 258 ti258 .leaf))) 280 ti280 (.node (.node (.node (.node .leaf 283 ti283 .leaf) 329 ti329 .leaf) 352 ti352 (.node .leaf 358 ti358 .leaf)) 359 ti359 (.node (.node .leaf 364 ti364 .leaf) 365 ti365 (.node .leaf 386 ti386 .leaf))))))
theorem TBok : TOk Tryz.prog TB := (TOk.node (TOk.node (TOk.node (TOk.node (TOk.node (TOk.node (TOk.node TOk.leaf tk2 TOk.leaf) tk3 TOk.leaf) tk4 (TOk.node TOk.leaf tk5 TOk.leaf)) tk9 (TOk.node (TOk.node (TOk.node TOk.leaf tk23 TOk.leaf) tk25 TOk.leaf) tk26 (TOk.node TOk.leaf tk28 TOk.leaf))) tk30 (TOk.node (TOk.node (TOk.node (TOk.node TOk.leaf tk31 TOk.leaf) tk33 TOk.leaf) tk35 (TOk.node TOk.leaf tk37 TOk.leaf)) tk38 (TOk.node (TOk.node TOk.leaf tk39 TOk.leaf) tk40 (TOk.node TOk.leaf tk42 TOk.leaf)))) tk43 (TOk.node (TOk.node (TOk.node (TOk.node (TOk.node TOk.leaf tk47 TOk.leaf) tk49 TOk.leaf) tk55 (TOk.node TOk.leaf tk57 TOk.leaf)) tk61 (TOk.node (TOk.node TOk.leaf tk63 TOk.leaf) tk66 (TOk.node TOk.leaf tk67 TOk.leaf))) tk68 (TOk.node (TOk.node (TOk.node (TOk.node TOk.leaf tk69 TOk.leaf) tk71 TOk.leaf) tk74 (TOk.node TOk.leaf tk75 TOk.leaf)) tk77 (TOk.node (TOk.node TOk.leaf tk82 TOk.leaf) tk87 (TOk.node TOk.leaf tk89 TOk.leaf))))) tk95 (TOk.node (TOk.node (TOk.node (TOk.node (TOk.node (TOk.node TOk.leaf tk96 TOk.leaf) tk105 TOk.leaf) tk107 (TOk.node TOk.leaf tk124 TOk.leaf)) tk127 (TOk.node (TOk.node (TOk.node TOk.leaf tk132 TOk.leaf) tk147 TOk.leaf) tk150 (TOk.node TOk.leaf tk151 TOk.leaf))) tk152 (TOk.node (TOk.node (TOk.node (TOk.node TOk.leaf tk153 TOk.leaf) tk154 TOk.leaf) tk156 (TOk.node TOk.leaf tk160 TOk.leaf)) tk162 (TOk.node (TOk.node TOk.leaf tk166 TOk.leaf) tk168 (TOk.node TOk.leaf tk173 TOk.leaf)))) tk175 (TOk.node (TOk.node (TOk.node (TOk.node (TOk.node TOk.leaf tk177 TOk.leaf) tk218 TOk.leaf) tk237 (TOk.node TOk.leaf tk239 TOk.leaf)) tk240 (TOk.node (TOk.node TOk.leaf tk241 TOk.leaf) tk251 (TOk.node TOk.leaf tk258 TOk.leaf))) tk280 (TOk.node (TOk.node (TOk.node (TOk.node TOk.leaf tk283 TOk.leaf) tk329 TOk.leaf) tk352 (TOk.node TOk.leaf tk358 TOk.leaf)) tk359 (TOk.node (TOk.node TOk.leaf tk364 TOk.leaf) tk365 (TOk.node TOk.leaf tk386 TOk.leaf))))))
end Go.Proofs.YtfoajbnobcbflaaGreatDoor

set_option linter.all false
set_option maxRecDepth 1000000
set_option maxHeartbeats 0
namespace Go.Proofs.YtfoajbnobcbflaaGreatDoor
open Go Go.X Go.Y
noncomputable def fiOf (f : Func) (fl : List (Nat × List (Nat × Bool))) : FI := ⟨f.ntmps, (match f.body with | some b => b | none => .skip), f.results.toList, fl⟩
noncomputable def PT : FT := (.node (.node (.node (.node (.node (.node (.node (.node .leaf 5 (fiOf Tryz.f5 [(9, [(3, true), (9, false)])]) .leaf) 6 (fiOf Tryz.f6 []) .leaf) 7 (fiOf Tryz.f7 []) (.node (.node .leaf 9 (fiOf Tryz.f9 []) .leaf) 10 (fiOf Tryz.f10 []) .leaf)) 11 (fiOf Tryz.f11 []) (.node (.node (.node .leaf 12 (fiOf Tryz.f12 []) .leaf) 13 (fiOf Tryz.f13 []) .leaf) 14 (fiOf Tryz.f14 []) (.node (.node .leaf 15 (fiOf Tryz.f15 []) .leaf) 17 (fiOf Tryz.f17 []) .leaf))) 18 (fiOf Tryz.f18 []) (.node (.node (.node (.node .leaf 20 (fiOf Tryz.f20 []) .leaf) 21 (fiOf Tryz.f21 []) .leaf) 22 (fiOf Tryz.f22 []) (.node (.node .leaf 23 (fiOf Tryz.f23 []) .leaf) 24 (fiOf Tryz.f24 []) .leaf)) 25 (fiOf Tryz.f25 []) (.node (.node (.node .leaf 26 (fiOf Tryz.f26 []) .leaf) 27 (fiOf Tryz.f27 []) .leaf) 28 (fiOf Tryz.f28 []) (.node .leaf 29 (fiOf Tryz.f29 []) .leaf)))) 31 (fiOf Tryz.f31 []) (.node (.node (.node (.node (.node .leaf 32 (fiOf Tryz.f32 []) .leaf) 34 (fiOf Tryz.f34 [(12, [(9, true)])]) .leaf) 35 (fiOf Tryz.f35 [(9, [(11, false)]), (12, [(8, true)])]) (.node (.node .leaf 36 (fiOf Tryz.f36 []) .leaf) 37 (fiOf Tryz.f37 []) .leaf)) 38 (fiOf Tryz.f38 []) (.node (.node (.node .leaf 39 (fiOf Tryz.f39 []) .leaf) 40 (fiOf Tryz.f40 []) .leaf) 41 (fiOf Tryz.f41 []) (.node .leaf 42 (fiOf Tryz.f42 []) .leaf))) 43 (fiOf Tryz.f43 []) (.node (.node (.node (.node .leaf 46 (fiOf Tryz.f46 []) .leaf) 48 (fiOf Tryz.f48 []) .leaf) 49 (fiOf Tryz.f49 []) (.node (.node .leaf 51 (fiOf Tryz.f51 []) .leaf) 52 (fiOf Tryz.f52 []) .leaf)) 53 (fiOf Tryz.f53 []) (.node (.node (.node .leaf 57 (fiOf Tryz.f57 []) .leaf) 58 (fiOf Tryz.f58 []) .leaf) 59 (fiOf Tryz.f59 []) (.node .leaf 60 (fiOf Tryz.f60 [(12, [(10, false)]), (14, [(3, true)]), (15, [(3, true)])]) .leaf))))) 61 (fiOf Tryz.f61 []) (.node (.node (.node (.node (.node (.node .leaf 62 (fiOf Tryz.f62 [(1, [(6, true), (11, false)]), (100001, [(9, false)])]) .leaf) 63 (fiOf Tryz.f63 []) .leaf) 64 (fiOf Tryz.f64 []) (.node (.node .leaf 65 (fiOf Tryz.f65 []) .leaf) 66 (fiOf Tryz.f66 []) .leaf)) 67 (fiOf Tryz.f67 []) (.node (.node (.node .leaf 68 (fiOf Tryz.f68 []) .leaf) 69 (fiOf Tryz.f69 []) .leaf) 71 (fiOf Tryz.f71 [(12, [(3, true)])]) (.node (.node .leaf 73 (fiOf Tryz.f73 []) .leaf) 74 (fiOf Tryz.f74 []) .leaf))) 75 (fiOf Tryz.f75 []) (.node (.node (.node (.node .leaf 76 (fiOf Tryz.f76 []) .leaf) 77 (fiOf Tryz.f77 []) .leaf) 78 (fiOf Tryz.f78 []) (.node (.node .leaf 79 (fiOf Tryz.f79 []) .leaf) 80 (fiOf Tryz.f80 [(15, [(5, true)])]) .leaf)) 81 (fiOf Tryz.f81 []) (.node (.node (.node .leaf 82 (fiOf Tryz.f82 []) .leaf) 83 (fiOf Tryz.f83 []) .leaf) 84 (fiOf Tryz.f84 []) (.node .leaf 85 (fiOf Tryz.f85 []) .leaf)))) 86 (fiOf Tryz.f86 []) (.node (.node (.node (.node (.node .leaf 87 (fiOf Tryz.f87 []) .leaf) 88 (fiOf Tryz.f88 []) .leaf) 89 (fiOf Tryz.f89 []) (.node (.node .leaf 90 (fiOf Tryz.f90 []) .leaf) 91 (fiOf Tryz.f91 []) .leaf)) 92 (fiOf Tryz.f92 []) (.node (.node (.node .leaf 93 (fiOf Tryz.f93 []) .leaf) 96 (fiOf Tryz.f96 []) .leaf) 97 (fiOf Tryz.f97 []) (.node .leaf 98 (fiOf Tryz.f98 []) .leaf))) 99 (fiOf Tryz.f99 []) (.node (.node (.node (.node .leaf 100 (fiOf Tryz.f100 []) .leaf) 101 (fiOf Tryz.f101 []) .leaf) 102 (fiOf Tryz.f102 []) (.node (.node .leaf 103 (fiOf Tryz.f103 []) .leaf) 104 (fiOf Tryz.f104 []) .leaf)) 105 (fiOf Tryz.f105 []) (.node (.node (.node .leaf 106 (fiOf Tryz.f106 []) .leaf) 108 (fiOf Tryz.f108 []) .leaf) 109 (fiOf Tryz.f109 []) (.node .leaf 110 (fiOf Tryz.f110 []) .leaf)))))) 111 (fiOf Tryz.f111 []) (.node (.node (.node (.node (.node (.node (.node .leaf 112 (fiOf Tryz.f112 []) .leaf) 113 (fiOf Tryz.f113 []) .leaf) 114 (fiOf Tryz.f114 []) (.node (.node .leaf 115 (fiOf Tryz.f115 []) .leaf) 116 (fiOf Tryz.f116 []) .leaf)) 120 (fiOf Tryz.f120 []) (.node (.node (.node .leaf 122 (fiOf Tryz.f122 []) .leaf) 123 (fiOf Tryz.f123 []) .leaf) 124 (fiOf Tryz.f124 []) (.node (.node .leaf 125 (fiOf Tryz.f125 []) .leaf) 126 (fiOf Tryz.f126 []) .leaf))) 127 (fiOf Tryz.f127 []) (.node (.node (.node (.node .leaf 128 (fiOf Tryz.f128 []) .leaf) 129 (fiOf Tryz.f129 []) .leaf) 130 (fiOf Tryz.f130 []) (.node (.node .leaf 139 (fiOf Tryz.f139 []) .leaf) 140 (fiOf Tryz.f140 []) .leaf)) 141 (fiOf Tryz.f141 []) (.node (.node (.node .leaf 142 (fiOf Tryz.f142 []) .leaf) 143 (fiOf Tryz.f143 []) .leaf) 144 (fiOf Tryz.f144 []) (.node .leaf 145 (fiOf Tryz.f145 []) .leaf)))) 146 (fiOf Tryz.f146 []) (.node (.node (.node (.node (.node .leaf 147 (fiOf Tryz.f147 []) .leaf) 148 (fiOf Tryz.f148 []) .leaf) 149 (fiOf Tryz.f149 []) (.node (.node .leaf 150 (fiOf Tryz.f150 []) .leaf) 151 (fiOf Tryz.f151 []) .leaf)) 152 (fiOf Tryz.f152 []) (.node (.node (.node .leaf 153 (fiOf Tryz.f153 []) .leaf) 154 (fiOf Tryz.f154 []) .leaf) 155 (fiOf Tryz.f155 []) (.node .leaf 156 (fiOf Tryz.f156 []) .leaf))) 157 (fiOf Tryz.f157 []) (.node (.node (.node (.node .leaf 158 (fiOf Tryz.f158 []) .leaf) 159 (fiOf Tryz.f159 []) .leaf) 160 (fiOf Tryz.f160 []) (.node (.node .leaf 161 (fiOf Tryz.f161 []) .leaf) 170 (fiOf Tryz.f170 []) .leaf)) 181 (fiOf Tryz.f181 []) (.node (.node (.node .leaf 182 (fiOf Tryz.f182 []) .leaf) 184 (fiOf Tryz.f184 []) .leaf) 191 (fiOf Tryz.f191 []) (.node .leaf 192 (fiOf Tryz.f192 []) .leaf))))) 193 (fiOf Tryz.f193 []) (.node (.node (.node (.node (.node (.node .leaf 196 (fiOf Tryz.f196 []) .leaf) 197 (fiOf Tryz.f197 []) .leaf) 205 (fiOf Tryz.f205 []) (.node (.node .leaf 206 (fiOf Tryz.f206 []) .leaf) 207 (fiOf Tryz.f207 []) .leaf)) 213 (fiOf Tryz.f213 []) (.node (.node (.node .leaf 214 (fiOf Tryz.f214 []) .leaf) 218 (fiOf Tryz.f218 []) .leaf) 219 (fiOf Tryz.f219 []) (.node (.node .leaf 225 (fiOf Tryz.f225 []) .leaf) 226 (fiOf Tryz.f226 []) .leaf))) 227 (fiOf Tryz.f227 []) (.node (.node (.node (.node .leaf 230 (fiOf Tryz.f230 []) .leaf) 231 (fiOf Tryz.f231 []) .leaf) 232 (fiOf Tryz.f232 []) (.node (.node .leaf 235 (fiOf Tryz.f235 []) .leaf) 236 (fiOf Tryz.f236 []) .leaf)) 237 (fiOf Tryz.f237 []) (.node (.node (.node .leaf 238 (fiOf Tryz.f238 []) .leaf) 239 (fiOf Tryz.f239 []) .leaf) 240 (fiOf Tryz.f240 []) (.node .leaf 241 (fiOf Tryz.f241 []) .leaf)))) 242 (fiOf Tryz.f242 []) (.node (.node (.node (.node (.node .leaf 245 (fiOf Tryz.f245 []) .leaf) 249 (fiOf Tryz.f249 []) .leaf) 256 (fiOf Tryz.f256 []) (.node (.node .leaf 257 (fiOf Tryz.f257 []) .leaf) 261 (fiOf Tryz.f261 []) .leaf)) 272 (fiOf Tryz.f272 []) (.node (.node (.node .leaf 281 (fiOf Tryz.f281 []) .leaf) 285 (fiOf Tryz.f285 []) .leaf) 286 (fiOf Tryz.f286 []) (.node .leaf 287 (fiOf Tryz.f287 []) .leaf))) 288 (fiOf Tryz.f288 []) (.node (.node (.node (.node .leaf 342 (fiOf Tryz.f342 []) .leaf) 345 (fiOf Tryz.f345 []) .leaf) 346 (fiOf Tryz.f346 []) (.node (.node .leaf 347 (fiOf Tryz.f347 []) .leaf) 349 (fiOf Tryz.f349 []) .leaf)) 350 (fiOf Tryz.f350 []) (.node (.node (.node .leaf 351 (fiOf Tryz.f351 []) .leaf) 352 (fiOf Tryz.f352 []) .leaf) 353 (fiOf Tryz.f353 []) (.node .leaf 363 (fiOf Tryz.f363 []) .leaf)))))))
noncomputable def PG0 : Pg := ⟨TB, PT, [23, 25, 30, 55, 61], [(319, 1)], []⟩
noncomputable def PG : Pg := ⟨TB, PT, [23, 25, 30, 55, 61], [(319, 1)], [(100, [.v (.string ⟨#[98]⟩)], .v (.bool true)), (100, [.v (.string ⟨#[97]⟩)], .v (.bool true)), (100, [.v (.string ⟨#[112, 97, 121]⟩)], .v (.bool true)), (100, [.v (.string ⟨#[99]⟩)], .v (.bool true))]⟩
end Go.Proofs.YtfoajbnobcbflaaGreatDoor

set_option linter.all false
set_option maxRecDepth 1000000
set_option maxHeartbeats 0
namespace Go.Proofs.YtfoajbnobcbflaaGreatDoor
open Go Go.X Go.Y
theorem fok {P : Program} {k : Nat} {fn : Func} {fl : List (Nat × List (Nat × Bool))} (h : P.funcs[k]? = some fn) (hb : fn.body.isSome = true) (hn : (fn.name == "runtime.NumGoroutine") = false) : ∃ fn', P.funcs[k]? = some fn' ∧ fn'.body = some (fiOf fn fl).body ∧ fn'.ntmps = (fiOf fn fl).n ∧ fn'.results.toList = (fiOf fn fl).rs ∧ (fn'.name == "runtime.NumGoroutine") = false := by
  refine ⟨fn, h, ?_, rfl, rfl, hn⟩
  cases h1 : fn.body with
  | none => rw [h1] at hb; cases hb
  | some b => simp [fiOf, h1]
theorem PTok : FOk Tryz.prog PT := (FOk.node (FOk.node (FOk.node (FOk.node (FOk.node (FOk.node (FOk.node (FOk.node FOk.leaf (fok (fl := _) Tryz.func5 rfl rfl) FOk.leaf) (fok (fl := _) Tryz.func6 rfl rfl) FOk.leaf) (fok (fl := _) Tryz.func7 rfl rfl) (FOk.node (FOk.node FOk.leaf (fok (fl := _) Tryz.func9 rfl rfl) FOk.leaf) (fok (fl := _) Tryz.func10 rfl rfl) FOk.leaf)) (fok (fl := _) Tryz.func11 rfl rfl) (FOk.node (FOk.node (FOk.node FOk.leaf (fok (fl := _) Tryz.func12 rfl rfl) FOk.leaf) (fok (fl := _) Tryz.func13 rfl rfl) FOk.leaf) (fok (fl := _) Tryz.func14 rfl rfl) (FOk.node (FOk.node FOk.leaf (fok (fl := _) Tryz.func15 rfl rfl) FOk.leaf) (fok (fl := _) Tryz.func17 rfl rfl) FOk.leaf))) (fok (fl := _) Tryz.func18 rfl rfl) (FOk.node (FOk.node (FOk.node (FOk.node FOk.leaf (fok (fl := _) Tryz.func20 rfl rfl) FOk.leaf) (fok (fl := _) Tryz.func21 rfl rfl) FOk.leaf) (fok (fl := _) Tryz.func22 rfl rfl) (FOk.node (FOk.node FOk.leaf (fok (fl := _) Tryz.func23 rfl rfl) FOk.leaf) (fok (fl := _) Tryz.func24 rfl rfl) FOk.leaf)) (fok (fl := _) Tryz.func25 rfl rfl) (FOk.node (FOk.node (FOk.node FOk.leaf (fok (fl := _) Tryz.func26 rfl rfl) FOk.leaf) (fok (fl := _) Tryz.func27 rfl rfl) FOk.leaf) (fok (fl := _) Tryz.func28 rfl rfl) (FOk.node FOk.leaf (fok (fl := _) Tryz.func29 rfl rfl) FOk.leaf)))) (fok (fl := _) Tryz.func31 rfl rfl) (FOk.node (FOk.node (FOk.node (FOk.node (FOk.node FOk.leaf (fok (fl := _) Tryz.func32 rfl rfl) FOk.leaf) (fok (fl := _) Tryz.func34 rfl rfl) FOk.leaf) (fok (fl := _) Tryz.func35 rfl rfl) (FOk.node (FOk.node FOk.leaf (fok (fl := _) Tryz.func36 rfl rfl) FOk.leaf) (fok (fl := _) Tryz.func37 rfl rfl) FOk.leaf)) (fok (fl := _) Tryz.func38 rfl rfl) (FOk.node (FOk.node (FOk.node FOk.leaf (fok (fl := _) Tryz.func39 rfl rfl) FOk.leaf) (fok (fl := _) Tryz.func40 rfl rfl) FOk.leaf) (fok (fl := _) Tryz.func41 rfl rfl) (FOk.node FOk.leaf (fok (fl := _) Tryz.func42 rfl rfl) FOk.leaf))) (fok (fl := _) Tryz.func43 rfl rfl) (FOk.node (FOk.node (FOk.node (FOk.node FOk.leaf (fok (fl := _) Tryz.func46 rfl rfl) FOk.leaf) (fok (fl := _) Tryz.func48 rfl rfl) FOk.leaf) (fok (fl := _) Tryz.func49 rfl rfl) (FOk.node (FOk.node FOk.leaf (fok (fl := _) Tryz.func51 rfl rfl) FOk.leaf) (fok (fl := _) Tryz.func52 rfl rfl) FOk.leaf)) (fok (fl := _) Tryz.func53 rfl rfl) (FOk.node (FOk.node (FOk.node FOk.leaf (fok (fl := _) Tryz.func57 rfl rfl) FOk.leaf) (fok (fl := _) Tryz.func58 rfl rfl) FOk.leaf) (fok (fl := _) Tryz.func59 rfl rfl) (FOk.node FOk.leaf (fok (fl := _) Tryz.func60 rfl rfl) FOk.leaf))))) (fok (fl := _) Tryz.func61 rfl rfl) (FOk.node (FOk.node (FOk.node (FOk.node (FOk.node (FOk.node FOk.leaf (fok (fl := _) Tryz.func62 rfl rfl) FOk.leaf) (fok (fl := _) Tryz.func63 rfl rfl) FOk.leaf) (fok (fl := _) Tryz.func64 rfl rfl) (FOk.node (FOk.node FOk.leaf (fok (fl := _) Tryz.func65 rfl rfl) FOk.leaf) (fok (fl := _) Tryz.func66 rfl rfl) FOk.leaf)) (fok (fl := _) Tryz.func67 rfl rfl) (FOk.node (FOk.node (FOk.node FOk.leaf (fok (fl := _) Tryz.func68 rfl rfl) FOk.leaf) (fok (fl := _) Tryz.func69 rfl rfl) FOk.leaf) (fok (fl := _) Tryz.func71 rfl rfl) (FOk.node (FOk.node FOk.leaf (fok (fl := _) Tryz.func73 rfl rfl) FOk.leaf) (fok (fl := _) Tryz.func74 rfl rfl) FOk.leaf))) (fok (fl := _) Tryz.func75 rfl rfl) (FOk.node (FOk.node (FOk.node (FOk.node FOk.leaf (fok (fl := _) Tryz.func76 rfl rfl) FOk.leaf) (fok (fl := _) Tryz.func77 rfl rfl) FOk.leaf) (fok (fl := _) Tryz.func78 rfl rfl) (FOk.node (FOk.node FOk.leaf (fok (fl := _) Tryz.func79 rfl rfl) FOk.leaf) (fok (fl := _) Tryz.func80 rfl rfl) FOk.leaf)) (fok (fl := _) Tryz.func81 rfl rfl) (FOk.node (FOk.node (FOk.node FOk.leaf (fok (fl := _) Tryz.func82 rfl rfl) FOk.leaf) (fok (fl := _) Tryz.func83 rfl rfl) FOk.leaf) (fok (fl := _) Tryz.func84 rfl rfl) (FOk.node FOk.leaf (fok (fl := _) Tryz.func85 rfl rfl) FOk.leaf)))) (fok (fl := _) Tryz.func86 rfl rfl) (FOk.node (FOk.node (FOk.node (FOk.node (FOk.node FOk.leaf (fok (fl := _) Tryz.func87 rfl rfl) FOk.leaf) (fok (fl := _) Tryz.func88 rfl rfl) FOk.leaf) (fok (fl := _) Tryz.func89 rfl rfl) (FOk.node (FOk.node FOk.leaf (fok (fl := _) Tryz.func90 rfl rfl) FOk.leaf) (fok (fl := _) Tryz.func91 rfl rfl) FOk.leaf)) (fok (fl := _) Tryz.func92 rfl rfl) (FOk.node (FOk.node (FOk.node FOk.leaf (fok (fl := _) Tryz.func93 rfl rfl) FOk.leaf) (fok (fl := _) Tryz.func96 rfl rfl) FOk.leaf) (fok (fl := _) Tryz.func97 rfl rfl) (FOk.node FOk.leaf (fok (fl := _) Tryz.func98 rfl rfl) FOk.leaf))) (fok (fl := _) Tryz.func99 rfl rfl) (FOk.node (FOk.node (FOk.node (FOk.node FOk.leaf (fok (fl := _) Tryz.func100 rfl rfl) FOk.leaf) (fok (fl := _) Tryz.func101 rfl rfl) FOk.leaf) (fok (fl := _) Tryz.func102 rfl rfl) (FOk.node (FOk.node FOk.leaf (fok (fl := _) Tryz.func103 rfl rfl) FOk.leaf) (fok (fl := _) Tryz.func104 rfl rfl) FOk.leaf)) (fok (fl := _) Tryz.func105 rfl rfl) (FOk.node (FOk.node (FOk.node FOk.leaf (fok (fl := _) Tryz.func106 rfl rfl) FOk.leaf) (fok (fl := _) Tryz.func108 rfl rfl) FOk.leaf) (fok (fl := _) Tryz.func109 rfl rfl) (FOk.node FOk.leaf (fok (fl := _) Tryz.func110 rfl rfl) FOk.leaf)))))) (fok (fl := _) Tryz.func111 rfl rfl) (FOk.node (FOk.node (FOk.node (FOk.node (FOk.node (FOk.node (FOk.node FOk.leaf (fok (fl := _) Tryz.func112 rfl rfl) FOk.leaf) (fok (fl := _) Tryz.func113 rfl rfl) FOk.leaf) (fok (fl := _) Tryz.func114 rfl rfl) (FOk.node (FOk.node FOk.leaf (fok (fl := _) Tryz.func115 rfl rfl) FOk.leaf) (fok (fl := _) Tryz.func116 rfl rfl) FOk.leaf)) (fok (fl := _) Tryz.func120 rfl rfl) (FOk.node (FOk.node (FOk.node FOk.leaf (fok (fl := _) Tryz.func122 rfl rfl) FOk.leaf) (fok (fl := _) Tryz.func123 rfl rfl) FOk.leaf) (fok (fl := _) Tryz.func124 rfl rfl) (FOk.node (FOk.node FOk.leaf (fok (fl := _) Tryz.func125 rfl rfl) FOk.leaf) (fok (fl := _) Tryz.func126 rfl rfl) FOk.leaf))) (fok (fl := _) Tryz.func127 rfl rfl) (FOk.node (FOk.node (FOk.node (FOk.node FOk.leaf (fok (fl := _) Tryz.func128 rfl rfl) FOk.leaf) (fok (fl := _) Tryz.func129 rfl rfl) FOk.leaf) (fok (fl := _) Tryz.func130 rfl rfl) (FOk.node (FOk.node FOk.leaf (fok (fl := _) Tryz.func139 rfl rfl) FOk.leaf) (fok (fl := _) Tryz.func140 rfl rfl) FOk.leaf)) (fok (fl := _) Tryz.func141 rfl rfl) (FOk.node (FOk.node (FOk.node FOk.leaf (fok (fl := _) Tryz.func142 rfl rfl) FOk.leaf) (fok (fl := _) Tryz.func143 rfl rfl) FOk.leaf) (fok (fl := _) Tryz.func144 rfl rfl) (FOk.node FOk.leaf (fok (fl := _) Tryz.func145 rfl rfl) FOk.leaf)))) (fok (fl := _) Tryz.func146 rfl rfl) (FOk.node (FOk.node (FOk.node (FOk.node (FOk.node FOk.leaf (fok (fl := _) Tryz.func147 rfl rfl) FOk.leaf) (fok (fl := _) Tryz.func148 rfl rfl) FOk.leaf) (fok (fl := _) Tryz.func149 rfl rfl) (FOk.node (FOk.node FOk.leaf (fok (fl := _) Tryz.func150 rfl rfl) FOk.leaf) (fok (fl := _) Tryz.func151 rfl rfl) FOk.leaf)) (fok (fl := _) Tryz.func152 rfl rfl) (FOk.node (FOk.node (FOk.node FOk.leaf (fok (fl := _) Tryz.func153 rfl rfl) FOk.leaf) (fok (fl := _) Tryz.func154 rfl rfl) FOk.leaf) (fok (fl := _) Tryz.func155 rfl rfl) (FOk.node FOk.leaf (fok (fl := _) Tryz.func156 rfl rfl) FOk.leaf))) (fok (fl := _) Tryz.func157 rfl rfl) (FOk.node (FOk.node (FOk.node (FOk.node FOk.leaf (fok (fl := _) Tryz.func158 rfl rfl) FOk.leaf) (fok (fl := _) Tryz.func159 rfl rfl) FOk.leaf) (fok (fl := _) Tryz.func160 rfl rfl) (FOk.node (FOk.node FOk.leaf (fok (fl := _) Tryz.func161 rfl rfl) FOk.leaf) (fok (fl := _) Tryz.func170 rfl rfl) FOk.leaf)) (fok (fl := _) Tryz.func181 rfl rfl) (FOk.node (FOk.node (FOk.node FOk.leaf (fok (fl := _) Tryz.func182 rfl rfl) FOk.leaf) (fok (fl := _) Tryz.func184 rfl rfl) FOk.leaf) (fok (fl := _) Tryz.func191 rfl rfl) (FOk.node FOk.leaf (fok (fl := _) Tryz.func192 rfl rfl) FOk.leaf))))) (fok (fl := _) Tryz.func193 rfl rfl) (FOk.node (FOk.node (FOk.node (FOk.node (FOk.node (FOk.node FOk.leaf (fok (fl := _) Tryz.func196 rfl rfl) FOk.leaf) (fok (fl := _) Tryz.func197 rfl rfl) FOk.leaf) (fok (fl := _) Tryz.func205 rfl rfl) (FOk.node (FOk.node FOk.leaf (fok (fl := _) Tryz.func206 rfl rfl) FOk.leaf) (fok (fl := _) Tryz.func207 rfl rfl) FOk.leaf)) (fok (fl := _) Tryz.func213 rfl rfl) (FOk.node (FOk.node (FOk.node FOk.leaf (fok (fl := _) Tryz.func214 rfl rfl) FOk.leaf) (fok (fl := _) Tryz.func218 rfl rfl) FOk.leaf) (fok (fl := _) Tryz.func219 rfl rfl) (FOk.node (FOk.node FOk.leaf (fok (fl := _) Tryz.func225 rfl rfl) FOk.leaf) (fok (fl := _) Tryz.func226 rfl rfl) FOk.leaf))) (fok (fl := _) Tryz.func227 rfl rfl) (FOk.node (FOk.node (FOk.node (FOk.node FOk.leaf (fok (fl := _) Tryz.func230 rfl rfl) FOk.leaf) (fok (fl := _) Tryz.func231 rfl rfl) FOk.leaf) (fok (fl := _) Tryz.func232 rfl rfl) (FOk.node (FOk.node FOk.leaf (fok (fl := _) Tryz.func235 rfl rfl) FOk.leaf) (fok (fl := _) Tryz.func236 rfl rfl) FOk.leaf)) (fok (fl := _) Tryz.func237 rfl rfl) (FOk.node (FOk.node (FOk.node FOk.leaf (fok (fl := _) Tryz.func238 rfl rfl) FOk.leaf) (fok (fl := _) Tryz.func239 rfl rfl) FOk.leaf) (fok (fl := _) Tryz.func240 rfl rfl) (FOk.node FOk.leaf (fok (fl := _) Tryz.func241 rfl rfl) FOk.leaf)))) (fok (fl := _) Tryz.func242 rfl rfl) (FOk.node (FOk.node (FOk.node (FOk.node (FOk.node FOk.leaf (fok (fl := _) Tryz.func245 rfl rfl) FOk.leaf) (fok (fl := _) Tryz.func249 rfl rfl) FOk.leaf) (fok (fl := _) Tryz.func256 rfl rfl) (FOk.node (FOk.node FOk.leaf (fok (fl := _) Tryz.func257 rfl rfl) FOk.leaf) (fok (fl := _) Tryz.func261 rfl rfl) FOk.leaf)) (fok (fl := _) Tryz.func272 rfl rfl) (FOk.node (FOk.node (FOk.node FOk.leaf (fok (fl := _) Tryz.func281 rfl rfl) FOk.leaf) (fok (fl := _) Tryz.func285 rfl rfl) FOk.leaf) (fok (fl := _) Tryz.func286 rfl rfl) (FOk.node FOk.leaf (fok (fl := _) Tryz.func287 rfl rfl) FOk.leaf))) (fok (fl := _) Tryz.func288 rfl rfl) (FOk.node (FOk.node (FOk.node (FOk.node FOk.leaf (fok (fl := _) Tryz.func342 rfl rfl) FOk.leaf) (fok (fl := _) Tryz.func345 rfl rfl) FOk.leaf) (fok (fl := _) Tryz.func346 rfl rfl) (FOk.node (FOk.node FOk.leaf (fok (fl := _) Tryz.func347 rfl rfl) FOk.leaf) (fok (fl := _) Tryz.func349 rfl rfl) FOk.leaf)) (fok (fl := _) Tryz.func350 rfl rfl) (FOk.node (FOk.node (FOk.node FOk.leaf (fok (fl := _) Tryz.func351 rfl rfl) FOk.leaf) (fok (fl := _) Tryz.func352 rfl rfl) FOk.leaf) (fok (fl := _) Tryz.func353 rfl rfl) (FOk.node FOk.leaf (fok (fl := _) Tryz.func363 rfl rfl) FOk.leaf)))))))
def sokB (P : Program) (L : List Nat) : Bool := L.all fun t => !P.stoodInHeld t && !P.eqGuardType P.depth t && (P.fieldsOf t).toList.all fun f => f.name != "_"
theorem sokB_spec {P : Program} {L : List Nat} (h : sokB P L = true) : SOk P L := by
  intro t ht
  have := List.all_eq_true.1 h t ht
  simp only [Bool.and_eq_true, Bool.not_eq_true', List.all_eq_true, bne_iff_ne, ne_eq] at this
  exact ⟨this.1.1, this.1.2, this.2⟩
theorem ext0 : ∀ f k, extK f PG0.X = some k → ∃ fn, Tryz.prog.funcs[f]? = some fn ∧ (fn.name == "runtime.NumGoroutine") = false ∧ fn.body.isNone = true ∧ Extern.findNext fn = none ∧ Extern.find fn = some (extE k) := by
  intro f k h
  have hm := extK_mem h
  simp only [PG0, List.mem_cons, Prod.mk.injEq, List.not_mem_nil, or_false] at hm
  rcases hm with ⟨rfl, rfl⟩
  · exact ⟨_, Tryz.func319, by kernel_rfl, by kernel_rfl, by kernel_rfl, by kernel_rfl⟩
theorem PG0ok : PgOk Tryz.prog PG0 := ⟨.nil, ext0, TBok, fun _ _ h => PTok.get h, sokB_spec (by kernel_rfl), zero_of (by kernel_rfl), by rfl⟩
theorem DokN : DOk Tryz.prog [] := by
  intro g hg
  cases (show false = true from hg)
theorem gokN (w : World) : GOk w PG0 [] := fun p hp => by cases hp
theorem memo0 (w : World) : Pu Tryz.prog 100 #[.string ⟨#[98]⟩] w (.bool true) := runV (pg := PG0) TBok rfl PG0ok DokN (gokN w) (args := [.v (.string ⟨#[98]⟩)]) rfl (by kernel_rfl : outV (runC PG0 [] 1000000 100 [.v (.string ⟨#[98]⟩)] ⟨[], [[]], 1000, []⟩) = some (.bool true))
theorem memo1 (w : World) : Pu Tryz.prog 100 #[.string ⟨#[97]⟩] w (.bool true) := runV (pg := PG0) TBok rfl PG0ok DokN (gokN w) (args := [.v (.string ⟨#[97]⟩)]) rfl (by kernel_rfl : outV (runC PG0 [] 1000000 100 [.v (.string ⟨#[97]⟩)] ⟨[], [[]], 1000, []⟩) = some (.bool true))
theorem memo2 (w : World) : Pu Tryz.prog 100 #[.string ⟨#[112, 97, 121]⟩] w (.bool true) := runV (pg := PG0) TBok rfl PG0ok DokN (gokN w) (args := [.v (.string ⟨#[112, 97, 121]⟩)]) rfl (by kernel_rfl : outV (runC PG0 [] 1000000 100 [.v (.string ⟨#[112, 97, 121]⟩)] ⟨[], [[]], 1000, []⟩) = some (.bool true))
theorem memo3 (w : World) : Pu Tryz.prog 100 #[.string ⟨#[99]⟩] w (.bool true) := runV (pg := PG0) TBok rfl PG0ok DokN (gokN w) (args := [.v (.string ⟨#[99]⟩)]) rfl (by kernel_rfl : outV (runC PG0 [] 1000000 100 [.v (.string ⟨#[99]⟩)] ⟨[], [[]], 1000, []⟩) = some (.bool true))
theorem PGok : PgOk Tryz.prog PG := ⟨.cons rfl rfl memo0 (.cons rfl rfl memo1 (.cons rfl rfl memo2 (.cons rfl rfl memo3 (.nil)))), ext0, TBok, fun _ _ h => PTok.get h, sokB_spec (by kernel_rfl), zero_of (by kernel_rfl), by rfl⟩
end Go.Proofs.YtfoajbnobcbflaaGreatDoor

namespace Go.Proofs.YtfoajbnobcbflaaGreatDoor
open Go Go.X
set_option maxRecDepth 100000
theorem mixed : Tryz.prog.follows .mixedOrders = true := by rfl
theorem sok : SOk Tryz.prog [23, 25, 30, 55, 61] := sokB_spec (by kernel_rfl)
/-- a call of f is walked in its place -/
def InSt (f : Nat) (F : Func) (k : Nat) : Prop := ∀ {n : Nat} {x : Code} {rs : List ResultVar} {W : World} {S : Nat → Prop} {r : Option Nat} {args : List SV} {H : List Blk} {nx : K1},
  Nat.ble (lenL args) k = true → F.body = some x → F.results.toList = rs → (∀ A : Ass, snocF H (.ext 0 A) (fun H' => envF 0 args (fun E => Run ⟨Tryz.prog, TB, k, W, S, none, TBok⟩ x E H' (inK ⟨Tryz.prog, TB, k, W, S, none, TBok⟩ A rs nx)))) → CallK ⟨Tryz.prog, TB, n, W, S, r, TBok⟩ f args H nx
theorem InSt.mk' {f : Nat} {F : Func} {k : Nat} (hf : Tryz.prog.funcs[f]? = some F) (hnm : (F.name == "runtime.NumGoroutine") = false) (hn : F.ntmps = k) : InSt f F k :=
  fun hlen hb hrs h => CallK.inline hf hb hnm hn hlen hrs h
abbrev pv (d : Nat) : Value := .pointer (some ⟨d, 0, none⟩)
theorem in25 : InSt 25 Tryz.f25 12 := InSt.mk' Tryz.func25 rfl Tryz.ntmps25
theorem in29 : InSt 29 Tryz.f29 5 := InSt.mk' Tryz.func29 rfl Tryz.ntmps29
end Go.Proofs.YtfoajbnobcbflaaGreatDoor

set_option linter.all false
set_option maxRecDepth 1000000
set_option maxHeartbeats 0
namespace Go.Proofs.YtfoajbnobcbflaaGreatDoor
open Go Go.X Go.Y
theorem Dok : DOk Tryz.prog [] := by
  intro g hg
  cases (show false = true from hg)
theorem gok0 (w : World) : GOk w PG [] := fun p hp => by cases hp
def Z33 : Value := .agg #[.int .i64 0, .int .i64 0, .int .i64 0, .int .i64 0, .int .i64 0, .int .i64 0, .string ⟨#[]⟩, .int .i64 0, .int .i64 0, .string ⟨#[]⟩, .string ⟨#[]⟩, .int .i64 0, .string ⟨#[]⟩, .int .i64 0, .int .i64 0, .slice none 0 0, .int .i64 0, .int .i64 0, .int .i64 0, .int .i64 0, .bool false, .int .i64 0, .int .i64 0, .string ⟨#[]⟩]
def Z49 : Value := .agg #[.string ⟨#[]⟩, .int .i64 0, .int .i64 0, .slice none 0 0, .int .i64 0, .int .i64 0, .bool false, .int .i64 0, .int .i64 0, .int .i64 0]
def Z63 : Value := .agg #[.string ⟨#[]⟩, .int .i64 0, .int .i64 0, .slice none 0 0, .int .i64 0, .int .i64 0, .bool false, .int .i64 0, .int .i64 0, .int .i64 0]
def Z71 : Value := .agg #[.int .i64 0, .int .i64 0, .slice none 0 0, .slice none 0 0, .slice none 0 0, .slice none 0 0, .slice none 0 0]
def Z77 : Value := .agg #[.int .i64 0, .int .i64 0, .slice none 0 0, .slice none 0 0, .slice none 0 0, .slice none 0 0, .slice none 0 0]
theorem equal11 (w : World) : Pu Tryz.prog 11 #[Z33, Z33] w (.bool true) := runV (pg := PG) TBok rfl PGok Dok (gok0 w) (args := [.v Z33, .v Z33]) rfl (by kernel_rfl : outV (runC PG [] 1000 11 [.v Z33, .v Z33] ⟨[], [[]], 1000, []⟩) = some (.bool true))
theorem turned13 (w : World) : Pu Tryz.prog 13 #[Z49] w Z63 := runV (pg := PG) TBok rfl PGok Dok (gok0 w) (args := [.v Z49]) rfl (by kernel_rfl : outV (runC PG [] 1000 13 [.v Z49] ⟨[], [[]], 1000, []⟩) = some Z63)
theorem same12 (w : World) : Pu Tryz.prog 12 #[Z63, Z63] w (.bool true) := runV (pg := PG) TBok rfl PGok Dok (gok0 w) (args := [.v Z63, .v Z63]) rfl (by kernel_rfl : outV (runC PG [] 1000 12 [.v Z63, .v Z63] ⟨[], [[]], 1000, []⟩) = some (.bool true))
theorem whole18 (w : World) : Pu Tryz.prog 18 #[Z71] w Z77 := runV (pg := PG) TBok rfl PGok Dok (gok0 w) (args := [.v Z71]) rfl (by kernel_rfl : outV (runC PG [] 1000 18 [.v Z71] ⟨[], [[]], 1000, []⟩) = some Z77)
theorem alike17 (w : World) : Pu Tryz.prog 17 #[Z77, Z77] w (.bool true) := runV (pg := PG) TBok rfl PGok Dok (gok0 w) (args := [.v Z77, .v Z77]) rfl (by kernel_rfl : outV (runC PG [] 1000 17 [.v Z77, .v Z77] ⟨[], [[]], 1000, []⟩) = some (.bool true))
end Go.Proofs.YtfoajbnobcbflaaGreatDoor

namespace Go.Proofs.YtfoajbnobcbflaaGreatDoor
open Go Go.X
set_option linter.all false
set_option maxRecDepth 100000
set_option maxHeartbeats 0
/-- an orchestrator that was not made -/
def OAt (w : World) (d : Nat) : Prop := w.heap[d]? = some (.cells (denL [.v (.int .i64 0), .v (.int .i64 0), .v (.pointer none), .v (.pointer none), .v (.pointer none)]).toArray 42 (0, 0))
theorem nilCommand6 {w : World} {i1 i2 i3 i4 : Int} {i5 : Bool} {i6 : Int} : Pu Tryz.prog 6 #[.pointer none, .agg #[.int .i64 i1, .int .i64 i2, .int .i64 i3, .int .i64 i4, .bool i5, .int .i64 i6]] w (.tuple #[.agg #[.int .i64 0, .int .i64 0, .int .i64 0, .int .i64 0, .int .i64 0, .int .i64 0, .string ⟨#[]⟩, .int .i64 0, .int .i64 0, .string ⟨#[]⟩, .string ⟨#[]⟩, .int .i64 0, .string ⟨#[]⟩, .int .i64 0, .int .i64 0, .slice none 0 0, .int .i64 0, .int .i64 0, .int .i64 0, .int .i64 0, .bool false, .int .i64 0, .int .i64 0, .string ⟨#[]⟩], .int .i64 1]) := by
  refine enter_sound TBok Tryz.func6 rfl rfl Tryz.ntmps6 [.v (.pointer none), .agg [.v (.int .i64 i1), .v (.int .i64 i2), .v (.int .i64 i3), .v (.int .i64 i4), .v (.bool i5), .v (.int .i64 i6)]] (Kn.start w noS) rfl rfl ?_
  conv => whnf
  repeat' (first
 | with_reducible (first | refine r_seq (fun KS hS => ?_) | (refine hS _ _ ?_; clear hS KS) | (refine hA _ ?_; clear hA KA) | (refine hB _ ?_; clear hB KB) | refine r_block ?_)
 | ((with_reducible (first | refine r_region ?_ | refine r_cond (fun KA hA KB hB => ?_) | refine r_ret ?_ | refine r_skip ?_ | refine r_exit ?_ | refine And.intro rfl ?_ | intro b)); conv => whnf)
 | ((with_reducible refine WrapK.i64 ?_ ?_); (focus omega); conv => whnf)
 | ((with_reducible refine CallK.id ?_); (first | apply in25 | apply in29); rfl; rfl; rfl; intro A; conv => whnf)
 | ((with_reducible refine OpK.id ?_); (refine OpK.bld rfl ?_); conv => whnf)
 | ((with_reducible apply OpK.more); (focus refine sok); (conv => whnf); fail_if_success guard_target =ₛ False)
 | ((with_reducible (first | refine InAt.mk (fun K' hK => ?_) | refine AnyAt.mk (fun K' hK => ?_) | (refine hK _ ?_; clear hK K') | (refine hK _ _ ?_; clear hK K'))); conv => whnf)
 | ((refine And.intro ?_ ?_); all_goals (conv => whnf))
 | (apply r_quiet; refine mixed; kernel_rfl; kernel_rfl; kernel_rfl; conv => whnf)
 | ((first | refine if_t (by decide) ?_ | refine if_f (by decide) ?_ | refine if_decT (by omega) ?_ | refine if_decF (by omega) ?_ | refine if_ndecT (by omega) ?_ | refine if_ndecF (by omega) ?_); conv => whnf)
 | ((first | refine if_dec (fun h => ?_) (fun h => ?_) | refine if_ndec (fun h => ?_) (fun h => ?_) | refine if_cond (fun h => ?_) (fun h => ?_)); all_goals (conv => whnf))
 | with_reducible apply_assumption -symm -exfalso)
  all_goals exact FinK.pu rfl
theorem nilCommandz6 {w : World} {d : Nat} (hd : OAt w d) {i1 i2 i3 i4 : Int} {i5 : Bool} {i6 : Int} : Pu Tryz.prog 6 #[pv d, .agg #[.int .i64 i1, .int .i64 i2, .int .i64 i3, .int .i64 i4, .bool i5, .int .i64 i6]] w (.tuple #[.agg #[.int .i64 0, .int .i64 0, .int .i64 0, .int .i64 0, .int .i64 0, .int .i64 0, .string ⟨#[]⟩, .int .i64 0, .int .i64 0, .string ⟨#[]⟩, .string ⟨#[]⟩, .int .i64 0, .string ⟨#[]⟩, .int .i64 0, .int .i64 0, .slice none 0 0, .int .i64 0, .int .i64 0, .int .i64 0, .int .i64 0, .bool false, .int .i64 0, .int .i64 0, .string ⟨#[]⟩], .int .i64 1]) := by
  refine Pu.ofFrZ (enter_ro TBok (cs := [.v (.int .i64 0), .v (.int .i64 0), .v (.pointer none), .v (.pointer none), .v (.pointer none)]) (b := d) (t := 42) hd Tryz.func6 rfl rfl Tryz.ntmps6 [.loc d 10 0, .agg [.v (.int .i64 i1), .v (.int .i64 i2), .v (.int .i64 i3), .v (.int .i64 i4), .v (.bool i5), .v (.int .i64 i6)]] rfl rfl ?_)
  conv => whnf
  repeat' (first
 | with_reducible (first | refine r_seq (fun KS hS => ?_) | (refine hS _ _ ?_; clear hS KS) | (refine hA _ ?_; clear hA KA) | (refine hB _ ?_; clear hB KB) | refine r_block ?_)
 | ((with_reducible (first | refine r_region ?_ | refine r_cond (fun KA hA KB hB => ?_) | refine r_ret ?_ | refine r_skip ?_ | refine r_exit ?_ | refine And.intro rfl ?_ | intro b)); conv => whnf)
 | ((with_reducible refine WrapK.i64 ?_ ?_); (focus omega); conv => whnf)
 | ((with_reducible refine CallK.id ?_); (first | apply in25 | apply in29); rfl; rfl; rfl; intro A; conv => whnf)
 | ((with_reducible apply OpK.more); (focus refine sok); (conv => whnf); fail_if_success guard_target =ₛ False)
 | ((with_reducible (first | refine InAt.mk (fun K' hK => ?_) | refine AnyAt.mk (fun K' hK => ?_) | (refine hK _ ?_; clear hK K') | (refine hK _ _ ?_; clear hK K'))); conv => whnf)
 | ((refine And.intro ?_ ?_); all_goals (conv => whnf))
 | (apply r_quiet; refine mixed; kernel_rfl; kernel_rfl; kernel_rfl; conv => whnf)
 | ((first | refine if_t (by decide) ?_ | refine if_f (by decide) ?_ | refine if_decT (by omega) ?_ | refine if_decF (by omega) ?_ | refine if_ndecT (by omega) ?_ | refine if_ndecF (by omega) ?_); conv => whnf)
 | ((first | refine if_dec (fun h => ?_) (fun h => ?_) | refine if_ndec (fun h => ?_) (fun h => ?_) | refine if_cond (fun h => ?_) (fun h => ?_)); all_goals (conv => whnf))
 | with_reducible apply_assumption -symm -exfalso)
  all_goals exact FinK.ro0 rfl (HSub.pick (by repeat (first | with_reducible apply At.head | apply At.tail)))
theorem nilSaga7 {w : World} {x : Int} : Pu Tryz.prog 7 #[.pointer none, .int .i64 x] w (.tuple #[.agg #[.string ⟨#[]⟩, .int .i64 0, .int .i64 0, .slice none 0 0, .int .i64 0, .int .i64 0, .bool false, .int .i64 0, .int .i64 0, .int .i64 0], .int .i64 1]) := by
  refine enter_sound TBok Tryz.func7 rfl rfl Tryz.ntmps7 [.v (.pointer none), .v (.int .i64 x)] (Kn.start w noS) rfl rfl ?_
  conv => whnf
  repeat' (first
 | with_reducible (first | refine r_seq (fun KS hS => ?_) | (refine hS _ _ ?_; clear hS KS) | (refine hA _ ?_; clear hA KA) | (refine hB _ ?_; clear hB KB) | refine r_block ?_)
 | ((with_reducible (first | refine r_region ?_ | refine r_cond (fun KA hA KB hB => ?_) | refine r_ret ?_ | refine r_skip ?_ | refine r_exit ?_ | refine And.intro rfl ?_ | intro b)); conv => whnf)
 | ((with_reducible refine WrapK.i64 ?_ ?_); (focus omega); conv => whnf)
 | ((with_reducible refine CallK.id ?_); (first | apply in25 | apply in29); rfl; rfl; rfl; intro A; conv => whnf)
 | ((with_reducible refine OpK.id ?_); (refine OpK.bld rfl ?_); conv => whnf)
 | ((with_reducible apply OpK.more); (focus refine sok); (conv => whnf); fail_if_success guard_target =ₛ False)
 | ((with_reducible (first | refine InAt.mk (fun K' hK => ?_) | refine AnyAt.mk (fun K' hK => ?_) | (refine hK _ ?_; clear hK K') | (refine hK _ _ ?_; clear hK K'))); conv => whnf)
 | ((refine And.intro ?_ ?_); all_goals (conv => whnf))
 | (apply r_quiet; refine mixed; kernel_rfl; kernel_rfl; kernel_rfl; conv => whnf)
 | ((first | refine if_t (by decide) ?_ | refine if_f (by decide) ?_ | refine if_decT (by omega) ?_ | refine if_decF (by omega) ?_ | refine if_ndecT (by omega) ?_ | refine if_ndecF (by omega) ?_); conv => whnf)
 | ((first | refine if_dec (fun h => ?_) (fun h => ?_) | refine if_ndec (fun h => ?_) (fun h => ?_) | refine if_cond (fun h => ?_) (fun h => ?_)); all_goals (conv => whnf))
 | with_reducible apply_assumption -symm -exfalso)
  all_goals exact FinK.pu rfl
theorem nilSagaz7 {w : World} {d : Nat} (hd : OAt w d) {x : Int} : Pu Tryz.prog 7 #[pv d, .int .i64 x] w (.tuple #[.agg #[.string ⟨#[]⟩, .int .i64 0, .int .i64 0, .slice none 0 0, .int .i64 0, .int .i64 0, .bool false, .int .i64 0, .int .i64 0, .int .i64 0], .int .i64 1]) := by
  refine Pu.ofFrZ (enter_ro TBok (cs := [.v (.int .i64 0), .v (.int .i64 0), .v (.pointer none), .v (.pointer none), .v (.pointer none)]) (b := d) (t := 42) hd Tryz.func7 rfl rfl Tryz.ntmps7 [.loc d 10 0, .v (.int .i64 x)] rfl rfl ?_)
  conv => whnf
  repeat' (first
 | with_reducible (first | refine r_seq (fun KS hS => ?_) | (refine hS _ _ ?_; clear hS KS) | (refine hA _ ?_; clear hA KA) | (refine hB _ ?_; clear hB KB) | refine r_block ?_)
 | ((with_reducible (first | refine r_region ?_ | refine r_cond (fun KA hA KB hB => ?_) | refine r_ret ?_ | refine r_skip ?_ | refine r_exit ?_ | refine And.intro rfl ?_ | intro b)); conv => whnf)
 | ((with_reducible refine WrapK.i64 ?_ ?_); (focus omega); conv => whnf)
 | ((with_reducible refine CallK.id ?_); (first | apply in25 | apply in29); rfl; rfl; rfl; intro A; conv => whnf)
 | ((with_reducible apply OpK.more); (focus refine sok); (conv => whnf); fail_if_success guard_target =ₛ False)
 | ((with_reducible (first | refine InAt.mk (fun K' hK => ?_) | refine AnyAt.mk (fun K' hK => ?_) | (refine hK _ ?_; clear hK K') | (refine hK _ _ ?_; clear hK K'))); conv => whnf)
 | ((refine And.intro ?_ ?_); all_goals (conv => whnf))
 | (apply r_quiet; refine mixed; kernel_rfl; kernel_rfl; kernel_rfl; conv => whnf)
 | ((first | refine if_t (by decide) ?_ | refine if_f (by decide) ?_ | refine if_decT (by omega) ?_ | refine if_decF (by omega) ?_ | refine if_ndecT (by omega) ?_ | refine if_ndecF (by omega) ?_); conv => whnf)
 | ((first | refine if_dec (fun h => ?_) (fun h => ?_) | refine if_ndec (fun h => ?_) (fun h => ?_) | refine if_cond (fun h => ?_) (fun h => ?_)); all_goals (conv => whnf))
 | with_reducible apply_assumption -symm -exfalso)
  all_goals exact FinK.ro0 rfl (HSub.pick (by repeat (first | with_reducible apply At.head | apply At.tail)))
theorem nilRoute8 {w : World} {x : ByteArray} : Pu Tryz.prog 8 #[.pointer none, .string x] w (.tuple #[.int .i64 0, .int .i64 1]) := by
  refine enter_sound TBok Tryz.func8 rfl rfl Tryz.ntmps8 [.v (.pointer none), .v (.string x)] (Kn.start w noS) rfl rfl ?_
  conv => whnf
  repeat' (first
 | with_reducible (first | refine r_seq (fun KS hS => ?_) | (refine hS _ _ ?_; clear hS KS) | (refine hA _ ?_; clear hA KA) | (refine hB _ ?_; clear hB KB) | refine r_block ?_)
 | ((with_reducible (first | refine r_region ?_ | refine r_cond (fun KA hA KB hB => ?_) | refine r_ret ?_ | refine r_skip ?_ | refine r_exit ?_ | refine And.intro rfl ?_ | intro b)); conv => whnf)
 | ((with_reducible refine WrapK.i64 ?_ ?_); (focus omega); conv => whnf)
 | ((with_reducible refine CallK.id ?_); (first | apply in25 | apply in29); rfl; rfl; rfl; intro A; conv => whnf)
 | ((with_reducible refine OpK.id ?_); (refine OpK.bld rfl ?_); conv => whnf)
 | ((with_reducible apply OpK.more); (focus refine sok); (conv => whnf); fail_if_success guard_target =ₛ False)
 | ((with_reducible (first | refine InAt.mk (fun K' hK => ?_) | refine AnyAt.mk (fun K' hK => ?_) | (refine hK _ ?_; clear hK K') | (refine hK _ _ ?_; clear hK K'))); conv => whnf)
 | ((refine And.intro ?_ ?_); all_goals (conv => whnf))
 | (apply r_quiet; refine mixed; kernel_rfl; kernel_rfl; kernel_rfl; conv => whnf)
 | ((first | refine if_t (by decide) ?_ | refine if_f (by decide) ?_ | refine if_decT (by omega) ?_ | refine if_decF (by omega) ?_ | refine if_ndecT (by omega) ?_ | refine if_ndecF (by omega) ?_); conv => whnf)
 | ((first | refine if_dec (fun h => ?_) (fun h => ?_) | refine if_ndec (fun h => ?_) (fun h => ?_) | refine if_cond (fun h => ?_) (fun h => ?_)); all_goals (conv => whnf))
 | with_reducible apply_assumption -symm -exfalso)
  all_goals exact FinK.pu rfl
theorem nilRoutez8 {w : World} {d : Nat} (hd : OAt w d) {x : ByteArray} : Pu Tryz.prog 8 #[pv d, .string x] w (.tuple #[.int .i64 0, .int .i64 1]) := by
  refine Pu.ofFrZ (enter_ro TBok (cs := [.v (.int .i64 0), .v (.int .i64 0), .v (.pointer none), .v (.pointer none), .v (.pointer none)]) (b := d) (t := 42) hd Tryz.func8 rfl rfl Tryz.ntmps8 [.loc d 10 0, .v (.string x)] rfl rfl ?_)
  conv => whnf
  repeat' (first
 | with_reducible (first | refine r_seq (fun KS hS => ?_) | (refine hS _ _ ?_; clear hS KS) | (refine hA _ ?_; clear hA KA) | (refine hB _ ?_; clear hB KB) | refine r_block ?_)
 | ((with_reducible (first | refine r_region ?_ | refine r_cond (fun KA hA KB hB => ?_) | refine r_ret ?_ | refine r_skip ?_ | refine r_exit ?_ | refine And.intro rfl ?_ | intro b)); conv => whnf)
 | ((with_reducible refine WrapK.i64 ?_ ?_); (focus omega); conv => whnf)
 | ((with_reducible refine CallK.id ?_); (first | apply in25 | apply in29); rfl; rfl; rfl; intro A; conv => whnf)
 | ((with_reducible apply OpK.more); (focus refine sok); (conv => whnf); fail_if_success guard_target =ₛ False)
 | ((with_reducible (first | refine InAt.mk (fun K' hK => ?_) | refine AnyAt.mk (fun K' hK => ?_) | (refine hK _ ?_; clear hK K') | (refine hK _ _ ?_; clear hK K'))); conv => whnf)
 | ((refine And.intro ?_ ?_); all_goals (conv => whnf))
 | (apply r_quiet; refine mixed; kernel_rfl; kernel_rfl; kernel_rfl; conv => whnf)
 | ((first | refine if_t (by decide) ?_ | refine if_f (by decide) ?_ | refine if_decT (by omega) ?_ | refine if_decF (by omega) ?_ | refine if_ndecT (by omega) ?_ | refine if_ndecF (by omega) ?_); conv => whnf)
 | ((first | refine if_dec (fun h => ?_) (fun h => ?_) | refine if_ndec (fun h => ?_) (fun h => ?_) | refine if_cond (fun h => ?_) (fun h => ?_)); all_goals (conv => whnf))
 | with_reducible apply_assumption -symm -exfalso)
  all_goals exact FinK.ro0 rfl (HSub.pick (by repeat (first | with_reducible apply At.head | apply At.tail)))
theorem nilApply9 {w : World} {ki ca sg e1 e2 e3 : Int} {ke : ByteArray} {de mo : Int} {rf rt : ByteArray} {gr : Int} {dn : ByteArray} {dr dd : Int} {sa : Option Addr} {sn sc : Nat} {i1 i2 i3 i4 : Int} {i5 : Bool} {i6 re : Int} {da : ByteArray} : Pu Tryz.prog 9 #[.pointer none, .agg #[.int .i64 ki, .int .i64 ca, .int .i64 sg, .int .i64 e1, .int .i64 e2, .int .i64 e3, .string ke, .int .i64 de, .int .i64 mo, .string rf, .string rt, .int .i64 gr, .string dn, .int .i64 dr, .int .i64 dd, .slice sa sn sc, .int .i64 i1, .int .i64 i2, .int .i64 i3, .int .i64 i4, .bool i5, .int .i64 i6, .int .i64 re, .string da]] w (.agg #[.int .i64 1, .int .i64 0, .string ⟨#[]⟩]) := by
  refine enter_sound TBok Tryz.func9 rfl rfl Tryz.ntmps9 [.v (.pointer none), .agg [.v (.int .i64 ki), .v (.int .i64 ca), .v (.int .i64 sg), .v (.int .i64 e1), .v (.int .i64 e2), .v (.int .i64 e3), .v (.string ke), .v (.int .i64 de), .v (.int .i64 mo), .v (.string rf), .v (.string rt), .v (.int .i64 gr), .v (.string dn), .v (.int .i64 dr), .v (.int .i64 dd), .v (.slice sa sn sc), .v (.int .i64 i1), .v (.int .i64 i2), .v (.int .i64 i3), .v (.int .i64 i4), .v (.bool i5), .v (.int .i64 i6), .v (.int .i64 re), .v (.string da)]] (Kn.start w noS) rfl rfl ?_
  conv => whnf
  repeat' (first
 | with_reducible (first | refine r_seq (fun KS hS => ?_) | (refine hS _ _ ?_; clear hS KS) | (refine hA _ ?_; clear hA KA) | (refine hB _ ?_; clear hB KB) | refine r_block ?_)
 | ((with_reducible (first | refine r_region ?_ | refine r_cond (fun KA hA KB hB => ?_) | refine r_ret ?_ | refine r_skip ?_ | refine r_exit ?_ | refine And.intro rfl ?_ | intro b)); conv => whnf)
 | ((with_reducible refine WrapK.i64 ?_ ?_); (focus omega); conv => whnf)
 | ((with_reducible refine CallK.id ?_); (first | apply in25 | apply in29); rfl; rfl; rfl; intro A; conv => whnf)
 | ((with_reducible refine OpK.id ?_); (refine OpK.bld rfl ?_); conv => whnf)
 | ((with_reducible apply OpK.more); (focus refine sok); (conv => whnf); fail_if_success guard_target =ₛ False)
 | ((with_reducible (first | refine InAt.mk (fun K' hK => ?_) | refine AnyAt.mk (fun K' hK => ?_) | (refine hK _ ?_; clear hK K') | (refine hK _ _ ?_; clear hK K'))); conv => whnf)
 | ((refine And.intro ?_ ?_); all_goals (conv => whnf))
 | (apply r_quiet; refine mixed; kernel_rfl; kernel_rfl; kernel_rfl; conv => whnf)
 | ((first | refine if_t (by decide) ?_ | refine if_f (by decide) ?_ | refine if_decT (by omega) ?_ | refine if_decF (by omega) ?_ | refine if_ndecT (by omega) ?_ | refine if_ndecF (by omega) ?_); conv => whnf)
 | ((first | refine if_dec (fun h => ?_) (fun h => ?_) | refine if_ndec (fun h => ?_) (fun h => ?_) | refine if_cond (fun h => ?_) (fun h => ?_)); all_goals (conv => whnf))
 | with_reducible apply_assumption -symm -exfalso)
  all_goals exact FinK.pu rfl
theorem nilApplyz9 {w : World} {d : Nat} (hd : OAt w d) {ki ca sg e1 e2 e3 : Int} {ke : ByteArray} {de mo : Int} {rf rt : ByteArray} {gr : Int} {dn : ByteArray} {dr dd : Int} {sa : Option Addr} {sn sc : Nat} {i1 i2 i3 i4 : Int} {i5 : Bool} {i6 re : Int} {da : ByteArray} : Pu Tryz.prog 9 #[pv d, .agg #[.int .i64 ki, .int .i64 ca, .int .i64 sg, .int .i64 e1, .int .i64 e2, .int .i64 e3, .string ke, .int .i64 de, .int .i64 mo, .string rf, .string rt, .int .i64 gr, .string dn, .int .i64 dr, .int .i64 dd, .slice sa sn sc, .int .i64 i1, .int .i64 i2, .int .i64 i3, .int .i64 i4, .bool i5, .int .i64 i6, .int .i64 re, .string da]] w (.agg #[.int .i64 1, .int .i64 0, .string ⟨#[]⟩]) := by
  refine Pu.ofFrZ (enter_ro TBok (cs := [.v (.int .i64 0), .v (.int .i64 0), .v (.pointer none), .v (.pointer none), .v (.pointer none)]) (b := d) (t := 42) hd Tryz.func9 rfl rfl Tryz.ntmps9 [.loc d 10 0, .agg [.v (.int .i64 ki), .v (.int .i64 ca), .v (.int .i64 sg), .v (.int .i64 e1), .v (.int .i64 e2), .v (.int .i64 e3), .v (.string ke), .v (.int .i64 de), .v (.int .i64 mo), .v (.string rf), .v (.string rt), .v (.int .i64 gr), .v (.string dn), .v (.int .i64 dr), .v (.int .i64 dd), .v (.slice sa sn sc), .v (.int .i64 i1), .v (.int .i64 i2), .v (.int .i64 i3), .v (.int .i64 i4), .v (.bool i5), .v (.int .i64 i6), .v (.int .i64 re), .v (.string da)]] rfl rfl ?_)
  conv => whnf
  repeat' (first
 | with_reducible (first | refine r_seq (fun KS hS => ?_) | (refine hS _ _ ?_; clear hS KS) | (refine hA _ ?_; clear hA KA) | (refine hB _ ?_; clear hB KB) | refine r_block ?_)
 | ((with_reducible (first | refine r_region ?_ | refine r_cond (fun KA hA KB hB => ?_) | refine r_ret ?_ | refine r_skip ?_ | refine r_exit ?_ | refine And.intro rfl ?_ | intro b)); conv => whnf)
 | ((with_reducible refine WrapK.i64 ?_ ?_); (focus omega); conv => whnf)
 | ((with_reducible refine CallK.id ?_); (first | apply in25 | apply in29); rfl; rfl; rfl; intro A; conv => whnf)
 | ((with_reducible apply OpK.more); (focus refine sok); (conv => whnf); fail_if_success guard_target =ₛ False)
 | ((with_reducible (first | refine InAt.mk (fun K' hK => ?_) | refine AnyAt.mk (fun K' hK => ?_) | (refine hK _ ?_; clear hK K') | (refine hK _ _ ?_; clear hK K'))); conv => whnf)
 | ((refine And.intro ?_ ?_); all_goals (conv => whnf))
 | (apply r_quiet; refine mixed; kernel_rfl; kernel_rfl; kernel_rfl; conv => whnf)
 | ((first | refine if_t (by decide) ?_ | refine if_f (by decide) ?_ | refine if_decT (by omega) ?_ | refine if_decF (by omega) ?_ | refine if_ndecT (by omega) ?_ | refine if_ndecF (by omega) ?_); conv => whnf)
 | ((first | refine if_dec (fun h => ?_) (fun h => ?_) | refine if_ndec (fun h => ?_) (fun h => ?_) | refine if_cond (fun h => ?_) (fun h => ?_)); all_goals (conv => whnf))
 | with_reducible apply_assumption -symm -exfalso)
  all_goals exact FinK.ro0 rfl (HSub.pick (by repeat (first | with_reducible apply At.head | apply At.tail)))
theorem nilItems10 {w : World}  : Pu Tryz.prog 10 #[.pointer none] w (.slice none 0 0) := by
  refine enter_sound TBok Tryz.func10 rfl rfl Tryz.ntmps10 [.v (.pointer none)] (Kn.start w noS) rfl rfl ?_
  conv => whnf
  repeat' (first
 | with_reducible (first | refine r_seq (fun KS hS => ?_) | (refine hS _ _ ?_; clear hS KS) | (refine hA _ ?_; clear hA KA) | (refine hB _ ?_; clear hB KB) | refine r_block ?_)
 | ((with_reducible (first | refine r_region ?_ | refine r_cond (fun KA hA KB hB => ?_) | refine r_ret ?_ | refine r_skip ?_ | refine r_exit ?_ | refine And.intro rfl ?_ | intro b)); conv => whnf)
 | ((with_reducible refine WrapK.i64 ?_ ?_); (focus omega); conv => whnf)
 | ((with_reducible refine CallK.id ?_); (first | apply in25 | apply in29); rfl; rfl; rfl; intro A; conv => whnf)
 | ((with_reducible refine OpK.id ?_); (refine OpK.bld rfl ?_); conv => whnf)
 | ((with_reducible apply OpK.more); (focus refine sok); (conv => whnf); fail_if_success guard_target =ₛ False)
 | ((with_reducible (first | refine InAt.mk (fun K' hK => ?_) | refine AnyAt.mk (fun K' hK => ?_) | (refine hK _ ?_; clear hK K') | (refine hK _ _ ?_; clear hK K'))); conv => whnf)
 | ((refine And.intro ?_ ?_); all_goals (conv => whnf))
 | (apply r_quiet; refine mixed; kernel_rfl; kernel_rfl; kernel_rfl; conv => whnf)
 | ((first | refine if_t (by decide) ?_ | refine if_f (by decide) ?_ | refine if_decT (by omega) ?_ | refine if_decF (by omega) ?_ | refine if_ndecT (by omega) ?_ | refine if_ndecF (by omega) ?_); conv => whnf)
 | ((first | refine if_dec (fun h => ?_) (fun h => ?_) | refine if_ndec (fun h => ?_) (fun h => ?_) | refine if_cond (fun h => ?_) (fun h => ?_)); all_goals (conv => whnf))
 | with_reducible apply_assumption -symm -exfalso)
  all_goals exact FinK.pu rfl
theorem nilItemsz10 {w : World} {d : Nat} (hd : OAt w d)  : Pu Tryz.prog 10 #[pv d] w (.slice none 0 0) := by
  refine Pu.ofFrZ (enter_ro TBok (cs := [.v (.int .i64 0), .v (.int .i64 0), .v (.pointer none), .v (.pointer none), .v (.pointer none)]) (b := d) (t := 42) hd Tryz.func10 rfl rfl Tryz.ntmps10 [.loc d 10 0] rfl rfl ?_)
  conv => whnf
  repeat' (first
 | with_reducible (first | refine r_seq (fun KS hS => ?_) | (refine hS _ _ ?_; clear hS KS) | (refine hA _ ?_; clear hA KA) | (refine hB _ ?_; clear hB KB) | refine r_block ?_)
 | ((with_reducible (first | refine r_region ?_ | refine r_cond (fun KA hA KB hB => ?_) | refine r_ret ?_ | refine r_skip ?_ | refine r_exit ?_ | refine And.intro rfl ?_ | intro b)); conv => whnf)
 | ((with_reducible refine WrapK.i64 ?_ ?_); (focus omega); conv => whnf)
 | ((with_reducible refine CallK.id ?_); (first | apply in25 | apply in29); rfl; rfl; rfl; intro A; conv => whnf)
 | ((with_reducible apply OpK.more); (focus refine sok); (conv => whnf); fail_if_success guard_target =ₛ False)
 | ((with_reducible (first | refine InAt.mk (fun K' hK => ?_) | refine AnyAt.mk (fun K' hK => ?_) | (refine hK _ ?_; clear hK K') | (refine hK _ _ ?_; clear hK K'))); conv => whnf)
 | ((refine And.intro ?_ ?_); all_goals (conv => whnf))
 | (apply r_quiet; refine mixed; kernel_rfl; kernel_rfl; kernel_rfl; conv => whnf)
 | ((first | refine if_t (by decide) ?_ | refine if_f (by decide) ?_ | refine if_decT (by omega) ?_ | refine if_decF (by omega) ?_ | refine if_ndecT (by omega) ?_ | refine if_ndecF (by omega) ?_); conv => whnf)
 | ((first | refine if_dec (fun h => ?_) (fun h => ?_) | refine if_ndec (fun h => ?_) (fun h => ?_) | refine if_cond (fun h => ?_) (fun h => ?_)); all_goals (conv => whnf))
 | with_reducible apply_assumption -symm -exfalso)
  all_goals exact FinK.ro0 rfl (HSub.pick (by repeat (first | with_reducible apply At.head | apply At.tail)))
theorem nilQuiet14 {w : World}  : Pu Tryz.prog 14 #[.pointer none] w (.bool false) := by
  refine enter_sound TBok Tryz.func14 rfl rfl Tryz.ntmps14 [.v (.pointer none)] (Kn.start w noS) rfl rfl ?_
  conv => whnf
  repeat' (first
 | with_reducible (first | refine r_seq (fun KS hS => ?_) | (refine hS _ _ ?_; clear hS KS) | (refine hA _ ?_; clear hA KA) | (refine hB _ ?_; clear hB KB) | refine r_block ?_)
 | ((with_reducible (first | refine r_region ?_ | refine r_cond (fun KA hA KB hB => ?_) | refine r_ret ?_ | refine r_skip ?_ | refine r_exit ?_ | refine And.intro rfl ?_ | intro b)); conv => whnf)
 | ((with_reducible refine WrapK.i64 ?_ ?_); (focus omega); conv => whnf)
 | ((with_reducible refine CallK.id ?_); (first | apply in25 | apply in29); rfl; rfl; rfl; intro A; conv => whnf)
 | ((with_reducible refine OpK.id ?_); (refine OpK.bld rfl ?_); conv => whnf)
 | ((with_reducible apply OpK.more); (focus refine sok); (conv => whnf); fail_if_success guard_target =ₛ False)
 | ((with_reducible (first | refine InAt.mk (fun K' hK => ?_) | refine AnyAt.mk (fun K' hK => ?_) | (refine hK _ ?_; clear hK K') | (refine hK _ _ ?_; clear hK K'))); conv => whnf)
 | ((refine And.intro ?_ ?_); all_goals (conv => whnf))
 | (apply r_quiet; refine mixed; kernel_rfl; kernel_rfl; kernel_rfl; conv => whnf)
 | ((first | refine if_t (by decide) ?_ | refine if_f (by decide) ?_ | refine if_decT (by omega) ?_ | refine if_decF (by omega) ?_ | refine if_ndecT (by omega) ?_ | refine if_ndecF (by omega) ?_); conv => whnf)
 | ((first | refine if_dec (fun h => ?_) (fun h => ?_) | refine if_ndec (fun h => ?_) (fun h => ?_) | refine if_cond (fun h => ?_) (fun h => ?_)); all_goals (conv => whnf))
 | with_reducible apply_assumption -symm -exfalso)
  all_goals exact FinK.pu rfl
theorem nilQuietz14 {w : World} {d : Nat} (hd : OAt w d)  : Pu Tryz.prog 14 #[pv d] w (.bool false) := by
  refine Pu.ofFrZ (enter_ro TBok (cs := [.v (.int .i64 0), .v (.int .i64 0), .v (.pointer none), .v (.pointer none), .v (.pointer none)]) (b := d) (t := 42) hd Tryz.func14 rfl rfl Tryz.ntmps14 [.loc d 10 0] rfl rfl ?_)
  conv => whnf
  repeat' (first
 | with_reducible (first | refine r_seq (fun KS hS => ?_) | (refine hS _ _ ?_; clear hS KS) | (refine hA _ ?_; clear hA KA) | (refine hB _ ?_; clear hB KB) | refine r_block ?_)
 | ((with_reducible (first | refine r_region ?_ | refine r_cond (fun KA hA KB hB => ?_) | refine r_ret ?_ | refine r_skip ?_ | refine r_exit ?_ | refine And.intro rfl ?_ | intro b)); conv => whnf)
 | ((with_reducible refine WrapK.i64 ?_ ?_); (focus omega); conv => whnf)
 | ((with_reducible refine CallK.id ?_); (first | apply in25 | apply in29); rfl; rfl; rfl; intro A; conv => whnf)
 | ((with_reducible apply OpK.more); (focus refine sok); (conv => whnf); fail_if_success guard_target =ₛ False)
 | ((with_reducible (first | refine InAt.mk (fun K' hK => ?_) | refine AnyAt.mk (fun K' hK => ?_) | (refine hK _ ?_; clear hK K') | (refine hK _ _ ?_; clear hK K'))); conv => whnf)
 | ((refine And.intro ?_ ?_); all_goals (conv => whnf))
 | (apply r_quiet; refine mixed; kernel_rfl; kernel_rfl; kernel_rfl; conv => whnf)
 | ((first | refine if_t (by decide) ?_ | refine if_f (by decide) ?_ | refine if_decT (by omega) ?_ | refine if_decF (by omega) ?_ | refine if_ndecT (by omega) ?_ | refine if_ndecF (by omega) ?_); conv => whnf)
 | ((first | refine if_dec (fun h => ?_) (fun h => ?_) | refine if_ndec (fun h => ?_) (fun h => ?_) | refine if_cond (fun h => ?_) (fun h => ?_)); all_goals (conv => whnf))
 | with_reducible apply_assumption -symm -exfalso)
  all_goals exact FinK.ro0 rfl (HSub.pick (by repeat (first | with_reducible apply At.head | apply At.tail)))
theorem nilApplied15 {w : World}  : Pu Tryz.prog 15 #[.pointer none] w (.int .i64 0) := by
  refine enter_sound TBok Tryz.func15 rfl rfl Tryz.ntmps15 [.v (.pointer none)] (Kn.start w noS) rfl rfl ?_
  conv => whnf
  repeat' (first
 | with_reducible (first | refine r_seq (fun KS hS => ?_) | (refine hS _ _ ?_; clear hS KS) | (refine hA _ ?_; clear hA KA) | (refine hB _ ?_; clear hB KB) | refine r_block ?_)
 | ((with_reducible (first | refine r_region ?_ | refine r_cond (fun KA hA KB hB => ?_) | refine r_ret ?_ | refine r_skip ?_ | refine r_exit ?_ | refine And.intro rfl ?_ | intro b)); conv => whnf)
 | ((with_reducible refine WrapK.i64 ?_ ?_); (focus omega); conv => whnf)
 | ((with_reducible refine CallK.id ?_); (first | apply in25 | apply in29); rfl; rfl; rfl; intro A; conv => whnf)
 | ((with_reducible refine OpK.id ?_); (refine OpK.bld rfl ?_); conv => whnf)
 | ((with_reducible apply OpK.more); (focus refine sok); (conv => whnf); fail_if_success guard_target =ₛ False)
 | ((with_reducible (first | refine InAt.mk (fun K' hK => ?_) | refine AnyAt.mk (fun K' hK => ?_) | (refine hK _ ?_; clear hK K') | (refine hK _ _ ?_; clear hK K'))); conv => whnf)
 | ((refine And.intro ?_ ?_); all_goals (conv => whnf))
 | (apply r_quiet; refine mixed; kernel_rfl; kernel_rfl; kernel_rfl; conv => whnf)
 | ((first | refine if_t (by decide) ?_ | refine if_f (by decide) ?_ | refine if_decT (by omega) ?_ | refine if_decF (by omega) ?_ | refine if_ndecT (by omega) ?_ | refine if_ndecF (by omega) ?_); conv => whnf)
 | ((first | refine if_dec (fun h => ?_) (fun h => ?_) | refine if_ndec (fun h => ?_) (fun h => ?_) | refine if_cond (fun h => ?_) (fun h => ?_)); all_goals (conv => whnf))
 | with_reducible apply_assumption -symm -exfalso)
  all_goals exact FinK.pu rfl
theorem nilAppliedz15 {w : World} {d : Nat} (hd : OAt w d)  : Pu Tryz.prog 15 #[pv d] w (.int .i64 0) := by
  refine Pu.ofFrZ (enter_ro TBok (cs := [.v (.int .i64 0), .v (.int .i64 0), .v (.pointer none), .v (.pointer none), .v (.pointer none)]) (b := d) (t := 42) hd Tryz.func15 rfl rfl Tryz.ntmps15 [.loc d 10 0] rfl rfl ?_)
  conv => whnf
  repeat' (first
 | with_reducible (first | refine r_seq (fun KS hS => ?_) | (refine hS _ _ ?_; clear hS KS) | (refine hA _ ?_; clear hA KA) | (refine hB _ ?_; clear hB KB) | refine r_block ?_)
 | ((with_reducible (first | refine r_region ?_ | refine r_cond (fun KA hA KB hB => ?_) | refine r_ret ?_ | refine r_skip ?_ | refine r_exit ?_ | refine And.intro rfl ?_ | intro b)); conv => whnf)
 | ((with_reducible refine WrapK.i64 ?_ ?_); (focus omega); conv => whnf)
 | ((with_reducible refine CallK.id ?_); (first | apply in25 | apply in29); rfl; rfl; rfl; intro A; conv => whnf)
 | ((with_reducible apply OpK.more); (focus refine sok); (conv => whnf); fail_if_success guard_target =ₛ False)
 | ((with_reducible (first | refine InAt.mk (fun K' hK => ?_) | refine AnyAt.mk (fun K' hK => ?_) | (refine hK _ ?_; clear hK K') | (refine hK _ _ ?_; clear hK K'))); conv => whnf)
 | ((refine And.intro ?_ ?_); all_goals (conv => whnf))
 | (apply r_quiet; refine mixed; kernel_rfl; kernel_rfl; kernel_rfl; conv => whnf)
 | ((first | refine if_t (by decide) ?_ | refine if_f (by decide) ?_ | refine if_decT (by omega) ?_ | refine if_decF (by omega) ?_ | refine if_ndecT (by omega) ?_ | refine if_ndecF (by omega) ?_); conv => whnf)
 | ((first | refine if_dec (fun h => ?_) (fun h => ?_) | refine if_ndec (fun h => ?_) (fun h => ?_) | refine if_cond (fun h => ?_) (fun h => ?_)); all_goals (conv => whnf))
 | with_reducible apply_assumption -symm -exfalso)
  all_goals exact FinK.ro0 rfl (HSub.pick (by repeat (first | with_reducible apply At.head | apply At.tail)))
theorem nilState16 {w : World}  : Pu Tryz.prog 16 #[.pointer none] w (.agg #[.int .i64 0, .int .i64 0, .slice none 0 0, .slice none 0 0, .slice none 0 0, .slice none 0 0, .slice none 0 0]) := by
  refine enter_sound TBok Tryz.func16 rfl rfl Tryz.ntmps16 [.v (.pointer none)] (Kn.start w noS) rfl rfl ?_
  conv => whnf
  repeat' (first
 | with_reducible (first | refine r_seq (fun KS hS => ?_) | (refine hS _ _ ?_; clear hS KS) | (refine hA _ ?_; clear hA KA) | (refine hB _ ?_; clear hB KB) | refine r_block ?_)
 | ((with_reducible (first | refine r_region ?_ | refine r_cond (fun KA hA KB hB => ?_) | refine r_ret ?_ | refine r_skip ?_ | refine r_exit ?_ | refine And.intro rfl ?_ | intro b)); conv => whnf)
 | ((with_reducible refine WrapK.i64 ?_ ?_); (focus omega); conv => whnf)
 | ((with_reducible refine CallK.id ?_); (first | apply in25 | apply in29); rfl; rfl; rfl; intro A; conv => whnf)
 | ((with_reducible refine OpK.id ?_); (refine OpK.bld rfl ?_); conv => whnf)
 | ((with_reducible apply OpK.more); (focus refine sok); (conv => whnf); fail_if_success guard_target =ₛ False)
 | ((with_reducible (first | refine InAt.mk (fun K' hK => ?_) | refine AnyAt.mk (fun K' hK => ?_) | (refine hK _ ?_; clear hK K') | (refine hK _ _ ?_; clear hK K'))); conv => whnf)
 | ((refine And.intro ?_ ?_); all_goals (conv => whnf))
 | (apply r_quiet; refine mixed; kernel_rfl; kernel_rfl; kernel_rfl; conv => whnf)
 | ((first | refine if_t (by decide) ?_ | refine if_f (by decide) ?_ | refine if_decT (by omega) ?_ | refine if_decF (by omega) ?_ | refine if_ndecT (by omega) ?_ | refine if_ndecF (by omega) ?_); conv => whnf)
 | ((first | refine if_dec (fun h => ?_) (fun h => ?_) | refine if_ndec (fun h => ?_) (fun h => ?_) | refine if_cond (fun h => ?_) (fun h => ?_)); all_goals (conv => whnf))
 | with_reducible apply_assumption -symm -exfalso)
  all_goals exact FinK.pu rfl
theorem nilStatez16 {w : World} {d : Nat} (hd : OAt w d)  : Pu Tryz.prog 16 #[pv d] w (.agg #[.int .i64 0, .int .i64 0, .slice none 0 0, .slice none 0 0, .slice none 0 0, .slice none 0 0, .slice none 0 0]) := by
  refine Pu.ofFrZ (enter_ro TBok (cs := [.v (.int .i64 0), .v (.int .i64 0), .v (.pointer none), .v (.pointer none), .v (.pointer none)]) (b := d) (t := 42) hd Tryz.func16 rfl rfl Tryz.ntmps16 [.loc d 10 0] rfl rfl ?_)
  conv => whnf
  repeat' (first
 | with_reducible (first | refine r_seq (fun KS hS => ?_) | (refine hS _ _ ?_; clear hS KS) | (refine hA _ ?_; clear hA KA) | (refine hB _ ?_; clear hB KB) | refine r_block ?_)
 | ((with_reducible (first | refine r_region ?_ | refine r_cond (fun KA hA KB hB => ?_) | refine r_ret ?_ | refine r_skip ?_ | refine r_exit ?_ | refine And.intro rfl ?_ | intro b)); conv => whnf)
 | ((with_reducible refine WrapK.i64 ?_ ?_); (focus omega); conv => whnf)
 | ((with_reducible refine CallK.id ?_); (first | apply in25 | apply in29); rfl; rfl; rfl; intro A; conv => whnf)
 | ((with_reducible apply OpK.more); (focus refine sok); (conv => whnf); fail_if_success guard_target =ₛ False)
 | ((with_reducible (first | refine InAt.mk (fun K' hK => ?_) | refine AnyAt.mk (fun K' hK => ?_) | (refine hK _ ?_; clear hK K') | (refine hK _ _ ?_; clear hK K'))); conv => whnf)
 | ((refine And.intro ?_ ?_); all_goals (conv => whnf))
 | (apply r_quiet; refine mixed; kernel_rfl; kernel_rfl; kernel_rfl; conv => whnf)
 | ((first | refine if_t (by decide) ?_ | refine if_f (by decide) ?_ | refine if_decT (by omega) ?_ | refine if_decF (by omega) ?_ | refine if_ndecT (by omega) ?_ | refine if_ndecF (by omega) ?_); conv => whnf)
 | ((first | refine if_dec (fun h => ?_) (fun h => ?_) | refine if_ndec (fun h => ?_) (fun h => ?_) | refine if_cond (fun h => ?_) (fun h => ?_)); all_goals (conv => whnf))
 | with_reducible apply_assumption -symm -exfalso)
  all_goals exact FinK.ro0 rfl (HSub.pick (by repeat (first | with_reducible apply At.head | apply At.tail)))
theorem nilCopy19 {w : World}  : Pu Tryz.prog 19 #[.pointer none] w (.pointer none) := by
  refine enter_sound TBok Tryz.func19 rfl rfl Tryz.ntmps19 [.v (.pointer none)] (Kn.start w noS) rfl rfl ?_
  conv => whnf
  repeat' (first
 | with_reducible (first | refine r_seq (fun KS hS => ?_) | (refine hS _ _ ?_; clear hS KS) | (refine hA _ ?_; clear hA KA) | (refine hB _ ?_; clear hB KB) | refine r_block ?_)
 | ((with_reducible (first | refine r_region ?_ | refine r_cond (fun KA hA KB hB => ?_) | refine r_ret ?_ | refine r_skip ?_ | refine r_exit ?_ | refine And.intro rfl ?_ | intro b)); conv => whnf)
 | ((with_reducible refine WrapK.i64 ?_ ?_); (focus omega); conv => whnf)
 | ((with_reducible refine CallK.id ?_); (first | apply in25 | apply in29); rfl; rfl; rfl; intro A; conv => whnf)
 | ((with_reducible refine OpK.id ?_); (refine OpK.bld rfl ?_); conv => whnf)
 | ((with_reducible apply OpK.more); (focus refine sok); (conv => whnf); fail_if_success guard_target =ₛ False)
 | ((with_reducible (first | refine InAt.mk (fun K' hK => ?_) | refine AnyAt.mk (fun K' hK => ?_) | (refine hK _ ?_; clear hK K') | (refine hK _ _ ?_; clear hK K'))); conv => whnf)
 | ((refine And.intro ?_ ?_); all_goals (conv => whnf))
 | (apply r_quiet; refine mixed; kernel_rfl; kernel_rfl; kernel_rfl; conv => whnf)
 | ((first | refine if_t (by decide) ?_ | refine if_f (by decide) ?_ | refine if_decT (by omega) ?_ | refine if_decF (by omega) ?_ | refine if_ndecT (by omega) ?_ | refine if_ndecF (by omega) ?_); conv => whnf)
 | ((first | refine if_dec (fun h => ?_) (fun h => ?_) | refine if_ndec (fun h => ?_) (fun h => ?_) | refine if_cond (fun h => ?_) (fun h => ?_)); all_goals (conv => whnf))
 | with_reducible apply_assumption -symm -exfalso)
  all_goals exact FinK.pu rfl
theorem nilCopyz19 {w : World} {d : Nat} (hd : OAt w d)  : Pu Tryz.prog 19 #[pv d] w (.pointer none) := by
  refine Pu.ofFrZ (enter_ro TBok (cs := [.v (.int .i64 0), .v (.int .i64 0), .v (.pointer none), .v (.pointer none), .v (.pointer none)]) (b := d) (t := 42) hd Tryz.func19 rfl rfl Tryz.ntmps19 [.loc d 10 0] rfl rfl ?_)
  conv => whnf
  repeat' (first
 | with_reducible (first | refine r_seq (fun KS hS => ?_) | (refine hS _ _ ?_; clear hS KS) | (refine hA _ ?_; clear hA KA) | (refine hB _ ?_; clear hB KB) | refine r_block ?_)
 | ((with_reducible (first | refine r_region ?_ | refine r_cond (fun KA hA KB hB => ?_) | refine r_ret ?_ | refine r_skip ?_ | refine r_exit ?_ | refine And.intro rfl ?_ | intro b)); conv => whnf)
 | ((with_reducible refine WrapK.i64 ?_ ?_); (focus omega); conv => whnf)
 | ((with_reducible refine CallK.id ?_); (first | apply in25 | apply in29); rfl; rfl; rfl; intro A; conv => whnf)
 | ((with_reducible apply OpK.more); (focus refine sok); (conv => whnf); fail_if_success guard_target =ₛ False)
 | ((with_reducible (first | refine InAt.mk (fun K' hK => ?_) | refine AnyAt.mk (fun K' hK => ?_) | (refine hK _ ?_; clear hK K') | (refine hK _ _ ?_; clear hK K'))); conv => whnf)
 | ((refine And.intro ?_ ?_); all_goals (conv => whnf))
 | (apply r_quiet; refine mixed; kernel_rfl; kernel_rfl; kernel_rfl; conv => whnf)
 | ((first | refine if_t (by decide) ?_ | refine if_f (by decide) ?_ | refine if_decT (by omega) ?_ | refine if_decF (by omega) ?_ | refine if_ndecT (by omega) ?_ | refine if_ndecF (by omega) ?_); conv => whnf)
 | ((first | refine if_dec (fun h => ?_) (fun h => ?_) | refine if_ndec (fun h => ?_) (fun h => ?_) | refine if_cond (fun h => ?_) (fun h => ?_)); all_goals (conv => whnf))
 | with_reducible apply_assumption -symm -exfalso)
  all_goals exact FinK.ro0 rfl (HSub.pick (by repeat (first | with_reducible apply At.head | apply At.tail)))
end Go.Proofs.YtfoajbnobcbflaaGreatDoor

namespace Go.X
open Go
theorem OpK.idxX {c : Cx} {o : Oper} {E : Env} {H : List Blk} {nx : K1} {t e : Nat} {x ix : Operand} {ti j : TI} (ho : o.op = .indexAddr t x ix) {b off n cap : Nat} {q : IntKind} {z : Int} (hx : opd E x = some (.v (.slice (some ⟨b, off, none⟩) n cap))) (hi : opd E ix = some (.v (.int q z)))
    (hti : c.T.get t = some ti) (hd : ti.desc = .slice e) (hj : c.T.get e = some j) {k : Nat} (hkk : j.size = k) (h0 : 0 ≤ z) (hlt : z < n)
    (h : nx (.v (.pointer (some ⟨b, off + z.toNat * k, none⟩))) H) : OpK c o E H nx := by
  subst hkk
  have hnd : ∀ cl, o.op ≠ .defer cl := by rw [ho]; intro cl e; cases e
  refine OpK.val hnd _ (fun ms ac w hac hk => ?_) h
  have hu := (c.ok t ti hti).1
  rw [hd] at hu
  have e1 := hac.opd hx
  have e2 := hac.opd hi
  simp only [den] at e1 e2
  simp [execOp, ho, e1, e2, Instr.indexAt, asIntOf, run_underlying hu, r_sizeOf (c.ok e j hj) w, hlt, h0, add_none, den]
theorem HSub.emp {i : Nat} (H : List Blk) : HSub [.ext i emp] H := fun _ _ _ =>
  ⟨fun _ => False ∨ False, .cons (x := .ext i X.emp) (S := fun _ => False) (fun _ h => h) (fun _ h => h.elim) .nil (fun _ h _ => h), fun _ hk => (hk.elim id id).elim⟩
end Go.X
namespace Go.Proofs.YtfoajbnobcbflaaGreatDoor
open Go Go.X
set_option linter.all false
set_option maxRecDepth 100000
set_option maxHeartbeats 0
/-- the steps of a definition that came in -/
def StpAt (w : World) (a : Option Addr) (n : Nat) : Prop :=
  n = 0 ∨ ∃ b off C t f, a = some ⟨b, off, none⟩ ∧ w.heap[b]? = some (.cells C t f) ∧ ∀ i, i < n → ∃ (k : ByteArray) (d : Int), k.size ≤ 9223372036854775807 ∧ ∀ j u, (denL [.v (.string k), .v (.int .i64 d)])[j]? = some u → C[off + i * 2 + j]? = some u
theorem StpAt.pc {W : World} {a : Option Addr} {n : Nat} (h : StpAt W a n) (hn : 0 < n) : ∃ b off, a = some ⟨b, off, none⟩ ∧ ∀ i, i < n → ∃ (k : ByteArray) (d : Int), k.size ≤ 9223372036854775807 ∧ ∀ (nt : Nat) (rr : Option Nat) (H : List Blk), PC ⟨Tryz.prog, TB, nt, W, noS, rr, TBok⟩ H b (off + i * 2) [.v (.string k), .v (.int .i64 d)] := by
  rcases h with rfl | ⟨b, off, C, t, f, rfl, h1, h2⟩
  · omega
  refine ⟨b, off, rfl, fun i hi => ?_⟩
  obtain ⟨k, d, h0, h3⟩ := h2 i hi
  refine ⟨k, d, h0, fun nt rr H ms w hk => ⟨C, t, f, ?_, h3⟩⟩
  rw [Kn0.old hk b (Array.getElem?_eq_some_iff.1 h1).1 (fun h => h)]
  exact h1
theorem StpAt.now {W w : World} {a : Option Addr} {n : Nat} {ms : List Nat} {H : List Blk} (h : StpAt W a n) (hk : Kn W noS ms H w) : StpAt w a n := by
  rcases h with rfl | ⟨b, off, C, t, f, rfl, h1, h2⟩
  · exact .inl rfl
  · exact .inr ⟨b, off, C, t, f, rfl, by rw [Kn0.old hk b (Array.getElem?_eq_some_iff.1 h1).1 (fun h => h)]; exact h1, h2⟩
theorem few4 {w : World} {bq : Nat} {ki ca sg e1 e2 e3 : Int} {ke : ByteArray} {de mo : Int} {rf rt : ByteArray} {gr : Int} {dn : ByteArray} {dr dd : Int} {sa : Option Addr} {sn sc : Nat} {i1 i2 i3 i4 : Int} {i5 : Bool} {i6 re : Int} {da : ByteArray} (z0 : ke.size ≤ 9223372036854775807) (z1 : rf.size ≤ 9223372036854775807) (z2 : rt.size ≤ 9223372036854775807) (z3 : dn.size ≤ 9223372036854775807) (z4 : da.size ≤ 9223372036854775807) (zn : sn ≤ 9223372036854775807) (hst : StpAt w sa sn) (hb : w.heap[bq]? = some (.cells (denL [.v (.int .i64 ki), .v (.int .i64 ca), .v (.int .i64 sg), .v (.int .i64 e1), .v (.int .i64 e2), .v (.int .i64 e3), .v (.string ke), .v (.int .i64 de), .v (.int .i64 mo), .v (.string rf), .v (.string rt), .v (.int .i64 gr), .v (.string dn), .v (.int .i64 dr), .v (.int .i64 dd), .v (.slice sa sn sc), .v (.int .i64 i1), .v (.int .i64 i2), .v (.int .i64 i3), .v (.int .i64 i4), .v (.bool i5), .v (.int .i64 i6), .v (.int .i64 re), .v (.string da)]).toArray 33 (0, 0))) :
    FrZ Tryz.prog 4 #[.slice (some ⟨bq, 0, none⟩) 1 1] w emp (fun b : Bool => .bool b) (fun _ => emp) := by
  have hp : ∀ (nt : Nat) (rr : Option Nat) (H : List Blk), PC ⟨Tryz.prog, TB, nt, w, noS, rr, TBok⟩ H bq (0 + 0 * 24) [.v (.int .i64 ki), .v (.int .i64 ca), .v (.int .i64 sg), .v (.int .i64 e1), .v (.int .i64 e2), .v (.int .i64 e3), .v (.string ke), .v (.int .i64 de), .v (.int .i64 mo), .v (.string rf), .v (.string rt), .v (.int .i64 gr), .v (.string dn), .v (.int .i64 dr), .v (.int .i64 dd), .v (.slice sa sn sc), .v (.int .i64 i1), .v (.int .i64 i2), .v (.int .i64 i3), .v (.int .i64 i4), .v (.bool i5), .v (.int .i64 i6), .v (.int .i64 re), .v (.string da)] := fun nt rr H ms w' hk => ⟨_, 33, (0, 0), by
    rw [Kn0.old hk bq (Array.getElem?_eq_some_iff.1 hb).1 (fun h => h)]
    exact hb, fun j u hj => by simpa using hj⟩
  refine enter_frZ TBok (H := []) emp_foot Tryz.func4 rfl rfl Tryz.ntmps4 [.v (.slice (some ⟨bq, 0, none⟩) 1 1)] rfl rfl ?_
  intro S hS _
  obtain rfl : S = noS := by funext k; exact propext ⟨fun h => hS k h, fun h => h.elim⟩
  conv => whnf
  repeat' (first
 | (with_reducible refine r_stop 8 ?_)
 | (with_reducible refine r_stop 9 ?_)
 | with_reducible (first | refine r_seq (fun KS hS => ?_) | (refine hS _ _ ?_; clear hS KS) | (refine hA _ ?_; clear hA KA) | (refine hB _ ?_; clear hB KB) | refine r_block ?_)
 | ((with_reducible (first | refine r_region ?_ | refine r_cond (fun KA hA KB hB => ?_) | refine r_ret ?_ | refine r_skip ?_ | refine r_exit ?_ | refine And.intro rfl ?_ | intro b)); conv => whnf)
 | ((with_reducible refine WrapK.i64 ?_ ?_); (focus omega); conv => whnf)
 | ((with_reducible refine OpK.id ?_); (first | refine OpK.idxX (k := 24) rfl rfl rfl rfl rfl rfl rfl (by omega) (by omega) ?_ | refine OpK.ldp rfl rfl (hp _ _ _) (List.cons_ne_nil _ _) ?_); conv => whnf)
 | ((with_reducible refine WrapK.id ?_); refine WrapK.raw ?_; conv => whnf)
 | ((with_reducible apply OpK.more); (focus refine sok); (conv => whnf); fail_if_success guard_target =ₛ False)
 | with_reducible (first | refine Rounds.step (fun KL hL => ?_) | (refine hL _ _ ?_; clear hL KL) | refine r_rounds 100 ?_)
 | ((with_reducible (first | refine InAt.mk (fun K' hK => ?_) | refine AnyAt.mk (fun K' hK => ?_) | (refine hK _ ?_; clear hK K') | (refine hK _ _ ?_; clear hK K'))); conv => whnf)
 | ((refine And.intro ?_ ?_); all_goals (conv => whnf))
 | (apply r_quiet; refine mixed; kernel_rfl; kernel_rfl; kernel_rfl; conv => whnf)
 | ((first | refine if_t (by decide) ?_ | refine if_f (by decide) ?_ | refine if_decT (by omega) ?_ | refine if_decF (by omega) ?_ | refine if_ndecT (by omega) ?_ | refine if_ndecF (by omega) ?_); conv => whnf)
 | ((first | refine if_dec (fun h => ?_) (fun h => ?_) | refine if_ndec (fun h => ?_) (fun h => ?_) | refine if_cond (fun h => ?_) (fun h => ?_)); all_goals (conv => whnf))
 | with_reducible apply_assumption -symm -exfalso)
  · exact FinK.frZ (i := 0) false rfl (HSub.emp _)
  refine StopR.mk ?_
  repeat' (first
 | with_reducible (first | refine r_seq (fun KS hS => ?_) | (refine hS _ _ ?_; clear hS KS) | (refine hA _ ?_; clear hA KA) | (refine hB _ ?_; clear hB KB) | refine r_block ?_)
 | ((with_reducible (first | refine r_region ?_ | refine r_cond (fun KA hA KB hB => ?_) | refine r_ret ?_ | refine r_skip ?_ | refine r_exit ?_ | refine And.intro rfl ?_ | intro b)); conv => whnf)
 | ((with_reducible refine WrapK.i64 ?_ ?_); (focus omega); conv => whnf)
 | ((with_reducible refine OpK.id ?_); (first | refine OpK.idxX (k := 24) rfl rfl rfl rfl rfl rfl rfl (by omega) (by omega) ?_ | refine OpK.ldp rfl rfl (hp _ _ _) (List.cons_ne_nil _ _) ?_); conv => whnf)
 | ((with_reducible refine WrapK.id ?_); refine WrapK.raw ?_; conv => whnf)
 | ((with_reducible apply OpK.more); (focus refine sok); (conv => whnf); fail_if_success guard_target =ₛ False)
 | ((with_reducible (first | refine InAt.mk (fun K' hK => ?_) | refine AnyAt.mk (fun K' hK => ?_) | (refine hK _ ?_; clear hK K') | (refine hK _ _ ?_; clear hK K'))); conv => whnf)
 | ((refine And.intro ?_ ?_); all_goals (conv => whnf))
 | (apply r_quiet; refine mixed; kernel_rfl; kernel_rfl; kernel_rfl; conv => whnf)
 | ((first | refine if_t (by decide) ?_ | refine if_f (by decide) ?_ | refine if_decT (by omega) ?_ | refine if_decF (by omega) ?_ | refine if_ndecT (by omega) ?_ | refine if_ndecF (by omega) ?_); conv => whnf)
 | ((first | refine if_dec (fun h => ?_) (fun h => ?_) | refine if_ndec (fun h => ?_) (fun h => ?_) | refine if_cond (fun h => ?_) (fun h => ?_)); all_goals (conv => whnf))
 | with_reducible apply_assumption -symm -exfalso)
  refine r_loop (α := Nat × Int) (fun p => [(0, .v (.slice (some ⟨bq, 0, none⟩) 1 1)), (2, .v (.bool false)), (3, .v (.int .i64 p.2)), (8, .v (.slice (some ⟨bq, 0, none⟩) 1 1)), (9, .v (.int .i64 ((1 : Nat) : Int))), (10, .v (.int .i64 0)), (45, .v (.slice sa sn sc)), (46, .v (.int .i64 sn)), (47, .v (.int .i64 p.1))]) (fun _ => []) (fun p => p.1 ≤ sn) (fun p => sn - p.1) (0, _) (Nat.zero_le _) (by repeat' (first | exact Sub.nil | (refine Sub.cons rfl rfl ?_))) (HSub.none _) ?_
  rintro ⟨i, x⟩ hi KL2 hL2
  dsimp only at hi
  by_cases hlt : i < sn
  · obtain ⟨b2, off, rfl, hq⟩ := StpAt.pc hst (by omega)
    obtain ⟨k2, d2, hk2, hq⟩ := hq i hlt
    repeat' (first
 | with_reducible (first | refine r_seq (fun KS hS => ?_) | (refine hS _ _ ?_; clear hS KS) | (refine hA _ ?_; clear hA KA) | (refine hB _ ?_; clear hB KB) | refine r_block ?_)
 | ((with_reducible (first | refine r_region ?_ | refine r_cond (fun KA hA KB hB => ?_) | refine r_ret ?_ | refine r_skip ?_ | refine r_exit ?_ | refine And.intro rfl ?_ | intro b)); conv => whnf)
 | ((with_reducible refine WrapK.i64 ?_ ?_); (focus omega); conv => whnf)
 | ((with_reducible refine OpK.id ?_); (first | refine OpK.idxX (k := 2) rfl rfl rfl rfl rfl rfl rfl (by omega) (by omega) ?_ | refine OpK.ldp rfl rfl (hq _ _ _) (List.cons_ne_nil _ _) ?_); conv => whnf)
 | ((with_reducible refine WrapK.id ?_); refine WrapK.raw ?_; conv => whnf)
 | (refine hL2 (i + 1, _) _ _ (by show i + 1 ≤ sn; omega) (by show sn - (i + 1) < sn - i; omega) (by repeat' (first | exact Sub.nil | (refine Sub.cons rfl rfl ?_))) (HSub.none _))
 | ((with_reducible apply OpK.more); (focus refine sok); (conv => whnf); fail_if_success guard_target =ₛ False)
 | ((with_reducible (first | refine InAt.mk (fun K' hK => ?_) | refine AnyAt.mk (fun K' hK => ?_) | (refine hK _ ?_; clear hK K') | (refine hK _ _ ?_; clear hK K'))); conv => whnf)
 | ((refine And.intro ?_ ?_); all_goals (conv => whnf))
 | (apply r_quiet; refine mixed; kernel_rfl; kernel_rfl; kernel_rfl; conv => whnf)
 | ((first | refine if_t (by decide) ?_ | refine if_f (by decide) ?_ | refine if_decT (by omega) ?_ | refine if_decF (by omega) ?_ | refine if_ndecT (by omega) ?_ | refine if_ndecF (by omega) ?_); conv => whnf)
 | ((first | refine if_dec (fun h => ?_) (fun h => ?_) | refine if_ndec (fun h => ?_) (fun h => ?_) | refine if_cond (fun h => ?_) (fun h => ?_)); all_goals (conv => whnf))
 | with_reducible apply_assumption -symm -exfalso)
  obtain rfl : i = sn := by omega
  repeat' (first
 | with_reducible (first | refine r_seq (fun KS hS => ?_) | (refine hS _ _ ?_; clear hS KS) | (refine hA _ ?_; clear hA KA) | (refine hB _ ?_; clear hB KB) | refine r_block ?_)
 | ((with_reducible (first | refine r_region ?_ | refine r_cond (fun KA hA KB hB => ?_) | refine r_ret ?_ | refine r_skip ?_ | refine r_exit ?_ | refine And.intro rfl ?_ | intro b)); conv => whnf)
 | ((with_reducible refine WrapK.i64 ?_ ?_); (focus omega); conv => whnf)
 | ((with_reducible refine WrapK.id ?_); refine WrapK.raw ?_; conv => whnf)
 | ((with_reducible apply OpK.more); (focus refine sok); (conv => whnf); fail_if_success guard_target =ₛ False)
 | with_reducible (first | refine Rounds.step (fun KL hL => ?_) | (refine hL _ _ ?_; clear hL KL) | refine r_rounds 100 ?_)
 | ((with_reducible (first | refine InAt.mk (fun K' hK => ?_) | refine AnyAt.mk (fun K' hK => ?_) | (refine hK _ ?_; clear hK K') | (refine hK _ _ ?_; clear hK K'))); conv => whnf)
 | ((refine And.intro ?_ ?_); all_goals (conv => whnf))
 | (apply r_quiet; refine mixed; kernel_rfl; kernel_rfl; kernel_rfl; conv => whnf)
 | ((first | refine if_t (by decide) ?_ | refine if_f (by decide) ?_ | refine if_decT (by omega) ?_ | refine if_decF (by omega) ?_ | refine if_ndecT (by omega) ?_ | refine if_ndecF (by omega) ?_); conv => whnf)
 | ((first | refine if_dec (fun h => ?_) (fun h => ?_) | refine if_ndec (fun h => ?_) (fun h => ?_) | refine if_cond (fun h => ?_) (fun h => ?_)); all_goals (conv => whnf))
 | with_reducible apply_assumption -symm -exfalso)
  exact FinK.frZ (i := 0) _ rfl (HSub.emp _)
end Go.Proofs.YtfoajbnobcbflaaGreatDoor

namespace Go.Proofs.YtfoajbnobcbflaaGreatDoor
open Go Go.X
set_option linter.all false
set_option maxRecDepth 100000
set_option maxHeartbeats 0
/-- the package's variables that the examples read -/
def GAt (w : World) : Prop := ∃ t0 f0 t1 f1, w.heap[0]? = some (.cells ([.nilFunc, .func (.func 342) #[] #[], .func (.func 343) #[] #[], .func (.func 344) #[] #[]] : List Value).toArray t0 f0) ∧ w.heap[1]? = some (.cells ([.int .i64 0, .int .i64 1, .int .i64 3, .int .i64 2] : List Value).toArray t1 f1)
theorem GAt.now {W w : World} {ms : List Nat} {H : List Blk} (h : GAt W) (hk : Kn W noS ms H w) : GAt w := by
  obtain ⟨t0, f0, t1, f1, h0, h1⟩ := h
  exact ⟨t0, f0, t1, f1, by rw [Kn0.old hk 0 (Array.getElem?_eq_some_iff.1 h0).1 (fun h => h)]; exact h0, by rw [Kn0.old hk 1 (Array.getElem?_eq_some_iff.1 h1).1 (fun h => h)]; exact h1⟩
theorem orchNil3 {w : World} {ki ca sg e1 e2 e3 : Int} {ke : ByteArray} {de mo : Int} {rf rt : ByteArray} {gr : Int} {dn : ByteArray} {dr dd : Int} {sa : Option Addr} {sn sc : Nat} {i1 i2 i3 i4 : Int} {i5 : Bool} {i6 re : Int} {da : ByteArray} (z0 : ke.size ≤ 9223372036854775807) (z1 : rf.size ≤ 9223372036854775807) (z2 : rt.size ≤ 9223372036854775807) (z3 : dn.size ≤ 9223372036854775807) (z4 : da.size ≤ 9223372036854775807) (zn : sn ≤ 9223372036854775807) (hst : StpAt w sa sn) (hg : GAt w) (hworks : ∀ w, GAt w → Pu Tryz.prog 5 #[] w (.bool true)) :
    Pu Tryz.prog 3 #[.agg #[.int .i64 ki, .int .i64 ca, .int .i64 sg, .int .i64 e1, .int .i64 e2, .int .i64 e3, .string ke, .int .i64 de, .int .i64 mo, .string rf, .string rt, .int .i64 gr, .string dn, .int .i64 dr, .int .i64 dd, .slice sa sn sc, .int .i64 i1, .int .i64 i2, .int .i64 i3, .int .i64 i4, .bool i5, .int .i64 i6, .int .i64 re, .string da]] w (.bool true) := by
  refine enter_sound TBok Tryz.func3 rfl rfl Tryz.ntmps3 [.agg [.v (.int .i64 ki), .v (.int .i64 ca), .v (.int .i64 sg), .v (.int .i64 e1), .v (.int .i64 e2), .v (.int .i64 e3), .v (.string ke), .v (.int .i64 de), .v (.int .i64 mo), .v (.string rf), .v (.string rt), .v (.int .i64 gr), .v (.string dn), .v (.int .i64 dr), .v (.int .i64 dd), .v (.slice sa sn sc), .v (.int .i64 i1), .v (.int .i64 i2), .v (.int .i64 i3), .v (.int .i64 i4), .v (.bool i5), .v (.int .i64 i6), .v (.int .i64 re), .v (.string da)]] (Kn.start w noS) rfl rfl ?_
  conv => whnf
  repeat' (first
 | with_reducible (first | refine r_seq (fun KS hS => ?_) | (refine hS _ _ ?_; clear hS KS) | (refine hA _ ?_; clear hA KA) | (refine hB _ ?_; clear hB KB) | refine r_block ?_)
 | ((with_reducible (first | refine r_region ?_ | refine r_cond (fun KA hA KB hB => ?_) | refine r_ret ?_ | refine r_skip ?_ | refine r_exit ?_ | refine And.intro rfl ?_ | intro b)); conv => whnf)
 | ((with_reducible refine WrapK.i64 ?_ ?_); (focus omega); conv => whnf)
 | ((with_reducible refine CallK.id ?_); (first | refine CallK.fresh (fun ms w hk => few4 z0 z1 z2 z3 z4 zn (hst.now hk) (hk.got (by repeat (first | constructor | apply List.Mem.tail)))) ?_ | refine CallK.puW (fun ms w hk => hworks _ (hg.now hk)) ?_); conv => whnf)
 | ((with_reducible refine CallK.at 6 ?_); (first | refine CallK.puW (fun ms w hk => nilCommand6) ?_ | refine CallK.puW (fun ms w hk => nilCommandz6 (hk.got (by repeat (first | constructor | apply List.Mem.tail)))) ?_); conv => whnf)
 | ((with_reducible refine CallK.at 7 ?_); (first | refine CallK.puW (fun ms w hk => nilSaga7) ?_ | refine CallK.puW (fun ms w hk => nilSagaz7 (hk.got (by repeat (first | constructor | apply List.Mem.tail)))) ?_); conv => whnf)
 | ((with_reducible refine CallK.at 8 ?_); (first | refine CallK.puW (fun ms w hk => nilRoute8) ?_ | refine CallK.puW (fun ms w hk => nilRoutez8 (hk.got (by repeat (first | constructor | apply List.Mem.tail)))) ?_); conv => whnf)
 | ((with_reducible refine CallK.at 9 ?_); (first | refine CallK.puW (fun ms w hk => nilApply9) ?_ | refine CallK.puW (fun ms w hk => nilApplyz9 (hk.got (by repeat (first | constructor | apply List.Mem.tail)))) ?_); conv => whnf)
 | ((with_reducible refine CallK.at 10 ?_); (first | refine CallK.puW (fun ms w hk => nilItems10) ?_ | refine CallK.puW (fun ms w hk => nilItemsz10 (hk.got (by repeat (first | constructor | apply List.Mem.tail)))) ?_); conv => whnf)
 | ((with_reducible refine CallK.at 14 ?_); (first | refine CallK.puW (fun ms w hk => nilQuiet14) ?_ | refine CallK.puW (fun ms w hk => nilQuietz14 (hk.got (by repeat (first | constructor | apply List.Mem.tail)))) ?_); conv => whnf)
 | ((with_reducible refine CallK.at 15 ?_); (first | refine CallK.puW (fun ms w hk => nilApplied15) ?_ | refine CallK.puW (fun ms w hk => nilAppliedz15 (hk.got (by repeat (first | constructor | apply List.Mem.tail)))) ?_); conv => whnf)
 | ((with_reducible refine CallK.at 16 ?_); (first | refine CallK.puW (fun ms w hk => nilState16) ?_ | refine CallK.puW (fun ms w hk => nilStatez16 (hk.got (by repeat (first | constructor | apply List.Mem.tail)))) ?_); conv => whnf)
 | ((with_reducible refine CallK.at 19 ?_); (first | refine CallK.puW (fun ms w hk => nilCopy19) ?_ | refine CallK.puW (fun ms w hk => nilCopyz19 (hk.got (by repeat (first | constructor | apply List.Mem.tail)))) ?_); conv => whnf)
 | ((with_reducible refine CallK.id ?_); (first | refine CallK.pu equal11 ?_ | refine CallK.pu turned13 ?_ | refine CallK.pu same12 ?_ | refine CallK.pu whole18 ?_ | refine CallK.pu alike17 ?_); conv => whnf)
 | ((with_reducible refine OpK.id ?_); (refine OpK.bld rfl ?_); conv => whnf)
 | ((with_reducible apply OpK.more); (focus refine sok); (conv => whnf); fail_if_success guard_target =ₛ False)
 | with_reducible (first | refine Rounds.step (fun KL hL => ?_) | (refine hL _ _ ?_; clear hL KL) | refine r_rounds 100 ?_)
 | ((with_reducible (first | refine InAt.mk (fun K' hK => ?_) | refine AnyAt.mk (fun K' hK => ?_) | (refine hK _ ?_; clear hK K') | (refine hK _ _ ?_; clear hK K'))); conv => whnf)
 | ((refine And.intro ?_ ?_); all_goals (conv => whnf))
 | (apply r_quiet; refine mixed; kernel_rfl; kernel_rfl; kernel_rfl; conv => whnf)
 | ((first | refine if_t (by decide) ?_ | refine if_f (by decide) ?_ | refine if_decT (by omega) ?_ | refine if_decF (by omega) ?_ | refine if_ndecT (by omega) ?_ | refine if_ndecF (by omega) ?_); conv => whnf)
 | ((first | refine if_dec (fun h => ?_) (fun h => ?_) | refine if_ndec (fun h => ?_) (fun h => ?_) | refine if_cond (fun h => ?_) (fun h => ?_)); all_goals (conv => whnf))
 | with_reducible apply_assumption -symm -exfalso)
  all_goals exact FinK.pu rfl
end Go.Proofs.YtfoajbnobcbflaaGreatDoor

namespace Go.Proofs.YtfoajbnobcbflaaGreatDoor
open Go Go.X Go.ChangeShapes Go.WideShapes Go.RowKit
set_option linter.all false
set_option maxRecDepth 100000
set_option maxHeartbeats 0
section
variable {H : Type} {enc : TypeId × Value → H} {w : World} {sp : Nat → Bool}
theorem eff_cells {fuel : Nat} {cs : List Value} {x : DataW H × List MemPlace} (h : DataW.trod enc Tryz.prog w 0 sp true fuel 23 cs = some x) : ∃ a b c : Int, cs = [.int .i64 a, .int .i64 b, .int .i64 c] := by
  obtain ⟨xs, n, rfl, hx, hl, hxl, hall⟩ := DataW.trod_struct Tryz.underlying23 h
  have hC : Tryz.prog.cellsOf 23 = 3 := by kernel_rfl
  rw [hC] at hl
  match cs, hl with
  | [c0, c1, c2], _ =>
  match xs, hxl with
  | [y0, y1, y2], _ =>
  have q0 := hall 0 _ rfl
  have e0 : DataW.trod enc Tryz.prog w 0 sp true n 3 (([c0, c1, c2].drop 0).take (Tryz.prog.cellsOf 3)) = some y0 := q0
  rw [show Tryz.prog.cellsOf 3 = 1 by kernel_rfl] at e0
  obtain ⟨z0, f0, _, _⟩ := DataW.trod_int Tryz.underlying3 e0
  simp only [List.drop_zero, List.take_succ_cons, List.take_zero, List.drop_succ_cons, List.cons.injEq, and_true] at f0
  have q1 := hall 1 _ rfl
  have e1 : DataW.trod enc Tryz.prog w 0 sp true n 3 (([c0, c1, c2].drop 1).take (Tryz.prog.cellsOf 3)) = some y1 := q1
  rw [show Tryz.prog.cellsOf 3 = 1 by kernel_rfl] at e1
  obtain ⟨z1, f1, _, _⟩ := DataW.trod_int Tryz.underlying3 e1
  simp only [List.drop_zero, List.take_succ_cons, List.take_zero, List.drop_succ_cons, List.cons.injEq, and_true] at f1
  have q2 := hall 2 _ rfl
  have e2 : DataW.trod enc Tryz.prog w 0 sp true n 3 (([c0, c1, c2].drop 2).take (Tryz.prog.cellsOf 3)) = some y2 := q2
  rw [show Tryz.prog.cellsOf 3 = 1 by kernel_rfl] at e2
  obtain ⟨z2, f2, _, _⟩ := DataW.trod_int Tryz.underlying3 e2
  simp only [List.drop_zero, List.take_succ_cons, List.take_zero, List.drop_succ_cons, List.cons.injEq, and_true] at f2
  subst f0 f1 f2
  exact ⟨_, _, _, rfl⟩
theorem rng_cells {fuel : Nat} {cs : List Value} {x : DataW H × List MemPlace} (h : DataW.trod enc Tryz.prog w 0 sp true fuel 25 cs = some x) : ∃ a b : ByteArray, cs = [.string a, .string b] ∧ a.size ≤ maxLen ∧ b.size ≤ maxLen := by
  obtain ⟨xs, n, rfl, hx, hl, hxl, hall⟩ := DataW.trod_struct Tryz.underlying25 h
  have hC : Tryz.prog.cellsOf 25 = 2 := by kernel_rfl
  rw [hC] at hl
  match cs, hl with
  | [c0, c1], _ =>
  match xs, hxl with
  | [y0, y1], _ =>
  have q0 := hall 0 _ rfl
  have e0 : DataW.trod enc Tryz.prog w 0 sp true n 9 (([c0, c1].drop 0).take (Tryz.prog.cellsOf 9)) = some y0 := q0
  rw [show Tryz.prog.cellsOf 9 = 1 by kernel_rfl] at e0
  obtain ⟨z0, f0, _, g0⟩ := DataW.trod_string Tryz.underlying9 e0
  simp only [List.drop_zero, List.take_succ_cons, List.take_zero, List.drop_succ_cons, List.cons.injEq, and_true] at f0
  have q1 := hall 1 _ rfl
  have e1 : DataW.trod enc Tryz.prog w 0 sp true n 9 (([c0, c1].drop 1).take (Tryz.prog.cellsOf 9)) = some y1 := q1
  rw [show Tryz.prog.cellsOf 9 = 1 by kernel_rfl] at e1
  obtain ⟨z1, f1, _, g1⟩ := DataW.trod_string Tryz.underlying9 e1
  simp only [List.drop_zero, List.take_succ_cons, List.take_zero, List.drop_succ_cons, List.cons.injEq, and_true] at f1
  subst f0 f1
  exact ⟨_, _, rfl, g0, g1⟩
theorem stp_cells {fuel : Nat} {cs : List Value} {x : DataW H × List MemPlace} (h : DataW.trod enc Tryz.prog w 0 sp true fuel 82 cs = some x) : ∃ (k : ByteArray) (d : Int), cs = [.string k, .int .i64 d] ∧ k.size ≤ maxLen := by
  obtain ⟨xs, n, rfl, hx, hl, hxl, hall⟩ := DataW.trod_struct Tryz.underlying82 h
  have hC : Tryz.prog.cellsOf 82 = 2 := by kernel_rfl
  rw [hC] at hl
  match cs, hl with
  | [c0, c1], _ =>
  match xs, hxl with
  | [y0, y1], _ =>
  have q0 := hall 0 _ rfl
  have e0 : DataW.trod enc Tryz.prog w 0 sp true n 9 (([c0, c1].drop 0).take (Tryz.prog.cellsOf 9)) = some y0 := q0
  rw [show Tryz.prog.cellsOf 9 = 1 by kernel_rfl] at e0
  obtain ⟨z0, f0, _, g0⟩ := DataW.trod_string Tryz.underlying9 e0
  simp only [List.drop_zero, List.take_succ_cons, List.take_zero, List.drop_succ_cons, List.cons.injEq, and_true] at f0
  have q1 := hall 1 _ rfl
  have e1 : DataW.trod enc Tryz.prog w 0 sp true n 2 (([c0, c1].drop 1).take (Tryz.prog.cellsOf 2)) = some y1 := q1
  rw [show Tryz.prog.cellsOf 2 = 1 by kernel_rfl] at e1
  obtain ⟨z1, f1, _, _⟩ := DataW.trod_int Tryz.underlying2 e1
  simp only [List.drop_zero, List.take_succ_cons, List.take_zero, List.drop_succ_cons, List.cons.injEq, and_true] at f1
  subst f0 f1
  exact ⟨_, _, rfl, g0⟩
theorem list_stp {fuel : Nat} {cs : List Value} {x : DataW H × List MemPlace} (h : DataW.trod enc Tryz.prog w 0 sp true fuel 26 cs = some x) : ∃ (a : Option Addr) (n cap : Nat), cs = [.slice a n cap] ∧ StpAt w a n ∧ n ≤ maxLen := by
  rcases Go.Deep.open_slice Tryz.underlying26 h with ⟨rfl, _⟩ | ⟨a, len, cap, m, n, D, Pl, rfl, _, hl, hm, hmm, _, hi⟩
  · exact ⟨none, 0, 0, rfl, .inl rfl, Nat.zero_le _⟩
  refine ⟨some a, len, cap, rfl, ?_, Nat.le_trans hl hm⟩
  by_cases h0 : len = 0
  · exact .inl h0
  have hlm : len ≤ m := by rw [hmm]; split <;> omega
  rw [show Tryz.prog.cellsOf 82 = 2 by kernel_rfl] at hi
  have cell : ∀ i, i < len → ∃ (v : ByteArray) (s : Int), v.size ≤ maxLen ∧ ∀ j u, [Value.string v, .int .i64 s][j]? = some u → w.cell? ((a.add (i * 2)).add j) = some u := by
    intro i hil
    obtain ⟨cs', hc, ht⟩ := hi i (by omega)
    obtain ⟨v, s, rfl, hv⟩ := stp_cells ht
    obtain ⟨_, hcl, hat⟩ := World.cells?_some hc
    refine ⟨v, s, hv, fun j u hu => ?_⟩
    have hj : j < 2 := (List.getElem?_eq_some_iff.1 hu).1
    rw [hat j hj]
    exact hu
  have spot0 : a.spot = none ∧ ∃ C t f, w.heap[a.block]? = some (.cells C t f) := by
    obtain ⟨_, _, _, hc⟩ := cell 0 (by omega)
    have := hc 0 _ rfl
    simp only [Nat.zero_mul, Addr.add, if_pos] at this
    unfold World.cell? at this
    split at this
    · rename_i C t f hh
      split at this
      · cases this
      · rename_i hs
        exact ⟨by simpa using hs, C, t, f, hh⟩
    · cases this
  obtain ⟨hs, C, t, f, hh⟩ := spot0
  obtain ⟨b, off, sp⟩ := a
  dsimp only at hs hh
  subst hs
  refine .inr ⟨b, off, C, t, f, rfl, hh, fun i hil => ?_⟩
  obtain ⟨v, s, hv, hc⟩ := cell i hil
  refine ⟨v, s, hv, fun j u hu => ?_⟩
  have := hc j u hu
  rw [add_none, add_none] at this
  rw [← this]
  simp [World.cell?, hh]
theorem def_cells {fuel : Nat} {cs : List Value} {x : DataW H × List MemPlace} (h : DataW.trod enc Tryz.prog w 0 sp true fuel 28 cs = some x) : ∃ (v : ByteArray) (r d : Int) (a : Option Addr) (n c : Nat), cs = [.string v, .int .i64 r, .int .i64 d, .slice a n c] ∧ v.size ≤ maxLen ∧ StpAt w a n ∧ n ≤ maxLen := by
  obtain ⟨xs, n, rfl, hx, hl, hxl, hall⟩ := DataW.trod_struct Tryz.underlying28 h
  have hC : Tryz.prog.cellsOf 28 = 4 := by kernel_rfl
  rw [hC] at hl
  match cs, hl with
  | [c0, c1, c2, c3], _ =>
  match xs, hxl with
  | [y0, y1, y2, y3], _ =>
  have q0 := hall 0 _ rfl
  have e0 : DataW.trod enc Tryz.prog w 0 sp true n 9 (([c0, c1, c2, c3].drop 0).take (Tryz.prog.cellsOf 9)) = some y0 := q0
  rw [show Tryz.prog.cellsOf 9 = 1 by kernel_rfl] at e0
  obtain ⟨z0, f0, _, g0⟩ := DataW.trod_string Tryz.underlying9 e0
  simp only [List.drop_zero, List.take_succ_cons, List.take_zero, List.drop_succ_cons, List.cons.injEq, and_true] at f0
  have q1 := hall 1 _ rfl
  have e1 : DataW.trod enc Tryz.prog w 0 sp true n 3 (([c0, c1, c2, c3].drop 1).take (Tryz.prog.cellsOf 3)) = some y1 := q1
  rw [show Tryz.prog.cellsOf 3 = 1 by kernel_rfl] at e1
  obtain ⟨z1, f1, _, _⟩ := DataW.trod_int Tryz.underlying3 e1
  simp only [List.drop_zero, List.take_succ_cons, List.take_zero, List.drop_succ_cons, List.cons.injEq, and_true] at f1
  have q2 := hall 2 _ rfl
  have e2 : DataW.trod enc Tryz.prog w 0 sp true n 3 (([c0, c1, c2, c3].drop 2).take (Tryz.prog.cellsOf 3)) = some y2 := q2
  rw [show Tryz.prog.cellsOf 3 = 1 by kernel_rfl] at e2
  obtain ⟨z2, f2, _, _⟩ := DataW.trod_int Tryz.underlying3 e2
  simp only [List.drop_zero, List.take_succ_cons, List.take_zero, List.drop_succ_cons, List.cons.injEq, and_true] at f2
  have q3 := hall 3 _ rfl
  have e3 : DataW.trod enc Tryz.prog w 0 sp true n 26 (([c0, c1, c2, c3].drop 3).take (Tryz.prog.cellsOf 26)) = some y3 := q3
  rw [show Tryz.prog.cellsOf 26 = 1 by kernel_rfl] at e3
  obtain ⟨la, ln, lc, f3, he, hn⟩ := list_stp e3
  simp only [List.drop_zero, List.take_succ_cons, List.take_zero, List.drop_succ_cons, List.cons.injEq, and_true] at f3
  subst f0 f1 f2 f3
  exact ⟨_, _, _, _, _, _, rfl, g0, he, hn⟩
theorem item_cells {fuel : Nat} {cs : List Value} {x : DataW H × List MemPlace} (h : DataW.trod enc Tryz.prog w 0 sp true fuel 30 cs = some x) : ∃ (a b c d : Int) (e : Bool) (f : Int), cs = [.int .i64 a, .int .i64 b, .int .i64 c, .int .i64 d, .bool e, .int .i64 f] := by
  obtain ⟨xs, n, rfl, hx, hl, hxl, hall⟩ := DataW.trod_struct Tryz.underlying30 h
  have hC : Tryz.prog.cellsOf 30 = 6 := by kernel_rfl
  rw [hC] at hl
  match cs, hl with
  | [c0, c1, c2, c3, c4, c5], _ =>
  match xs, hxl with
  | [y0, y1, y2, y3], _ =>
  have q0 := hall 0 _ rfl
  have e0 : DataW.trod enc Tryz.prog w 0 sp true n 23 (([c0, c1, c2, c3, c4, c5].drop 0).take (Tryz.prog.cellsOf 23)) = some y0 := q0
  rw [show Tryz.prog.cellsOf 23 = 3 by kernel_rfl] at e0
  obtain ⟨za, zb, zc, f0⟩ := eff_cells e0
  simp only [List.drop_zero, List.take_succ_cons, List.take_zero, List.drop_succ_cons, List.cons.injEq, and_true] at f0
  have q1 := hall 1 _ rfl
  have e1 : DataW.trod enc Tryz.prog w 0 sp true n 3 (([c0, c1, c2, c3, c4, c5].drop 3).take (Tryz.prog.cellsOf 3)) = some y1 := q1
  rw [show Tryz.prog.cellsOf 3 = 1 by kernel_rfl] at e1
  obtain ⟨z1, f1, _, _⟩ := DataW.trod_int Tryz.underlying3 e1
  simp only [List.drop_zero, List.take_succ_cons, List.take_zero, List.drop_succ_cons, List.cons.injEq, and_true] at f1
  have q2 := hall 2 _ rfl
  have e2 : DataW.trod enc Tryz.prog w 0 sp true n 4 (([c0, c1, c2, c3, c4, c5].drop 4).take (Tryz.prog.cellsOf 4)) = some y2 := q2
  rw [show Tryz.prog.cellsOf 4 = 1 by kernel_rfl] at e2
  obtain ⟨z2, f2, _⟩ := DataW.trod_bool Tryz.underlying4 e2
  simp only [List.drop_zero, List.take_succ_cons, List.take_zero, List.drop_succ_cons, List.cons.injEq, and_true] at f2
  have q3 := hall 3 _ rfl
  have e3 : DataW.trod enc Tryz.prog w 0 sp true n 3 (([c0, c1, c2, c3, c4, c5].drop 5).take (Tryz.prog.cellsOf 3)) = some y3 := q3
  rw [show Tryz.prog.cellsOf 3 = 1 by kernel_rfl] at e3
  obtain ⟨z3, f3, _, _⟩ := DataW.trod_int Tryz.underlying3 e3
  simp only [List.drop_zero, List.take_succ_cons, List.take_zero, List.drop_succ_cons, List.cons.injEq, and_true] at f3
  obtain ⟨rfl, rfl, rfl⟩ := f0
  subst f1 f2 f3
  exact ⟨_, _, _, _, _, _, rfl⟩
theorem cmd_cells {fuel : Nat} {cs : List Value} {x : DataW H × List MemPlace} (h : DataW.trod enc Tryz.prog w 0 sp true fuel 33 cs = some x) : ∃ (ki ca sg e1 e2 e3 : Int) (ke : ByteArray) (de mo : Int) (rf rt : ByteArray) (gr : Int) (dn : ByteArray) (dr dd : Int) (sa : Option Addr) (sn sc : Nat) (i1 i2 i3 i4 : Int) (i5 : Bool) (i6 re : Int) (da : ByteArray), cs = [.int .i64 ki, .int .i64 ca, .int .i64 sg, .int .i64 e1, .int .i64 e2, .int .i64 e3, .string ke, .int .i64 de, .int .i64 mo, .string rf, .string rt, .int .i64 gr, .string dn, .int .i64 dr, .int .i64 dd, .slice sa sn sc, .int .i64 i1, .int .i64 i2, .int .i64 i3, .int .i64 i4, .bool i5, .int .i64 i6, .int .i64 re, .string da] ∧ ke.size ≤ maxLen ∧ rf.size ≤ maxLen ∧ rt.size ≤ maxLen ∧ dn.size ≤ maxLen ∧ da.size ≤ maxLen ∧ StpAt w sa sn ∧ sn ≤ maxLen := by
  obtain ⟨xs, n, rfl, hx, hl, hxl, hall⟩ := DataW.trod_struct Tryz.underlying33 h
  have hC : Tryz.prog.cellsOf 33 = 24 := by kernel_rfl
  rw [hC] at hl
  match cs, hl with
  | [c0, c1, c2, c3, c4, c5, c6, c7, c8, c9, c10, c11, c12, c13, c14, c15, c16, c17, c18, c19, c20, c21, c22, c23], _ =>
  match xs, hxl with
  | [y0, y1, y2, y3, y4, y5, y6, y7, y8, y9, y10, y11, y12], _ =>
  have q0 := hall 0 _ rfl
  have e0 : DataW.trod enc Tryz.prog w 0 sp true n 3 (([c0, c1, c2, c3, c4, c5, c6, c7, c8, c9, c10, c11, c12, c13, c14, c15, c16, c17, c18, c19, c20, c21, c22, c23].drop 0).take (Tryz.prog.cellsOf 3)) = some y0 := q0
  rw [show Tryz.prog.cellsOf 3 = 1 by kernel_rfl] at e0
  obtain ⟨z0, f0, _, _⟩ := DataW.trod_int Tryz.underlying3 e0
  simp only [List.drop_zero, List.take_succ_cons, List.take_zero, List.drop_succ_cons, List.cons.injEq, and_true] at f0
  have q1 := hall 1 _ rfl
  have e1 : DataW.trod enc Tryz.prog w 0 sp true n 3 (([c0, c1, c2, c3, c4, c5, c6, c7, c8, c9, c10, c11, c12, c13, c14, c15, c16, c17, c18, c19, c20, c21, c22, c23].drop 1).take (Tryz.prog.cellsOf 3)) = some y1 := q1
  rw [show Tryz.prog.cellsOf 3 = 1 by kernel_rfl] at e1
  obtain ⟨z1, f1, _, _⟩ := DataW.trod_int Tryz.underlying3 e1
  simp only [List.drop_zero, List.take_succ_cons, List.take_zero, List.drop_succ_cons, List.cons.injEq, and_true] at f1
  have q2 := hall 2 _ rfl
  have e2 : DataW.trod enc Tryz.prog w 0 sp true n 3 (([c0, c1, c2, c3, c4, c5, c6, c7, c8, c9, c10, c11, c12, c13, c14, c15, c16, c17, c18, c19, c20, c21, c22, c23].drop 2).take (Tryz.prog.cellsOf 3)) = some y2 := q2
  rw [show Tryz.prog.cellsOf 3 = 1 by kernel_rfl] at e2
  obtain ⟨z2, f2, _, _⟩ := DataW.trod_int Tryz.underlying3 e2
  simp only [List.drop_zero, List.take_succ_cons, List.take_zero, List.drop_succ_cons, List.cons.injEq, and_true] at f2
  have q3 := hall 3 _ rfl
  have e3 : DataW.trod enc Tryz.prog w 0 sp true n 23 (([c0, c1, c2, c3, c4, c5, c6, c7, c8, c9, c10, c11, c12, c13, c14, c15, c16, c17, c18, c19, c20, c21, c22, c23].drop 3).take (Tryz.prog.cellsOf 23)) = some y3 := q3
  rw [show Tryz.prog.cellsOf 23 = 3 by kernel_rfl] at e3
  obtain ⟨ea, eb, ec, f3⟩ := eff_cells e3
  simp only [List.drop_zero, List.take_succ_cons, List.take_zero, List.drop_succ_cons, List.cons.injEq, and_true] at f3
  have q4 := hall 4 _ rfl
  have e4 : DataW.trod enc Tryz.prog w 0 sp true n 9 (([c0, c1, c2, c3, c4, c5, c6, c7, c8, c9, c10, c11, c12, c13, c14, c15, c16, c17, c18, c19, c20, c21, c22, c23].drop 6).take (Tryz.prog.cellsOf 9)) = some y4 := q4
  rw [show Tryz.prog.cellsOf 9 = 1 by kernel_rfl] at e4
  obtain ⟨z4, f4, _, g4⟩ := DataW.trod_string Tryz.underlying9 e4
  simp only [List.drop_zero, List.take_succ_cons, List.take_zero, List.drop_succ_cons, List.cons.injEq, and_true] at f4
  have q5 := hall 5 _ rfl
  have e5 : DataW.trod enc Tryz.prog w 0 sp true n 2 (([c0, c1, c2, c3, c4, c5, c6, c7, c8, c9, c10, c11, c12, c13, c14, c15, c16, c17, c18, c19, c20, c21, c22, c23].drop 7).take (Tryz.prog.cellsOf 2)) = some y5 := q5
  rw [show Tryz.prog.cellsOf 2 = 1 by kernel_rfl] at e5
  obtain ⟨z5, f5, _, _⟩ := DataW.trod_int Tryz.underlying2 e5
  simp only [List.drop_zero, List.take_succ_cons, List.take_zero, List.drop_succ_cons, List.cons.injEq, and_true] at f5
  have q6 := hall 6 _ rfl
  have e6 : DataW.trod enc Tryz.prog w 0 sp true n 3 (([c0, c1, c2, c3, c4, c5, c6, c7, c8, c9, c10, c11, c12, c13, c14, c15, c16, c17, c18, c19, c20, c21, c22, c23].drop 8).take (Tryz.prog.cellsOf 3)) = some y6 := q6
  rw [show Tryz.prog.cellsOf 3 = 1 by kernel_rfl] at e6
  obtain ⟨z6, f6, _, _⟩ := DataW.trod_int Tryz.underlying3 e6
  simp only [List.drop_zero, List.take_succ_cons, List.take_zero, List.drop_succ_cons, List.cons.injEq, and_true] at f6
  have q7 := hall 7 _ rfl
  have e7 : DataW.trod enc Tryz.prog w 0 sp true n 25 (([c0, c1, c2, c3, c4, c5, c6, c7, c8, c9, c10, c11, c12, c13, c14, c15, c16, c17, c18, c19, c20, c21, c22, c23].drop 9).take (Tryz.prog.cellsOf 25)) = some y7 := q7
  rw [show Tryz.prog.cellsOf 25 = 2 by kernel_rfl] at e7
  obtain ⟨ra, rb, f7, hra, hrb⟩ := rng_cells e7
  simp only [List.drop_zero, List.take_succ_cons, List.take_zero, List.drop_succ_cons, List.cons.injEq, and_true] at f7
  have q8 := hall 8 _ rfl
  have e8 : DataW.trod enc Tryz.prog w 0 sp true n 3 (([c0, c1, c2, c3, c4, c5, c6, c7, c8, c9, c10, c11, c12, c13, c14, c15, c16, c17, c18, c19, c20, c21, c22, c23].drop 11).take (Tryz.prog.cellsOf 3)) = some y8 := q8
  rw [show Tryz.prog.cellsOf 3 = 1 by kernel_rfl] at e8
  obtain ⟨z8, f8, _, _⟩ := DataW.trod_int Tryz.underlying3 e8
  simp only [List.drop_zero, List.take_succ_cons, List.take_zero, List.drop_succ_cons, List.cons.injEq, and_true] at f8
  have q9 := hall 9 _ rfl
  have e9 : DataW.trod enc Tryz.prog w 0 sp true n 28 (([c0, c1, c2, c3, c4, c5, c6, c7, c8, c9, c10, c11, c12, c13, c14, c15, c16, c17, c18, c19, c20, c21, c22, c23].drop 12).take (Tryz.prog.cellsOf 28)) = some y9 := q9
  rw [show Tryz.prog.cellsOf 28 = 4 by kernel_rfl] at e9
  obtain ⟨dn, dr, dd, da, dm, dc, f9, hdn, hst, hdm⟩ := def_cells e9
  simp only [List.drop_zero, List.take_succ_cons, List.take_zero, List.drop_succ_cons, List.cons.injEq, and_true] at f9
  have q10 := hall 10 _ rfl
  have e10 : DataW.trod enc Tryz.prog w 0 sp true n 30 (([c0, c1, c2, c3, c4, c5, c6, c7, c8, c9, c10, c11, c12, c13, c14, c15, c16, c17, c18, c19, c20, c21, c22, c23].drop 16).take (Tryz.prog.cellsOf 30)) = some y10 := q10
  rw [show Tryz.prog.cellsOf 30 = 6 by kernel_rfl] at e10
  obtain ⟨ia, ib, ic, id, ie, ig, f10⟩ := item_cells e10
  simp only [List.drop_zero, List.take_succ_cons, List.take_zero, List.drop_succ_cons, List.cons.injEq, and_true] at f10
  have q11 := hall 11 _ rfl
  have e11 : DataW.trod enc Tryz.prog w 0 sp true n 31 (([c0, c1, c2, c3, c4, c5, c6, c7, c8, c9, c10, c11, c12, c13, c14, c15, c16, c17, c18, c19, c20, c21, c22, c23].drop 22).take (Tryz.prog.cellsOf 31)) = some y11 := q11
  rw [show Tryz.prog.cellsOf 31 = 1 by kernel_rfl] at e11
  obtain ⟨z11, f11, _, _⟩ := DataW.trod_int Tryz.underlying31 e11
  simp only [List.drop_zero, List.take_succ_cons, List.take_zero, List.drop_succ_cons, List.cons.injEq, and_true] at f11
  have q12 := hall 12 _ rfl
  have e12 : DataW.trod enc Tryz.prog w 0 sp true n 9 (([c0, c1, c2, c3, c4, c5, c6, c7, c8, c9, c10, c11, c12, c13, c14, c15, c16, c17, c18, c19, c20, c21, c22, c23].drop 23).take (Tryz.prog.cellsOf 9)) = some y12 := q12
  rw [show Tryz.prog.cellsOf 9 = 1 by kernel_rfl] at e12
  obtain ⟨z12, f12, _, g12⟩ := DataW.trod_string Tryz.underlying9 e12
  simp only [List.drop_zero, List.take_succ_cons, List.take_zero, List.drop_succ_cons, List.cons.injEq, and_true] at f12
  obtain ⟨rfl, rfl, rfl⟩ := f3
  obtain ⟨rfl, rfl⟩ := f7
  obtain ⟨rfl, rfl, rfl, rfl⟩ := f9
  obtain ⟨rfl, rfl, rfl, rfl, rfl, rfl⟩ := f10
  subst f0 f1 f2 f4 f5 f6 f8 f11 f12
  exact ⟨_, _, _, _, _, _, _, _, _, _, _, _, _, _, _, _, _, _, _, _, _, _, _, _, _, _, rfl, g4, hra, hrb, hdn, g12, hst, hdm⟩
end
end Go.Proofs.YtfoajbnobcbflaaGreatDoor
