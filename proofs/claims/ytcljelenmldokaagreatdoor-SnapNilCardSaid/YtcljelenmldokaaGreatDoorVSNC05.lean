/- Lemmas for the claim (part 5); no condition of its own. -/
import Derived.Test.YtcljelenmldokaaGreatDoorProg
import Derived.Test.YtcljelenmldokaaGreatDoorVSNC00
import Derived.Test.YtcljelenmldokaaGreatDoorVSNC02
import Derived.Test.YtcljelenmldokaaGreatDoorVSNC04
set_option linter.all false
set_option linter.unusedVariables false
set_option linter.unusedSimpArgs false
set_option linter.unnecessarySimpa false
set_option linter.all false
set_option maxRecDepth 1000000
set_option maxHeartbeats 0
namespace Go.Proofs.YtcljelenmldokaaGreatDoor
open Go Go.X
def ti3 : TI := ⟨.int .i64, 1, 8, .int .i64 0⟩
theorem tk3 : TIok Tryz.prog 3 ti3 := ⟨Tryz.underlying3, by kernel_rfl⟩
def ti4 : TI := ⟨.bool, 1, 1, .bool false⟩
theorem tk4 : TIok Tryz.prog 4 ti4 := ⟨Tryz.underlying4, by kernel_rfl⟩
def ti5 : TI := ⟨.int .u8, 1, 1, .int .u8 0⟩
theorem tk5 : TIok Tryz.prog 5 ti5 := ⟨Tryz.underlying5, by kernel_rfl⟩
def ti9 : TI := ⟨.string, 1, 16, .string ⟨#[]⟩⟩
theorem tk9 : TIok Tryz.prog 9 ti9 := ⟨Tryz.underlying9, by kernel_rfl⟩
def ti22 : TI := ⟨.pointer 35, 1, 8, .pointer none⟩
theorem tk22 : TIok Tryz.prog 22 ti22 := ⟨Tryz.underlying22, by kernel_rfl⟩
def ti23 : TI := ⟨.pointer 46, 1, 8, .pointer none⟩
theorem tk23 : TIok Tryz.prog 23 ti23 := ⟨Tryz.underlying23, by kernel_rfl⟩
def ti24 : TI := ⟨.int .i64, 1, 8, .int .i64 0⟩
theorem tk24 : TIok Tryz.prog 24 ti24 := ⟨Tryz.underlying24, by kernel_rfl⟩
def ti29 : TI := ⟨.slice 89, 1, 24, .slice none 0 0⟩
theorem tk29 : TIok Tryz.prog 29 ti29 := ⟨Tryz.underlying29, by kernel_rfl⟩
def ti30 : TI := ⟨.pointer 86, 1, 8, .pointer none⟩
theorem tk30 : TIok Tryz.prog 30 ti30 := ⟨Tryz.underlying30, by kernel_rfl⟩
def ti31 : TI := ⟨.pointer 83, 1, 8, .pointer none⟩
theorem tk31 : TIok Tryz.prog 31 ti31 := ⟨Tryz.underlying31, by kernel_rfl⟩
def ti32 : TI := ⟨.map 3 9, 1, 8, .map none⟩
theorem tk32 : TIok Tryz.prog 32 ti32 := ⟨Tryz.underlying32, by kernel_rfl⟩
def ti33 : TI := ⟨.map 3 4, 1, 8, .map none⟩
theorem tk33 : TIok Tryz.prog 33 ti33 := ⟨Tryz.underlying33, by kernel_rfl⟩
def ti35 : TI := ⟨.struct #[{ name := "group", type := 3, offset := 0, embedded := false, tag := "", pkgPath := "skald/shard", byteOffset := 0 }, { name := "applied", type := 3, offset := 1, embedded := false, tag := "", pkgPath := "skald/shard", byteOffset := 8 }, { name := "owned", type := 29, offset := 2, embedded := false, tag := "", pkgPath := "skald/shard", byteOffset := 16 }, { name := "counts", type := 30, offset := 3, embedded := false, tag := "", pkgPath := "skald/shard", byteOffset := 40 }, { name := "memory", type := 31, offset := 4, embedded := false, tag := "", pkgPath := "skald/shard", byteOffset := 48 }, { name := "given", type := 32, offset := 5, embedded := false, tag := "", pkgPath := "skald/shard", byteOffset := 56 }, { name := "taken", type := 33, offset := 6, embedded := false, tag := "", pkgPath := "skald/shard", byteOffset := 64 }], 7, 72, .agg #[.int .i64 0, .int .i64 0, .slice none 0 0, .pointer none, .pointer none, .map none, .map none]⟩
theorem tk35 : TIok Tryz.prog 35 ti35 := ⟨Tryz.underlying35, by kernel_rfl⟩
def ti36 : TI := ⟨.slice 22, 1, 24, .slice none 0 0⟩
theorem tk36 : TIok Tryz.prog 36 ti36 := ⟨Tryz.underlying36, by kernel_rfl⟩
def ti37 : TI := ⟨.slice 5, 1, 24, .slice none 0 0⟩
theorem tk37 : TIok Tryz.prog 37 ti37 := ⟨Tryz.underlying37, by kernel_rfl⟩
def ti42 : TI := ⟨.pointer 97, 1, 8, .pointer none⟩
theorem tk42 : TIok Tryz.prog 42 ti42 := ⟨Tryz.underlying42, by kernel_rfl⟩
def ti43 : TI := ⟨.pointer 99, 1, 8, .pointer none⟩
theorem tk43 : TIok Tryz.prog 43 ti43 := ⟨Tryz.underlying43, by kernel_rfl⟩
def ti44 : TI := ⟨.pointer 94, 1, 8, .pointer none⟩
theorem tk44 : TIok Tryz.prog 44 ti44 := ⟨Tryz.underlying44, by kernel_rfl⟩
def ti46 : TI := ⟨.struct #[{ name := "groups", type := 3, offset := 0, embedded := false, tag := "", pkgPath := "skald/orch", byteOffset := 0 }, { name := "done", type := 3, offset := 1, embedded := false, tag := "", pkgPath := "skald/orch", byteOffset := 8 }, { name := "sagas", type := 42, offset := 2, embedded := false, tag := "", pkgPath := "skald/orch", byteOffset := 16 }, { name := "moves", type := 43, offset := 3, embedded := false, tag := "", pkgPath := "skald/orch", byteOffset := 24 }, { name := "route", type := 44, offset := 4, embedded := false, tag := "", pkgPath := "skald/orch", byteOffset := 32 }], 5, 40, .agg #[.int .i64 0, .int .i64 0, .pointer none, .pointer none, .pointer none]⟩
theorem tk46 : TIok Tryz.prog 46 ti46 := ⟨Tryz.underlying46, by kernel_rfl⟩
def ti47 : TI := ⟨.slice 23, 1, 24, .slice none 0 0⟩
theorem tk47 : TIok Tryz.prog 47 ti47 := ⟨Tryz.underlying47, by kernel_rfl⟩
def ti61 : TI := ⟨.slice 9, 1, 24, .slice none 0 0⟩
theorem tk61 : TIok Tryz.prog 61 ti61 := ⟨Tryz.underlying61, by kernel_rfl⟩
def ti62 : TI := ⟨.slice 115, 1, 24, .slice none 0 0⟩
theorem tk62 : TIok Tryz.prog 62 ti62 := ⟨Tryz.underlying62, by kernel_rfl⟩
def ti63 : TI := ⟨.slice 125, 1, 24, .slice none 0 0⟩
theorem tk63 : TIok Tryz.prog 63 ti63 := ⟨Tryz.underlying63, by kernel_rfl⟩
def ti64 : TI := ⟨.slice 129, 1, 24, .slice none 0 0⟩
theorem tk64 : TIok Tryz.prog 64 ti64 := ⟨Tryz.underlying64, by kernel_rfl⟩
def ti65 : TI := ⟨.slice 3, 1, 24, .slice none 0 0⟩
theorem tk65 : TIok Tryz.prog 65 ti65 := ⟨Tryz.underlying65, by kernel_rfl⟩
def ti67 : TI := ⟨.struct #[{ name := "Group", type := 3, offset := 0, embedded := false, tag := "", pkgPath := "", byteOffset := 0 }, { name := "Applied", type := 3, offset := 1, embedded := false, tag := "", pkgPath := "", byteOffset := 8 }, { name := "Ranges", type := 29, offset := 2, embedded := false, tag := "", pkgPath := "", byteOffset := 16 }, { name := "Keys", type := 61, offset := 3, embedded := false, tag := "", pkgPath := "", byteOffset := 40 }, { name := "Counts", type := 62, offset := 4, embedded := false, tag := "", pkgPath := "", byteOffset := 64 }, { name := "Done", type := 63, offset := 5, embedded := false, tag := "", pkgPath := "", byteOffset := 88 }, { name := "Given", type := 64, offset := 6, embedded := false, tag := "", pkgPath := "", byteOffset := 112 }, { name := "Taken", type := 65, offset := 7, embedded := false, tag := "", pkgPath := "", byteOffset := 136 }], 8, 160, .agg #[.int .i64 0, .int .i64 0, .slice none 0 0, .slice none 0 0, .slice none 0 0, .slice none 0 0, .slice none 0 0, .slice none 0 0]⟩
theorem tk67 : TIok Tryz.prog 67 ti67 := ⟨Tryz.underlying67, by kernel_rfl⟩
def ti72 : TI := ⟨.slice 153, 1, 24, .slice none 0 0⟩
theorem tk72 : TIok Tryz.prog 72 ti72 := ⟨Tryz.underlying72, by kernel_rfl⟩
def ti73 : TI := ⟨.slice 159, 1, 24, .slice none 0 0⟩
theorem tk73 : TIok Tryz.prog 73 ti73 := ⟨Tryz.underlying73, by kernel_rfl⟩
def ti75 : TI := ⟨.struct #[{ name := "Groups", type := 3, offset := 0, embedded := false, tag := "", pkgPath := "", byteOffset := 0 }, { name := "Applied", type := 3, offset := 1, embedded := false, tag := "", pkgPath := "", byteOffset := 8 }, { name := "Sagas", type := 72, offset := 2, embedded := false, tag := "", pkgPath := "", byteOffset := 16 }, { name := "Moves", type := 73, offset := 3, embedded := false, tag := "", pkgPath := "", byteOffset := 40 }, { name := "Ranges", type := 29, offset := 4, embedded := false, tag := "", pkgPath := "", byteOffset := 64 }, { name := "Owners", type := 65, offset := 5, embedded := false, tag := "", pkgPath := "", byteOffset := 88 }, { name := "Epochs", type := 65, offset := 6, embedded := false, tag := "", pkgPath := "", byteOffset := 112 }], 7, 136, .agg #[.int .i64 0, .int .i64 0, .slice none 0 0, .slice none 0 0, .slice none 0 0, .slice none 0 0, .slice none 0 0]⟩
theorem tk75 : TIok Tryz.prog 75 ti75 := ⟨Tryz.underlying75, by kernel_rfl⟩
def ti81 : TI := ⟨.slice 192, 1, 24, .slice none 0 0⟩
theorem tk81 : TIok Tryz.prog 81 ti81 := ⟨Tryz.underlying81, by kernel_rfl⟩
def ti83 : TI := ⟨.struct #[{ name := "made", type := 4, offset := 0, embedded := false, tag := "", pkgPath := "skald/dedup", byteOffset := 0 }, { name := "size", type := 3, offset := 1, embedded := false, tag := "", pkgPath := "skald/dedup", byteOffset := 8 }, { name := "l", type := 81, offset := 2, embedded := false, tag := "", pkgPath := "skald/dedup", byteOffset := 16 }], 3, 40, .agg #[.bool false, .int .i64 0, .slice none 0 0]⟩
theorem tk83 : TIok Tryz.prog 83 ti83 := ⟨Tryz.underlying83, by kernel_rfl⟩
def ti84 : TI := ⟨.map 9 115, 1, 8, .map none⟩
theorem tk84 : TIok Tryz.prog 84 ti84 := ⟨Tryz.underlying84, by kernel_rfl⟩
def ti86 : TI := ⟨.struct #[{ name := "counts", type := 84, offset := 0, embedded := false, tag := "", pkgPath := "skald/store", byteOffset := 0 }], 1, 8, .agg #[.map none]⟩
theorem tk86 : TIok Tryz.prog 86 ti86 := ⟨Tryz.underlying86, by kernel_rfl⟩
def ti89 : TI := ⟨.struct #[{ name := "From", type := 9, offset := 0, embedded := false, tag := "", pkgPath := "", byteOffset := 0 }, { name := "To", type := 9, offset := 1, embedded := false, tag := "", pkgPath := "", byteOffset := 16 }], 2, 32, .agg #[.string ⟨#[]⟩, .string ⟨#[]⟩]⟩
theorem tk89 : TIok Tryz.prog 89 ti89 := ⟨Tryz.underlying89, by kernel_rfl⟩
def ti91 : TI := ⟨.struct #[{ name := "r", type := 89, offset := 0, embedded := false, tag := "", pkgPath := "skald/route", byteOffset := 0 }, { name := "group", type := 3, offset := 2, embedded := false, tag := "", pkgPath := "skald/route", byteOffset := 32 }, { name := "epoch", type := 3, offset := 3, embedded := false, tag := "", pkgPath := "skald/route", byteOffset := 40 }], 4, 48, .agg #[.string ⟨#[]⟩, .string ⟨#[]⟩, .int .i64 0, .int .i64 0]⟩
theorem tk91 : TIok Tryz.prog 91 ti91 := ⟨Tryz.underlying91, by kernel_rfl⟩
def ti92 : TI := ⟨.slice 91, 1, 24, .slice none 0 0⟩
theorem tk92 : TIok Tryz.prog 92 ti92 := ⟨Tryz.underlying92, by kernel_rfl⟩
def ti94 : TI := ⟨.struct #[{ name := "parts", type := 92, offset := 0, embedded := false, tag := "", pkgPath := "skald/route", byteOffset := 0 }], 1, 24, .agg #[.slice none 0 0]⟩
theorem tk94 : TIok Tryz.prog 94 ti94 := ⟨Tryz.underlying94, by kernel_rfl⟩
def ti95 : TI := ⟨.map 3 151, 1, 8, .map none⟩
theorem tk95 : TIok Tryz.prog 95 ti95 := ⟨Tryz.underlying95, by kernel_rfl⟩
def ti97 : TI := ⟨.struct #[{ name := "l", type := 95, offset := 0, embedded := false, tag := "", pkgPath := "skald/sagas", byteOffset := 0 }], 1, 8, .agg #[.map none]⟩
theorem tk97 : TIok Tryz.prog 97 ti97 := ⟨Tryz.underlying97, by kernel_rfl⟩
def ti99 : TI := ⟨.struct #[{ name := "made", type := 4, offset := 0, embedded := false, tag := "", pkgPath := "skald/moves", byteOffset := 0 }, { name := "list", type := 73, offset := 1, embedded := false, tag := "", pkgPath := "skald/moves", byteOffset := 8 }], 2, 32, .agg #[.bool false, .slice none 0 0]⟩
theorem tk99 : TIok Tryz.prog 99 ti99 := ⟨Tryz.underlying99, by kernel_rfl⟩
def ti105 : TI := ⟨.pointer 198, 1, 8, .pointer none⟩
theorem tk105 : TIok Tryz.prog 105 ti105 := ⟨Tryz.underlying105, by kernel_rfl⟩
def ti121 : TI := ⟨.struct #[{ name := "Saga", type := 3, offset := 0, embedded := false, tag := "", pkgPath := "", byteOffset := 0 }, { name := "Step", type := 3, offset := 1, embedded := false, tag := "", pkgPath := "", byteOffset := 8 }, { name := "Phase", type := 3, offset := 2, embedded := false, tag := "", pkgPath := "", byteOffset := 16 }], 3, 24, .agg #[.int .i64 0, .int .i64 0, .int .i64 0]⟩
theorem tk121 : TIok Tryz.prog 121 ti121 := ⟨Tryz.underlying121, by kernel_rfl⟩
def ti132 : TI := ⟨.func #[3] #[] false, 1, 8, .nilFunc⟩
theorem tk132 : TIok Tryz.prog 132 ti132 := ⟨Tryz.underlying132, by kernel_rfl⟩
def ti135 : TI := ⟨.struct #[{ name := "keys", type := 61, offset := 0, embedded := false, tag := "", pkgPath := "skald/shard", byteOffset := 0 }, { name := "counts", type := 62, offset := 1, embedded := false, tag := "", pkgPath := "skald/shard", byteOffset := 24 }, { name := "done", type := 63, offset := 2, embedded := false, tag := "", pkgPath := "skald/shard", byteOffset := 48 }], 3, 72, .agg #[.slice none 0 0, .slice none 0 0, .slice none 0 0]⟩
theorem tk135 : TIok Tryz.prog 135 ti135 := ⟨Tryz.underlying135, by kernel_rfl⟩
def ti168 : TI := ⟨.pointer 272, 1, 8, .pointer none⟩
theorem tk168 : TIok Tryz.prog 168 ti168 := ⟨Tryz.underlying168, by kernel_rfl⟩
def ti170 : TI := ⟨.struct #[{ name := "Reader", type := 168, offset := 0, embedded := true, tag := "", pkgPath := "", byteOffset := 0 }], 1, 8, .agg #[.pointer none]⟩
theorem tk170 : TIok Tryz.prog 170 ti170 := ⟨Tryz.underlying170, by kernel_rfl⟩
def ti194 : TI := ⟨.int .u32, 1, 4, .int .u32 0⟩
theorem tk194 : TIok Tryz.prog 194 ti194 := ⟨Tryz.underlying194, by kernel_rfl⟩
def ti196 : TI := ⟨.int .u64, 1, 8, .int .u64 0⟩
theorem tk196 : TIok Tryz.prog 196 ti196 := ⟨Tryz.underlying196, by kernel_rfl⟩
def ti198 : TI := ⟨.struct #[{ name := "made", type := 4, offset := 0, embedded := false, tag := "", pkgPath := "skald/wire", byteOffset := 0 }, { name := "b", type := 37, offset := 1, embedded := false, tag := "", pkgPath := "skald/wire", byteOffset := 8 }], 2, 32, .agg #[.bool false, .slice none 0 0]⟩
theorem tk198 : TIok Tryz.prog 198 ti198 := ⟨Tryz.underlying198, by kernel_rfl⟩
def ti200 : TI := ⟨.int .u64, 1, 8, .int .u64 0⟩
theorem tk200 : TIok Tryz.prog 200 ti200 := ⟨Tryz.underlying200, by kernel_rfl⟩
def ti206 : TI := ⟨.slice 121, 1, 24, .slice none 0 0⟩
theorem tk206 : TIok Tryz.prog 206 ti206 := ⟨Tryz.underlying206, by kernel_rfl⟩
def ti272 : TI := ⟨.struct #[{ name := "made", type := 4, offset := 0, embedded := false, tag := "", pkgPath := "skald/wire", byteOffset := 0 }, { name := "failed", type := 4, offset := 1, embedded := false, tag := "", pkgPath := "skald/wire", byteOffset := 1 }, { name := "left", type := 37, offset := 2, embedded := false, tag := "", pkgPath := "skald/wire", byteOffset := 8 }], 3, 32, .agg #[.bool false, .bool false, .slice none 0 0]⟩
theorem tk272 : TIok Tryz.prog 272 ti272 := ⟨Tryz.underlying272, by kernel_rfl⟩
def ti339 : TI := ⟨.array 16 194, 16, 64, .agg #[.int .u32 0, .int .u32 0, .int .u32 0, .int .u32 0, .int .u32 0, .int .u32 0, .int .u32 0, .int .u32 0, .int .u32 0, .int .u32 0, .int .u32 0, .int .u32 0, .int .u32 0, .int .u32 0, .int .u32 0, .int .u32 0]⟩
theorem tk339 : TIok Tryz.prog 339 ti339 := ⟨Tryz.underlying339, by kernel_rfl⟩
def ti382 : TI := ⟨.struct #[{ name := "lo", type := 5, offset := 0, embedded := false, tag := "", pkgPath := "unicode/utf8", byteOffset := 0 }, { name := "hi", type := 5, offset := 1, embedded := false, tag := "", pkgPath := "unicode/utf8", byteOffset := 1 }], 2, 2, .agg #[.int .u8 0, .int .u8 0]⟩
theorem tk382 : TIok Tryz.prog 382 ti382 := ⟨Tryz.underlying382, by kernel_rfl⟩
def ti383 : TI := ⟨.array 16 382, 32, 32, .agg #[.int .u8 0, .int .u8 0, .int .u8 0, .int .u8 0, .int .u8 0, .int .u8 0, .int .u8 0, .int .u8 0, .int .u8 0, .int .u8 0, .int .u8 0, .int .u8 0, .int .u8 0, .int .u8 0, .int .u8 0, .int .u8 0, .int .u8 0, .int .u8 0, .int .u8 0, .int .u8 0, .int .u8 0, .int .u8 0, .int .u8 0, .int .u8 0, .int .u8 0, .int .u8 0, .int .u8 0, .int .u8 0, .int .u8 0, .int .u8 0, .int .u8 0, .int .u8 0]⟩
theorem tk383 : TIok Tryz.prog 383 ti383 := ⟨Tryz.underlying383, by kernel_rfl⟩
def TB : TR := (.node (.node (.node (.node (.node (.node .leaf 3 ti3 .leaf) 4 ti4 (.node .leaf 5 ti5 .leaf)) 9 ti9 (.node (.node .leaf 22 ti22 .leaf) 23 ti23 .leaf)) 24 ti24 (.node (.node (.node .leaf 29 ti29 .leaf) 30 ti30 (.node .leaf 31 ti31 .leaf)) 32 ti32 (.node (.node .leaf 33 ti33 .leaf) 35 ti35 .leaf))) 36 ti36 (.node (.node (.node (.node .leaf 37 ti37 .leaf) 42 ti42 (.node .leaf 43 ti43 .leaf)) 44 ti44 (.node (.node .leaf 46 ti46 .leaf) 47 ti47 .leaf)) 61 ti61 (.node (.node (.node .leaf 62 ti62 .leaf) 63 ti63 (.node .leaf 64 ti64 .leaf)) 65 ti65 (.node (.node .leaf 67 ti67 .leaf) 72 ti72 .leaf)))) 73 ti73 (.node (.node (.node (.node (.node .leaf 75 ti75 .leaf) 81 ti81 (.node .leaf 83 ti83 .leaf)) 84 ti84 (.node (.node .leaf 86 ti86 .leaf) 89 ti89 .leaf)) 91 ti91 (.node (.node (.node .leaf 92 ti92 .leaf) 94 ti94 (.node .leaf 95 ti95 .leaf)) 97 ti97 (.node (.node .leaf 99 ti99 .leaf) 105 ti105 .leaf))) 121 ti121 (.node (.node (.node (.node .leaf 132 ti132 .leaf) 135 ti135 (.node .leaf 168 ti168 .leaf)) 170 ti170 (.node (.node .leaf 194 ti194 .leaf) 196 ti196 .leaf)) 198 ti198 (.node (.node (.node .leaf 200 ti200 .leaf) 206 ti206 (.node .leaf 272 ti272 .leaf)) 339 ti339 (.node (.node .leaf 382 ti382 .leaf) 383 ti383 .leaf)))))
theorem TBok : TOk Tryz.prog TB := (TOk.node (TOk.node (TOk.node (TOk.node (TOk.node (TOk.node TOk.leaf tk3 TOk.leaf) tk4 (TOk.node TOk.leaf tk5 TOk.leaf)) tk9 (TOk.node (TOk.node TOk.leaf tk22 TOk.leaf) tk23 TOk.leaf)) tk24 (TOk.node (TOk.node (TOk.node TOk.leaf tk29 TOk.leaf) tk30 (TOk.node TOk.leaf tk31 TOk.leaf)) tk32 (TOk.node (TOk.node TOk.leaf tk33 TOk.leaf) tk35 TOk.leaf))) tk36 (TOk.node (TOk.node (TOk.node (TOk.node TOk.leaf tk37 TOk.leaf) tk42 (TOk.node TOk.leaf tk43 TOk.leaf)) tk44 (TOk.node (TOk.node TOk.leaf tk46 TOk.leaf) tk47 TOk.leaf)) tk61 (TOk.node (TOk.node (TOk.node TOk.leaf tk62 TOk.leaf) tk63 (TOk.node TOk.leaf tk64 TOk.leaf)) tk65 (TOk.node (TOk.node TOk.leaf tk67 TOk.leaf) tk72 TOk.leaf)))) tk73 (TOk.node (TOk.node (TOk.node (TOk.node (TOk.node TOk.leaf tk75 TOk.leaf) tk81 (TOk.node TOk.leaf tk83 TOk.leaf)) tk84 (TOk.node (TOk.node TOk.leaf tk86 TOk.leaf) tk89 TOk.leaf)) tk91 (TOk.node (TOk.node (TOk.node TOk.leaf tk92 TOk.leaf) tk94 (TOk.node TOk.leaf tk95 TOk.leaf)) tk97 (TOk.node (TOk.node TOk.leaf tk99 TOk.leaf) tk105 TOk.leaf))) tk121 (TOk.node (TOk.node (TOk.node (TOk.node TOk.leaf tk132 TOk.leaf) tk135 (TOk.node TOk.leaf tk168 TOk.leaf)) tk170 (TOk.node (TOk.node TOk.leaf tk194 TOk.leaf) tk196 TOk.leaf)) tk198 (TOk.node (TOk.node (TOk.node TOk.leaf tk200 TOk.leaf) tk206 (TOk.node TOk.leaf tk272 TOk.leaf)) tk339 (TOk.node (TOk.node TOk.leaf tk382 TOk.leaf) tk383 TOk.leaf)))))
end Go.Proofs.YtcljelenmldokaaGreatDoor

set_option linter.all false
set_option maxRecDepth 1000000
set_option maxHeartbeats 0
namespace Go.Proofs.YtcljelenmldokaaGreatDoor
open Go Go.X Go.Y
noncomputable def fiOf (f : Func) (fl : List (Nat × List (Nat × Bool))) : FI := ⟨f.ntmps, (match f.body with | some b => b | none => .skip), f.results.toList, fl⟩
noncomputable def PT : FT := (.node (.node (.node (.node (.node (.node (.node .leaf 3 (fiOf Tryz.f3 []) .leaf) 4 (fiOf Tryz.f4 []) (.node .leaf 5 (fiOf Tryz.f5 []) .leaf)) 6 (fiOf Tryz.f6 []) (.node (.node .leaf 7 (fiOf Tryz.f7 []) .leaf) 8 (fiOf Tryz.f8 []) (.node .leaf 9 (fiOf Tryz.f9 []) .leaf))) 10 (fiOf Tryz.f10 [(7, [(20, true), (30, true)]), (100007, [(17, false), (18, false), (27, false), (28, false)])]) (.node (.node (.node .leaf 11 (fiOf Tryz.f11 []) .leaf) 12 (fiOf Tryz.f12 []) (.node .leaf 13 (fiOf Tryz.f13 []) .leaf)) 14 (fiOf Tryz.f14 []) (.node (.node .leaf 15 (fiOf Tryz.f15 []) .leaf) 16 (fiOf Tryz.f16 []) (.node .leaf 17 (fiOf Tryz.f17 []) .leaf)))) 18 (fiOf Tryz.f18 []) (.node (.node (.node (.node .leaf 19 (fiOf Tryz.f19 []) .leaf) 20 (fiOf Tryz.f20 []) (.node .leaf 21 (fiOf Tryz.f21 []) .leaf)) 22 (fiOf Tryz.f22 []) (.node (.node .leaf 23 (fiOf Tryz.f23 []) .leaf) 24 (fiOf Tryz.f24 []) (.node .leaf 25 (fiOf Tryz.f25 []) .leaf))) 26 (fiOf Tryz.f26 []) (.node (.node (.node .leaf 27 (fiOf Tryz.f27 []) .leaf) 28 (fiOf Tryz.f28 []) (.node .leaf 29 (fiOf Tryz.f29 []) .leaf)) 30 (fiOf Tryz.f30 []) (.node (.node .leaf 31 (fiOf Tryz.f31 []) .leaf) 32 (fiOf Tryz.f32 []) (.node .leaf 33 (fiOf Tryz.f33 []) .leaf))))) 34 (fiOf Tryz.f34 []) (.node (.node (.node (.node (.node .leaf 35 (fiOf Tryz.f35 []) .leaf) 36 (fiOf Tryz.f36 []) (.node .leaf 37 (fiOf Tryz.f37 []) .leaf)) 38 (fiOf Tryz.f38 []) (.node (.node .leaf 39 (fiOf Tryz.f39 []) .leaf) 40 (fiOf Tryz.f40 []) (.node .leaf 41 (fiOf Tryz.f41 []) .leaf))) 44 (fiOf Tryz.f44 []) (.node (.node (.node .leaf 46 (fiOf Tryz.f46 []) .leaf) 48 (fiOf Tryz.f48 []) (.node .leaf 50 (fiOf Tryz.f50 []) .leaf)) 51 (fiOf Tryz.f51 [(2, [(10, true)])]) (.node (.node .leaf 52 (fiOf Tryz.f52 []) .leaf) 53 (fiOf Tryz.f53 []) (.node .leaf 54 (fiOf Tryz.f54 []) .leaf)))) 55 (fiOf Tryz.f55 []) (.node (.node (.node (.node .leaf 56 (fiOf Tryz.f56 []) .leaf) 57 (fiOf Tryz.f57 []) (.node .leaf 58 (fiOf Tryz.f58 []) .leaf)) 59 (fiOf Tryz.f59 []) (.node (.node .leaf 60 (fiOf Tryz.f60 []) .leaf) 61 (fiOf Tryz.f61 []) (.node .leaf 65 (fiOf Tryz.f65 []) .leaf))) 67 (fiOf Tryz.f67 []) (.node (.node (.node .leaf 68 (fiOf Tryz.f68 []) .leaf) 69 (fiOf Tryz.f69 []) (.node .leaf 70 (fiOf Tryz.f70 []) .leaf)) 72 (fiOf Tryz.f72 []) (.node (.node .leaf 74 (fiOf Tryz.f74 []) .leaf) 75 (fiOf Tryz.f75 []) .leaf))))) 76 (fiOf Tryz.f76 []) (.node (.node (.node (.node (.node (.node .leaf 77 (fiOf Tryz.f77 []) .leaf) 79 (fiOf Tryz.f79 []) (.node .leaf 81 (fiOf Tryz.f81 []) .leaf)) 83 (fiOf Tryz.f83 []) (.node (.node .leaf 85 (fiOf Tryz.f85 []) .leaf) 87 (fiOf Tryz.f87 []) (.node .leaf 88 (fiOf Tryz.f88 [(10, [(9, true)])]) .leaf))) 95 (fiOf Tryz.f95 []) (.node (.node (.node .leaf 96 (fiOf Tryz.f96 []) .leaf) 97 (fiOf Tryz.f97 []) (.node .leaf 98 (fiOf Tryz.f98 []) .leaf)) 100 (fiOf Tryz.f100 []) (.node (.node .leaf 101 (fiOf Tryz.f101 [(4, [(7, true)])]) .leaf) 102 (fiOf Tryz.f102 []) (.node .leaf 104 (fiOf Tryz.f104 []) .leaf)))) 105 (fiOf Tryz.f105 []) (.node (.node (.node (.node .leaf 107 (fiOf Tryz.f107 []) .leaf) 111 (fiOf Tryz.f111 []) (.node .leaf 112 (fiOf Tryz.f112 []) .leaf)) 113 (fiOf Tryz.f113 []) (.node (.node .leaf 114 (fiOf Tryz.f114 []) .leaf) 115 (fiOf Tryz.f115 []) (.node .leaf 117 (fiOf Tryz.f117 []) .leaf))) 118 (fiOf Tryz.f118 []) (.node (.node (.node .leaf 119 (fiOf Tryz.f119 []) .leaf) 120 (fiOf Tryz.f120 []) (.node .leaf 122 (fiOf Tryz.f122 []) .leaf)) 127 (fiOf Tryz.f127 []) (.node (.node .leaf 128 (fiOf Tryz.f128 []) .leaf) 129 (fiOf Tryz.f129 []) (.node .leaf 130 (fiOf Tryz.f130 []) .leaf))))) 133 (fiOf Tryz.f133 []) (.node (.node (.node (.node (.node .leaf 135 (fiOf Tryz.f135 []) .leaf) 138 (fiOf Tryz.f138 []) (.node .leaf 139 (fiOf Tryz.f139 []) .leaf)) 140 (fiOf Tryz.f140 []) (.node (.node .leaf 141 (fiOf Tryz.f141 []) .leaf) 142 (fiOf Tryz.f142 []) (.node .leaf 151 (fiOf Tryz.f151 []) .leaf))) 152 (fiOf Tryz.f152 []) (.node (.node (.node .leaf 153 (fiOf Tryz.f153 []) .leaf) 158 (fiOf Tryz.f158 []) (.node .leaf 159 (fiOf Tryz.f159 []) .leaf)) 160 (fiOf Tryz.f160 []) (.node (.node .leaf 166 (fiOf Tryz.f166 []) .leaf) 167 (fiOf Tryz.f167 []) (.node .leaf 174 (fiOf Tryz.f174 []) .leaf)))) 192 (fiOf Tryz.f192 []) (.node (.node (.node (.node .leaf 193 (fiOf Tryz.f193 []) .leaf) 194 (fiOf Tryz.f194 []) (.node .leaf 195 (fiOf Tryz.f195 []) .leaf)) 196 (fiOf Tryz.f196 []) (.node (.node .leaf 203 (fiOf Tryz.f203 []) .leaf) 213 (fiOf Tryz.f213 []) (.node .leaf 216 (fiOf Tryz.f216 []) .leaf))) 232 (fiOf Tryz.f232 []) (.node (.node (.node .leaf 233 (fiOf Tryz.f233 []) .leaf) 234 (fiOf Tryz.f234 []) (.node .leaf 256 (fiOf Tryz.f256 []) .leaf)) 257 (fiOf Tryz.f257 []) (.node (.node .leaf 265 (fiOf Tryz.f265 []) .leaf) 314 (fiOf Tryz.f314 []) .leaf))))))
noncomputable def PG : Pg := ⟨TB, PT, [], [(99, 0)]⟩
end Go.Proofs.YtcljelenmldokaaGreatDoor

set_option linter.all false
set_option maxRecDepth 1000000
set_option maxHeartbeats 0
namespace Go.Proofs.YtcljelenmldokaaGreatDoor
open Go Go.X Go.Y
theorem fok {P : Program} {k : Nat} {fn : Func} {fl : List (Nat × List (Nat × Bool))} (h : P.funcs[k]? = some fn) (hb : fn.body.isSome = true) (hn : (fn.name == "runtime.NumGoroutine") = false) : ∃ fn', P.funcs[k]? = some fn' ∧ fn'.body = some (fiOf fn fl).body ∧ fn'.ntmps = (fiOf fn fl).n ∧ fn'.results.toList = (fiOf fn fl).rs ∧ (fn'.name == "runtime.NumGoroutine") = false := by
  refine ⟨fn, h, ?_, rfl, rfl, hn⟩
  cases h1 : fn.body with
  | none => rw [h1] at hb; cases hb
  | some b => simp [fiOf, h1]
theorem PTok : FOk Tryz.prog PT := (FOk.node (FOk.node (FOk.node (FOk.node (FOk.node (FOk.node (FOk.node FOk.leaf (fok (fl := _) Tryz.func3 rfl rfl) FOk.leaf) (fok (fl := _) Tryz.func4 rfl rfl) (FOk.node FOk.leaf (fok (fl := _) Tryz.func5 rfl rfl) FOk.leaf)) (fok (fl := _) Tryz.func6 rfl rfl) (FOk.node (FOk.node FOk.leaf (fok (fl := _) Tryz.func7 rfl rfl) FOk.leaf) (fok (fl := _) Tryz.func8 rfl rfl) (FOk.node FOk.leaf (fok (fl := _) Tryz.func9 rfl rfl) FOk.leaf))) (fok (fl := _) Tryz.func10 rfl rfl) (FOk.node (FOk.node (FOk.node FOk.leaf (fok (fl := _) Tryz.func11 rfl rfl) FOk.leaf) (fok (fl := _) Tryz.func12 rfl rfl) (FOk.node FOk.leaf (fok (fl := _) Tryz.func13 rfl rfl) FOk.leaf)) (fok (fl := _) Tryz.func14 rfl rfl) (FOk.node (FOk.node FOk.leaf (fok (fl := _) Tryz.func15 rfl rfl) FOk.leaf) (fok (fl := _) Tryz.func16 rfl rfl) (FOk.node FOk.leaf (fok (fl := _) Tryz.func17 rfl rfl) FOk.leaf)))) (fok (fl := _) Tryz.func18 rfl rfl) (FOk.node (FOk.node (FOk.node (FOk.node FOk.leaf (fok (fl := _) Tryz.func19 rfl rfl) FOk.leaf) (fok (fl := _) Tryz.func20 rfl rfl) (FOk.node FOk.leaf (fok (fl := _) Tryz.func21 rfl rfl) FOk.leaf)) (fok (fl := _) Tryz.func22 rfl rfl) (FOk.node (FOk.node FOk.leaf (fok (fl := _) Tryz.func23 rfl rfl) FOk.leaf) (fok (fl := _) Tryz.func24 rfl rfl) (FOk.node FOk.leaf (fok (fl := _) Tryz.func25 rfl rfl) FOk.leaf))) (fok (fl := _) Tryz.func26 rfl rfl) (FOk.node (FOk.node (FOk.node FOk.leaf (fok (fl := _) Tryz.func27 rfl rfl) FOk.leaf) (fok (fl := _) Tryz.func28 rfl rfl) (FOk.node FOk.leaf (fok (fl := _) Tryz.func29 rfl rfl) FOk.leaf)) (fok (fl := _) Tryz.func30 rfl rfl) (FOk.node (FOk.node FOk.leaf (fok (fl := _) Tryz.func31 rfl rfl) FOk.leaf) (fok (fl := _) Tryz.func32 rfl rfl) (FOk.node FOk.leaf (fok (fl := _) Tryz.func33 rfl rfl) FOk.leaf))))) (fok (fl := _) Tryz.func34 rfl rfl) (FOk.node (FOk.node (FOk.node (FOk.node (FOk.node FOk.leaf (fok (fl := _) Tryz.func35 rfl rfl) FOk.leaf) (fok (fl := _) Tryz.func36 rfl rfl) (FOk.node FOk.leaf (fok (fl := _) Tryz.func37 rfl rfl) FOk.leaf)) (fok (fl := _) Tryz.func38 rfl rfl) (FOk.node (FOk.node FOk.leaf (fok (fl := _) Tryz.func39 rfl rfl) FOk.leaf) (fok (fl := _) Tryz.func40 rfl rfl) (FOk.node FOk.leaf (fok (fl := _) Tryz.func41 rfl rfl) FOk.leaf))) (fok (fl := _) Tryz.func44 rfl rfl) (FOk.node (FOk.node (FOk.node FOk.leaf (fok (fl := _) Tryz.func46 rfl rfl) FOk.leaf) (fok (fl := _) Tryz.func48 rfl rfl) (FOk.node FOk.leaf (fok (fl := _) Tryz.func50 rfl rfl) FOk.leaf)) (fok (fl := _) Tryz.func51 rfl rfl) (FOk.node (FOk.node FOk.leaf (fok (fl := _) Tryz.func52 rfl rfl) FOk.leaf) (fok (fl := _) Tryz.func53 rfl rfl) (FOk.node FOk.leaf (fok (fl := _) Tryz.func54 rfl rfl) FOk.leaf)))) (fok (fl := _) Tryz.func55 rfl rfl) (FOk.node (FOk.node (FOk.node (FOk.node FOk.leaf (fok (fl := _) Tryz.func56 rfl rfl) FOk.leaf) (fok (fl := _) Tryz.func57 rfl rfl) (FOk.node FOk.leaf (fok (fl := _) Tryz.func58 rfl rfl) FOk.leaf)) (fok (fl := _) Tryz.func59 rfl rfl) (FOk.node (FOk.node FOk.leaf (fok (fl := _) Tryz.func60 rfl rfl) FOk.leaf) (fok (fl := _) Tryz.func61 rfl rfl) (FOk.node FOk.leaf (fok (fl := _) Tryz.func65 rfl rfl) FOk.leaf))) (fok (fl := _) Tryz.func67 rfl rfl) (FOk.node (FOk.node (FOk.node FOk.leaf (fok (fl := _) Tryz.func68 rfl rfl) FOk.leaf) (fok (fl := _) Tryz.func69 rfl rfl) (FOk.node FOk.leaf (fok (fl := _) Tryz.func70 rfl rfl) FOk.leaf)) (fok (fl := _) Tryz.func72 rfl rfl) (FOk.node (FOk.node FOk.leaf (fok (fl := _) Tryz.func74 rfl rfl) FOk.leaf) (fok (fl := _) Tryz.func75 rfl rfl) FOk.leaf))))) (fok (fl := _) Tryz.func76 rfl rfl) (FOk.node (FOk.node (FOk.node (FOk.node (FOk.node (FOk.node FOk.leaf (fok (fl := _) Tryz.func77 rfl rfl) FOk.leaf) (fok (fl := _) Tryz.func79 rfl rfl) (FOk.node FOk.leaf (fok (fl := _) Tryz.func81 rfl rfl) FOk.leaf)) (fok (fl := _) Tryz.func83 rfl rfl) (FOk.node (FOk.node FOk.leaf (fok (fl := _) Tryz.func85 rfl rfl) FOk.leaf) (fok (fl := _) Tryz.func87 rfl rfl) (FOk.node FOk.leaf (fok (fl := _) Tryz.func88 rfl rfl) FOk.leaf))) (fok (fl := _) Tryz.func95 rfl rfl) (FOk.node (FOk.node (FOk.node FOk.leaf (fok (fl := _) Tryz.func96 rfl rfl) FOk.leaf) (fok (fl := _) Tryz.func97 rfl rfl) (FOk.node FOk.leaf (fok (fl := _) Tryz.func98 rfl rfl) FOk.leaf)) (fok (fl := _) Tryz.func100 rfl rfl) (FOk.node (FOk.node FOk.leaf (fok (fl := _) Tryz.func101 rfl rfl) FOk.leaf) (fok (fl := _) Tryz.func102 rfl rfl) (FOk.node FOk.leaf (fok (fl := _) Tryz.func104 rfl rfl) FOk.leaf)))) (fok (fl := _) Tryz.func105 rfl rfl) (FOk.node (FOk.node (FOk.node (FOk.node FOk.leaf (fok (fl := _) Tryz.func107 rfl rfl) FOk.leaf) (fok (fl := _) Tryz.func111 rfl rfl) (FOk.node FOk.leaf (fok (fl := _) Tryz.func112 rfl rfl) FOk.leaf)) (fok (fl := _) Tryz.func113 rfl rfl) (FOk.node (FOk.node FOk.leaf (fok (fl := _) Tryz.func114 rfl rfl) FOk.leaf) (fok (fl := _) Tryz.func115 rfl rfl) (FOk.node FOk.leaf (fok (fl := _) Tryz.func117 rfl rfl) FOk.leaf))) (fok (fl := _) Tryz.func118 rfl rfl) (FOk.node (FOk.node (FOk.node FOk.leaf (fok (fl := _) Tryz.func119 rfl rfl) FOk.leaf) (fok (fl := _) Tryz.func120 rfl rfl) (FOk.node FOk.leaf (fok (fl := _) Tryz.func122 rfl rfl) FOk.leaf)) (fok (fl := _) Tryz.func127 rfl rfl) (FOk.node (FOk.node FOk.leaf (fok (fl := _) Tryz.func128 rfl rfl) FOk.leaf) (fok (fl := _) Tryz.func129 rfl rfl) (FOk.node FOk.leaf (fok (fl := _) Tryz.func130 rfl rfl) FOk.leaf))))) (fok (fl := _) Tryz.func133 rfl rfl) (FOk.node (FOk.node (FOk.node (FOk.node (FOk.node FOk.leaf (fok (fl := _) Tryz.func135 rfl rfl) FOk.leaf) (fok (fl := _) Tryz.func138 rfl rfl) (FOk.node FOk.leaf (fok (fl := _) Tryz.func139 rfl rfl) FOk.leaf)) (fok (fl := _) Tryz.func140 rfl rfl) (FOk.node (FOk.node FOk.leaf (fok (fl := _) Tryz.func141 rfl rfl) FOk.leaf) (fok (fl := _) Tryz.func142 rfl rfl) (FOk.node FOk.leaf (fok (fl := _) Tryz.func151 rfl rfl) FOk.leaf))) (fok (fl := _) Tryz.func152 rfl rfl) (FOk.node (FOk.node (FOk.node FOk.leaf (fok (fl := _) Tryz.func153 rfl rfl) FOk.leaf) (fok (fl := _) Tryz.func158 rfl rfl) (FOk.node FOk.leaf (fok (fl := _) Tryz.func159 rfl rfl) FOk.leaf)) (fok (fl := _) Tryz.func160 rfl rfl) (FOk.node (FOk.node FOk.leaf (fok (fl := _) Tryz.func166 rfl rfl) FOk.leaf) (fok (fl := _) Tryz.func167 rfl rfl) (FOk.node FOk.leaf (fok (fl := _) Tryz.func174 rfl rfl) FOk.leaf)))) (fok (fl := _) Tryz.func192 rfl rfl) (FOk.node (FOk.node (FOk.node (FOk.node FOk.leaf (fok (fl := _) Tryz.func193 rfl rfl) FOk.leaf) (fok (fl := _) Tryz.func194 rfl rfl) (FOk.node FOk.leaf (fok (fl := _) Tryz.func195 rfl rfl) FOk.leaf)) (fok (fl := _) Tryz.func196 rfl rfl) (FOk.node (FOk.node FOk.leaf (fok (fl := _) Tryz.func203 rfl rfl) FOk.leaf) (fok (fl := _) Tryz.func213 rfl rfl) (FOk.node FOk.leaf (fok (fl := _) Tryz.func216 rfl rfl) FOk.leaf))) (fok (fl := _) Tryz.func232 rfl rfl) (FOk.node (FOk.node (FOk.node FOk.leaf (fok (fl := _) Tryz.func233 rfl rfl) FOk.leaf) (fok (fl := _) Tryz.func234 rfl rfl) (FOk.node FOk.leaf (fok (fl := _) Tryz.func256 rfl rfl) FOk.leaf)) (fok (fl := _) Tryz.func257 rfl rfl) (FOk.node (FOk.node FOk.leaf (fok (fl := _) Tryz.func265 rfl rfl) FOk.leaf) (fok (fl := _) Tryz.func314 rfl rfl) FOk.leaf))))))
def sokB (P : Program) (L : List Nat) : Bool := L.all fun t => !P.stoodInHeld t && !P.eqGuardType P.depth t && (P.fieldsOf t).toList.all fun f => f.name != "_"
theorem sokB_spec {P : Program} {L : List Nat} (h : sokB P L = true) : SOk P L := by
  intro t ht
  have := List.all_eq_true.1 h t ht
  simp only [Bool.and_eq_true, Bool.not_eq_true', List.all_eq_true, bne_iff_ne, ne_eq] at this
  exact ⟨this.1.1, this.1.2, this.2⟩
theorem PGok : PgOk Tryz.prog PG where
  types := TBok
  funcs := fun _ _ h => PTok.get h
  cmp := sokB_spec (by kernel_rfl)
  zero := zero_of (by kernel_rfl)
  mixed := by rfl
  ext := by
    intro f k h
    have hm := extK_mem h
    simp only [PG, List.mem_cons, Prod.mk.injEq, List.not_mem_nil, or_false] at hm
    rcases hm with ⟨rfl, rfl⟩
    · exact ⟨_, Tryz.func99, by kernel_rfl, by kernel_rfl, by kernel_rfl, by kernel_rfl⟩
end Go.Proofs.YtcljelenmldokaaGreatDoor

set_option linter.all false
set_option maxRecDepth 1000000
set_option maxHeartbeats 0
namespace Go.Proofs.YtcljelenmldokaaGreatDoor
open Go Go.X Go.Y
noncomputable def GH (t0 : Nat) : CH := [(0, .cells t0 16 1 none (([0, 498536548, 997073096, 651767980, 1994146192, 1802195444, 1303535960, 1342533948, 3988292384, 4027552580, 3604390888, 3412177804, 2607071920, 2262029012, 2685067896, 3183342108] : List Int).map fun z => CV.v (.int .u32 z)))]
def isT : Rs O2 → Bool | .ok r => (match r.v with | .v (.bool b) => b | _ => false) | .no _ => false
theorem t1 (t0 : Nat) : isT (runC PG [126] 1000000 3 [] ⟨[], [GH t0], 1000, []⟩) = true := by kernel_rfl
end Go.Proofs.YtcljelenmldokaaGreatDoor
