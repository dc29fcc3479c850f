/- Lemmas for the claim (part 7); no condition of its own. -/
import Derived.Test.YtcafebjoanjgoaaGreatDoorProg
import Derived.Test.YtcafebjoanjgoaaGreatDoorVLC00
import Derived.Test.YtcafebjoanjgoaaGreatDoorVLC03
import Derived.KernelRfl
import Derived.Test.YtcafebjoanjgoaaGreatDoorVLC02
import Derived.Test.YtcafebjoanjgoaaGreatDoorVLC01
set_option linter.all false
set_option linter.unusedVariables false
set_option linter.unusedSimpArgs false
set_option linter.unnecessarySimpa false
set_option linter.all false
set_option maxRecDepth 1000000
set_option maxHeartbeats 0
namespace Go.Proofs.YtcafebjoanjgoaaGreatDoor
open Go Go.X
def ti3 : TI := ⟨.int .i64, 1, 8, .int .i64 0⟩
theorem tk3 : TIok Tryz.prog 3 ti3 := ⟨Tryz.underlying3, by kernel_rfl⟩
def ti4 : TI := ⟨.bool, 1, 1, .bool false⟩
theorem tk4 : TIok Tryz.prog 4 ti4 := ⟨Tryz.underlying4, by kernel_rfl⟩
def ti5 : TI := ⟨.int .u8, 1, 1, .int .u8 0⟩
theorem tk5 : TIok Tryz.prog 5 ti5 := ⟨Tryz.underlying5, by kernel_rfl⟩
def ti9 : TI := ⟨.string, 1, 16, .string ⟨#[]⟩⟩
theorem tk9 : TIok Tryz.prog 9 ti9 := ⟨Tryz.underlying9, by kernel_rfl⟩
def ti24 : TI := ⟨.struct #[{ name := "Move", type := 3, offset := 0, embedded := false, tag := "", pkgPath := "", byteOffset := 0 }, { name := "Data", type := 9, offset := 1, embedded := false, tag := "", pkgPath := "", byteOffset := 8 }], 2, 24, .agg #[.int .i64 0, .string ⟨#[]⟩]⟩
theorem tk24 : TIok Tryz.prog 24 ti24 := ⟨Tryz.underlying24, by kernel_rfl⟩
def ti25 : TI := ⟨.slice 24, 1, 24, .slice none 0 0⟩
theorem tk25 : TIok Tryz.prog 25 ti25 := ⟨Tryz.underlying25, by kernel_rfl⟩
def ti26 : TI := ⟨.slice 61, 1, 24, .slice none 0 0⟩
theorem tk26 : TIok Tryz.prog 26 ti26 := ⟨Tryz.underlying26, by kernel_rfl⟩
def ti27 : TI := ⟨.slice 9, 1, 24, .slice none 0 0⟩
theorem tk27 : TIok Tryz.prog 27 ti27 := ⟨Tryz.underlying27, by kernel_rfl⟩
def ti28 : TI := ⟨.slice 99, 1, 24, .slice none 0 0⟩
theorem tk28 : TIok Tryz.prog 28 ti28 := ⟨Tryz.underlying28, by kernel_rfl⟩
def ti29 : TI := ⟨.slice 107, 1, 24, .slice none 0 0⟩
theorem tk29 : TIok Tryz.prog 29 ti29 := ⟨Tryz.underlying29, by kernel_rfl⟩
def ti30 : TI := ⟨.slice 3, 1, 24, .slice none 0 0⟩
theorem tk30 : TIok Tryz.prog 30 ti30 := ⟨Tryz.underlying30, by kernel_rfl⟩
def ti32 : TI := ⟨.struct #[{ name := "Group", type := 3, offset := 0, embedded := false, tag := "", pkgPath := "", byteOffset := 0 }, { name := "Applied", type := 3, offset := 1, embedded := false, tag := "", pkgPath := "", byteOffset := 8 }, { name := "Ranges", type := 26, offset := 2, embedded := false, tag := "", pkgPath := "", byteOffset := 16 }, { name := "Keys", type := 27, offset := 3, embedded := false, tag := "", pkgPath := "", byteOffset := 40 }, { name := "Counts", type := 28, offset := 4, embedded := false, tag := "", pkgPath := "", byteOffset := 64 }, { name := "Done", type := 29, offset := 5, embedded := false, tag := "", pkgPath := "", byteOffset := 88 }, { name := "Given", type := 25, offset := 6, embedded := false, tag := "", pkgPath := "", byteOffset := 112 }, { name := "Taken", type := 30, offset := 7, embedded := false, tag := "", pkgPath := "", byteOffset := 136 }], 8, 160, .agg #[.int .i64 0, .int .i64 0, .slice none 0 0, .slice none 0 0, .slice none 0 0, .slice none 0 0, .slice none 0 0, .slice none 0 0]⟩
theorem tk32 : TIok Tryz.prog 32 ti32 := ⟨Tryz.underlying32, by kernel_rfl⟩
def ti33 : TI := ⟨.pointer 69, 1, 8, .pointer none⟩
theorem tk33 : TIok Tryz.prog 33 ti33 := ⟨Tryz.underlying33, by kernel_rfl⟩
def ti34 : TI := ⟨.int .i64, 1, 8, .int .i64 0⟩
theorem tk34 : TIok Tryz.prog 34 ti34 := ⟨Tryz.underlying34, by kernel_rfl⟩
def ti37 : TI := ⟨.slice 5, 1, 24, .slice none 0 0⟩
theorem tk37 : TIok Tryz.prog 37 ti37 := ⟨Tryz.underlying37, by kernel_rfl⟩
def ti45 : TI := ⟨.int .u64, 1, 8, .int .u64 0⟩
theorem tk45 : TIok Tryz.prog 45 ti45 := ⟨Tryz.underlying45, by kernel_rfl⟩
def ti52 : TI := ⟨.func #[3] #[] false, 1, 8, .nilFunc⟩
theorem tk52 : TIok Tryz.prog 52 ti52 := ⟨Tryz.underlying52, by kernel_rfl⟩
def ti61 : TI := ⟨.struct #[{ name := "From", type := 9, offset := 0, embedded := false, tag := "", pkgPath := "", byteOffset := 0 }, { name := "To", type := 9, offset := 1, embedded := false, tag := "", pkgPath := "", byteOffset := 16 }], 2, 32, .agg #[.string ⟨#[]⟩, .string ⟨#[]⟩]⟩
theorem tk61 : TIok Tryz.prog 61 ti61 := ⟨Tryz.underlying61, by kernel_rfl⟩
def ti64 : TI := ⟨.pointer 210, 1, 8, .pointer none⟩
theorem tk64 : TIok Tryz.prog 64 ti64 := ⟨Tryz.underlying64, by kernel_rfl⟩
def ti65 : TI := ⟨.pointer 207, 1, 8, .pointer none⟩
theorem tk65 : TIok Tryz.prog 65 ti65 := ⟨Tryz.underlying65, by kernel_rfl⟩
def ti66 : TI := ⟨.map 3 9, 1, 8, .map none⟩
theorem tk66 : TIok Tryz.prog 66 ti66 := ⟨Tryz.underlying66, by kernel_rfl⟩
def ti67 : TI := ⟨.map 3 4, 1, 8, .map none⟩
theorem tk67 : TIok Tryz.prog 67 ti67 := ⟨Tryz.underlying67, by kernel_rfl⟩
def ti69 : TI := ⟨.struct #[{ name := "group", type := 3, offset := 0, embedded := false, tag := "", pkgPath := "skald/shard", byteOffset := 0 }, { name := "applied", type := 3, offset := 1, embedded := false, tag := "", pkgPath := "skald/shard", byteOffset := 8 }, { name := "owned", type := 26, offset := 2, embedded := false, tag := "", pkgPath := "skald/shard", byteOffset := 16 }, { name := "counts", type := 64, offset := 3, embedded := false, tag := "", pkgPath := "skald/shard", byteOffset := 40 }, { name := "memory", type := 65, offset := 4, embedded := false, tag := "", pkgPath := "skald/shard", byteOffset := 48 }, { name := "given", type := 66, offset := 5, embedded := false, tag := "", pkgPath := "skald/shard", byteOffset := 56 }, { name := "taken", type := 67, offset := 6, embedded := false, tag := "", pkgPath := "skald/shard", byteOffset := 64 }], 7, 72, .agg #[.int .i64 0, .int .i64 0, .slice none 0 0, .pointer none, .pointer none, .map none, .map none]⟩
theorem tk69 : TIok Tryz.prog 69 ti69 := ⟨Tryz.underlying69, by kernel_rfl⟩
def ti77 : TI := ⟨.struct #[{ name := "keys", type := 27, offset := 0, embedded := false, tag := "", pkgPath := "skald/shard", byteOffset := 0 }, { name := "counts", type := 28, offset := 1, embedded := false, tag := "", pkgPath := "skald/shard", byteOffset := 24 }, { name := "done", type := 29, offset := 2, embedded := false, tag := "", pkgPath := "skald/shard", byteOffset := 48 }], 3, 72, .agg #[.slice none 0 0, .slice none 0 0, .slice none 0 0]⟩
theorem tk77 : TIok Tryz.prog 77 ti77 := ⟨Tryz.underlying77, by kernel_rfl⟩
def ti82 : TI := ⟨.pointer 167, 1, 8, .pointer none⟩
theorem tk82 : TIok Tryz.prog 82 ti82 := ⟨Tryz.underlying82, by kernel_rfl⟩
def ti91 : TI := ⟨.pointer 277, 1, 8, .pointer none⟩
theorem tk91 : TIok Tryz.prog 91 ti91 := ⟨Tryz.underlying91, by kernel_rfl⟩
def ti93 : TI := ⟨.struct #[{ name := "Reader", type := 91, offset := 0, embedded := true, tag := "", pkgPath := "", byteOffset := 0 }], 1, 8, .agg #[.pointer none]⟩
theorem tk93 : TIok Tryz.prog 93 ti93 := ⟨Tryz.underlying93, by kernel_rfl⟩
def ti103 : TI := ⟨.struct #[{ name := "Saga", type := 3, offset := 0, embedded := false, tag := "", pkgPath := "", byteOffset := 0 }, { name := "Step", type := 3, offset := 1, embedded := false, tag := "", pkgPath := "", byteOffset := 8 }, { name := "Phase", type := 3, offset := 2, embedded := false, tag := "", pkgPath := "", byteOffset := 16 }], 3, 24, .agg #[.int .i64 0, .int .i64 0, .int .i64 0]⟩
theorem tk103 : TIok Tryz.prog 103 ti103 := ⟨Tryz.underlying103, by kernel_rfl⟩
def ti113 : TI := ⟨.int .u32, 1, 4, .int .u32 0⟩
theorem tk113 : TIok Tryz.prog 113 ti113 := ⟨Tryz.underlying113, by kernel_rfl⟩
def ti116 : TI := ⟨.int .u64, 1, 8, .int .u64 0⟩
theorem tk116 : TIok Tryz.prog 116 ti116 := ⟨Tryz.underlying116, by kernel_rfl⟩
def ti134 : TI := ⟨.pointer 235, 1, 8, .pointer none⟩
theorem tk134 : TIok Tryz.prog 134 ti134 := ⟨Tryz.underlying134, by kernel_rfl⟩
def ti159 : TI := ⟨.pointer 252, 1, 8, .pointer none⟩
theorem tk159 : TIok Tryz.prog 159 ti159 := ⟨Tryz.underlying159, by kernel_rfl⟩
def ti162 : TI := ⟨.pointer 255, 1, 8, .pointer none⟩
theorem tk162 : TIok Tryz.prog 162 ti162 := ⟨Tryz.underlying162, by kernel_rfl⟩
def ti164 : TI := ⟨.pointer 257, 1, 8, .pointer none⟩
theorem tk164 : TIok Tryz.prog 164 ti164 := ⟨Tryz.underlying164, by kernel_rfl⟩
def ti167 : TI := ⟨.struct #[{ name := "groups", type := 3, offset := 0, embedded := false, tag := "", pkgPath := "skald/orch", byteOffset := 0 }, { name := "done", type := 3, offset := 1, embedded := false, tag := "", pkgPath := "skald/orch", byteOffset := 8 }, { name := "sagas", type := 162, offset := 2, embedded := false, tag := "", pkgPath := "skald/orch", byteOffset := 16 }, { name := "moves", type := 164, offset := 3, embedded := false, tag := "", pkgPath := "skald/orch", byteOffset := 24 }, { name := "route", type := 159, offset := 4, embedded := false, tag := "", pkgPath := "skald/orch", byteOffset := 32 }], 5, 40, .agg #[.int .i64 0, .int .i64 0, .pointer none, .pointer none, .pointer none]⟩
theorem tk167 : TIok Tryz.prog 167 ti167 := ⟨Tryz.underlying167, by kernel_rfl⟩
def ti170 : TI := ⟨.slice 184, 1, 24, .slice none 0 0⟩
theorem tk170 : TIok Tryz.prog 170 ti170 := ⟨Tryz.underlying170, by kernel_rfl⟩
def ti171 : TI := ⟨.slice 188, 1, 24, .slice none 0 0⟩
theorem tk171 : TIok Tryz.prog 171 ti171 := ⟨Tryz.underlying171, by kernel_rfl⟩
def ti173 : TI := ⟨.struct #[{ name := "Groups", type := 3, offset := 0, embedded := false, tag := "", pkgPath := "", byteOffset := 0 }, { name := "Applied", type := 3, offset := 1, embedded := false, tag := "", pkgPath := "", byteOffset := 8 }, { name := "Sagas", type := 170, offset := 2, embedded := false, tag := "", pkgPath := "", byteOffset := 16 }, { name := "Moves", type := 171, offset := 3, embedded := false, tag := "", pkgPath := "", byteOffset := 40 }, { name := "Ranges", type := 26, offset := 4, embedded := false, tag := "", pkgPath := "", byteOffset := 64 }, { name := "Owners", type := 30, offset := 5, embedded := false, tag := "", pkgPath := "", byteOffset := 88 }, { name := "Epochs", type := 30, offset := 6, embedded := false, tag := "", pkgPath := "", byteOffset := 112 }], 7, 136, .agg #[.int .i64 0, .int .i64 0, .slice none 0 0, .slice none 0 0, .slice none 0 0, .slice none 0 0, .slice none 0 0]⟩
theorem tk173 : TIok Tryz.prog 173 ti173 := ⟨Tryz.underlying173, by kernel_rfl⟩
def ti205 : TI := ⟨.slice 226, 1, 24, .slice none 0 0⟩
theorem tk205 : TIok Tryz.prog 205 ti205 := ⟨Tryz.underlying205, by kernel_rfl⟩
def ti207 : TI := ⟨.struct #[{ name := "made", type := 4, offset := 0, embedded := false, tag := "", pkgPath := "skald/dedup", byteOffset := 0 }, { name := "size", type := 3, offset := 1, embedded := false, tag := "", pkgPath := "skald/dedup", byteOffset := 8 }, { name := "l", type := 205, offset := 2, embedded := false, tag := "", pkgPath := "skald/dedup", byteOffset := 16 }], 3, 40, .agg #[.bool false, .int .i64 0, .slice none 0 0]⟩
theorem tk207 : TIok Tryz.prog 207 ti207 := ⟨Tryz.underlying207, by kernel_rfl⟩
def ti208 : TI := ⟨.map 9 99, 1, 8, .map none⟩
theorem tk208 : TIok Tryz.prog 208 ti208 := ⟨Tryz.underlying208, by kernel_rfl⟩
def ti210 : TI := ⟨.struct #[{ name := "counts", type := 208, offset := 0, embedded := false, tag := "", pkgPath := "skald/store", byteOffset := 0 }], 1, 8, .agg #[.map none]⟩
theorem tk210 : TIok Tryz.prog 210 ti210 := ⟨Tryz.underlying210, by kernel_rfl⟩
def ti235 : TI := ⟨.struct #[{ name := "made", type := 4, offset := 0, embedded := false, tag := "", pkgPath := "skald/wire", byteOffset := 0 }, { name := "b", type := 37, offset := 1, embedded := false, tag := "", pkgPath := "skald/wire", byteOffset := 8 }], 2, 32, .agg #[.bool false, .slice none 0 0]⟩
theorem tk235 : TIok Tryz.prog 235 ti235 := ⟨Tryz.underlying235, by kernel_rfl⟩
def ti240 : TI := ⟨.slice 103, 1, 24, .slice none 0 0⟩
theorem tk240 : TIok Tryz.prog 240 ti240 := ⟨Tryz.underlying240, by kernel_rfl⟩
def ti249 : TI := ⟨.struct #[{ name := "r", type := 61, offset := 0, embedded := false, tag := "", pkgPath := "skald/route", byteOffset := 0 }, { name := "group", type := 3, offset := 2, embedded := false, tag := "", pkgPath := "skald/route", byteOffset := 32 }, { name := "epoch", type := 3, offset := 3, embedded := false, tag := "", pkgPath := "skald/route", byteOffset := 40 }], 4, 48, .agg #[.string ⟨#[]⟩, .string ⟨#[]⟩, .int .i64 0, .int .i64 0]⟩
theorem tk249 : TIok Tryz.prog 249 ti249 := ⟨Tryz.underlying249, by kernel_rfl⟩
def ti250 : TI := ⟨.slice 249, 1, 24, .slice none 0 0⟩
theorem tk250 : TIok Tryz.prog 250 ti250 := ⟨Tryz.underlying250, by kernel_rfl⟩
def ti252 : TI := ⟨.struct #[{ name := "parts", type := 250, offset := 0, embedded := false, tag := "", pkgPath := "skald/route", byteOffset := 0 }], 1, 24, .agg #[.slice none 0 0]⟩
theorem tk252 : TIok Tryz.prog 252 ti252 := ⟨Tryz.underlying252, by kernel_rfl⟩
def ti253 : TI := ⟨.map 3 182, 1, 8, .map none⟩
theorem tk253 : TIok Tryz.prog 253 ti253 := ⟨Tryz.underlying253, by kernel_rfl⟩
def ti255 : TI := ⟨.struct #[{ name := "l", type := 253, offset := 0, embedded := false, tag := "", pkgPath := "skald/sagas", byteOffset := 0 }], 1, 8, .agg #[.map none]⟩
theorem tk255 : TIok Tryz.prog 255 ti255 := ⟨Tryz.underlying255, by kernel_rfl⟩
def ti257 : TI := ⟨.struct #[{ name := "made", type := 4, offset := 0, embedded := false, tag := "", pkgPath := "skald/moves", byteOffset := 0 }, { name := "list", type := 171, offset := 1, embedded := false, tag := "", pkgPath := "skald/moves", byteOffset := 8 }], 2, 32, .agg #[.bool false, .slice none 0 0]⟩
theorem tk257 : TIok Tryz.prog 257 ti257 := ⟨Tryz.underlying257, by kernel_rfl⟩
def ti277 : TI := ⟨.struct #[{ name := "made", type := 4, offset := 0, embedded := false, tag := "", pkgPath := "skald/wire", byteOffset := 0 }, { name := "failed", type := 4, offset := 1, embedded := false, tag := "", pkgPath := "skald/wire", byteOffset := 1 }, { name := "left", type := 37, offset := 2, embedded := false, tag := "", pkgPath := "skald/wire", byteOffset := 8 }], 3, 32, .agg #[.bool false, .bool false, .slice none 0 0]⟩
theorem tk277 : TIok Tryz.prog 277 ti277 := ⟨Tryz.underlying277, by kernel_rfl⟩
def ti371 : TI := ⟨.array 16 113, 16, 64, .agg #[.int .u32 0, .int .u32 0, .int .u32 0, .int .u32 0, .int .u32 0, .int .u32 0, .int .u32 0, .int .u32 0, .int .u32 0, .int .u32 0, .int .u32 0, .int .u32 0, .int .u32 0, .int .u32 0, .int .u32 0, .int .u32 0]⟩
theorem tk371 : TIok Tryz.prog 371 ti371 := ⟨Tryz.underlying371, by kernel_rfl⟩
def ti385 : TI := ⟨.struct #[{ name := "lo", type := 5, offset := 0, embedded := false, tag := "", pkgPath := "unicode/utf8", byteOffset := 0 }, { name := "hi", type := 5, offset := 1, embedded := false, tag := "", pkgPath := "unicode/utf8", byteOffset := 1 }], 2, 2, .agg #[.int .u8 0, .int .u8 0]⟩
theorem tk385 : TIok Tryz.prog 385 ti385 := ⟨Tryz.underlying385, by kernel_rfl⟩
def ti386 : TI := ⟨.array 16 385, 32, 32, .agg #[.int .u8 0, .int .u8 0, .int .u8 0, .int .u8 0, .int .u8 0, .int .u8 0, .int .u8 0, .int .u8 0, .int .u8 0, .int .u8 0, .int .u8 0, .int .u8 0, .int .u8 0, .int .u8 0, .int .u8 0, .int .u8 0, .int .u8 0, .int .u8 0, .int .u8 0, .int .u8 0, .int .u8 0, .int .u8 0, .int .u8 0, .int .u8 0, .int .u8 0, .int .u8 0, .int .u8 0, .int .u8 0, .int .u8 0, .int .u8 0, .int .u8 0, .int .u8 0]⟩
theorem tk386 : TIok Tryz.prog 386 ti386 := ⟨Tryz.underlying386, by kernel_rfl⟩
def TB : TR := (.node (.node (.node (.node (.node (.node .leaf 3 ti3 .leaf) 4 ti4 (.node .leaf 5 ti5 .leaf)) 9 ti9 (.node (.node .leaf 24 ti24 .leaf) 25 ti25 .leaf)) 26 ti26 (.node (.node (.node .leaf 27 ti27 .leaf) 28 ti28 (.node .leaf 29 ti29 .leaf)) 30 ti30 (.node (.node .leaf 32 ti32 .leaf) 33 ti33 .leaf))) 34 ti34 (.node (.node (.node (.node .leaf 37 ti37 .leaf) 45 ti45 (.node .leaf 52 ti52 .leaf)) 61 ti61 (.node (.node .leaf 64 ti64 .leaf) 65 ti65 .leaf)) 66 ti66 (.node (.node (.node .leaf 67 ti67 .leaf) 69 ti69 (.node .leaf 77 ti77 .leaf)) 82 ti82 (.node (.node .leaf 91 ti91 .leaf) 93 ti93 .leaf)))) 103 ti103 (.node (.node (.node (.node (.node .leaf 113 ti113 .leaf) 116 ti116 (.node .leaf 134 ti134 .leaf)) 159 ti159 (.node (.node .leaf 162 ti162 .leaf) 164 ti164 .leaf)) 167 ti167 (.node (.node (.node .leaf 170 ti170 .leaf) 171 ti171 (.node .leaf 173 ti173 .leaf)) 205 ti205 (.node (.node .leaf 207 ti207 .leaf) 208 ti208 .leaf))) 210 ti210 (.node (.node (.node (.node .leaf 235 ti235 .leaf) 240 ti240 (.node .leaf 249 ti249 .leaf)) 250 ti250 (.node (.node .leaf 252 ti252 .leaf) 253 ti253 .leaf)) 255 ti255 (.node (.node (.node .leaf 257 ti257 .leaf) 277 ti277 .leaf) 371 ti371 (.node (.node .leaf 385 ti385 .leaf) 386 ti386 .leaf)))))
theorem TBok : TOk Tryz.prog TB := (TOk.node (TOk.node (TOk.node (TOk.node (TOk.node (TOk.node TOk.leaf tk3 TOk.leaf) tk4 (TOk.node TOk.leaf tk5 TOk.leaf)) tk9 (TOk.node (TOk.node TOk.leaf tk24 TOk.leaf) tk25 TOk.leaf)) tk26 (TOk.node (TOk.node (TOk.node TOk.leaf tk27 TOk.leaf) tk28 (TOk.node TOk.leaf tk29 TOk.leaf)) tk30 (TOk.node (TOk.node TOk.leaf tk32 TOk.leaf) tk33 TOk.leaf))) tk34 (TOk.node (TOk.node (TOk.node (TOk.node TOk.leaf tk37 TOk.leaf) tk45 (TOk.node TOk.leaf tk52 TOk.leaf)) tk61 (TOk.node (TOk.node TOk.leaf tk64 TOk.leaf) tk65 TOk.leaf)) tk66 (TOk.node (TOk.node (TOk.node TOk.leaf tk67 TOk.leaf) tk69 (TOk.node TOk.leaf tk77 TOk.leaf)) tk82 (TOk.node (TOk.node TOk.leaf tk91 TOk.leaf) tk93 TOk.leaf)))) tk103 (TOk.node (TOk.node (TOk.node (TOk.node (TOk.node TOk.leaf tk113 TOk.leaf) tk116 (TOk.node TOk.leaf tk134 TOk.leaf)) tk159 (TOk.node (TOk.node TOk.leaf tk162 TOk.leaf) tk164 TOk.leaf)) tk167 (TOk.node (TOk.node (TOk.node TOk.leaf tk170 TOk.leaf) tk171 (TOk.node TOk.leaf tk173 TOk.leaf)) tk205 (TOk.node (TOk.node TOk.leaf tk207 TOk.leaf) tk208 TOk.leaf))) tk210 (TOk.node (TOk.node (TOk.node (TOk.node TOk.leaf tk235 TOk.leaf) tk240 (TOk.node TOk.leaf tk249 TOk.leaf)) tk250 (TOk.node (TOk.node TOk.leaf tk252 TOk.leaf) tk253 TOk.leaf)) tk255 (TOk.node (TOk.node (TOk.node TOk.leaf tk257 TOk.leaf) tk277 TOk.leaf) tk371 (TOk.node (TOk.node TOk.leaf tk385 TOk.leaf) tk386 TOk.leaf)))))
end Go.Proofs.YtcafebjoanjgoaaGreatDoor

set_option linter.all false
set_option maxRecDepth 1000000
set_option maxHeartbeats 0
namespace Go.Proofs.YtcafebjoanjgoaaGreatDoor
open Go Go.X Go.Y
theorem sa : crcR [(115, 1), (107, 1), (100, 1), (49, 1), (1, 2), (0, 5), (2, 1), (1, 1), (224, 1), (212, 1), (3, 1)] 4294967295 = 2069250671 := by kernel_rfl
theorem sb0 : crcN 97 10000 2069250671 = 1643319815 := by kernel_rfl
theorem sb1 : crcN 97 10000 1643319815 = 4274503231 := by kernel_rfl
theorem sb2 : crcN 97 10000 4274503231 = 2979604234 := by kernel_rfl
theorem sb3 : crcN 97 10000 2979604234 = 1632845132 := by kernel_rfl
theorem sb4 : crcN 97 10000 1632845132 = 3253617782 := by kernel_rfl
theorem sb5 : crcN 97 10000 3253617782 = 3594578529 := by kernel_rfl
theorem sb : crcN 97 60000 2069250671 = 3594578529 := by
  rw [show (60000 : Nat) = 10000 + (10000 + (10000 + (10000 + (10000 + 10000)))) from rfl, crcN_add, sb0, crcN_add, sb1, crcN_add, sb2, crcN_add, sb3, crcN_add, sb4, sb5]
theorem sc0 : crcR [(2, 1), (132, 1), (43, 1), (98, 5508), (0, 1)] 3594578529 = 3136107613 := by kernel_rfl
theorem sd0 : SumOk ([(115, 1), (107, 1), (100, 1), (49, 1), (1, 2), (0, 5), (2, 1), (1, 1), (224, 1), (212, 1), (3, 1), (97, 60000), (2, 1), (132, 1), (43, 1), (98, 5508), (0, 1)], 1158859682) := SumOk.mk' (r := 3136107613) (by kernel_rfl) (by rw [show [(115, 1), (107, 1), (100, 1), (49, 1), (1, 2), (0, 5), (2, 1), (1, 1), (224, 1), (212, 1), (3, 1), (97, 60000), (2, 1), (132, 1), (43, 1), (98, 5508), (0, 1)] = [(115, 1), (107, 1), (100, 1), (49, 1), (1, 2), (0, 5), (2, 1), (1, 1), (224, 1), (212, 1), (3, 1)] ++ ((97, 60000) :: [(2, 1), (132, 1), (43, 1), (98, 5508), (0, 1)]) from rfl, crcR_app, sa, crcR_cons, sb, sc0]) (by kernel_rfl)
theorem sc1 : crcR [(2, 1), (133, 1), (43, 1), (98, 5509), (0, 1)] 3594578529 = 2394565389 := by kernel_rfl
theorem sd1 : SumOk ([(115, 1), (107, 1), (100, 1), (49, 1), (1, 2), (0, 5), (2, 1), (1, 1), (224, 1), (212, 1), (3, 1), (97, 60000), (2, 1), (133, 1), (43, 1), (98, 5509), (0, 1)], 1900401906) := SumOk.mk' (r := 2394565389) (by kernel_rfl) (by rw [show [(115, 1), (107, 1), (100, 1), (49, 1), (1, 2), (0, 5), (2, 1), (1, 1), (224, 1), (212, 1), (3, 1), (97, 60000), (2, 1), (133, 1), (43, 1), (98, 5509), (0, 1)] = [(115, 1), (107, 1), (100, 1), (49, 1), (1, 2), (0, 5), (2, 1), (1, 1), (224, 1), (212, 1), (3, 1)] ++ ((97, 60000) :: [(2, 1), (133, 1), (43, 1), (98, 5509), (0, 1)]) from rfl, crcR_app, sa, crcR_cons, sb, sc1]) (by kernel_rfl)
theorem sc2 : crcR [(2, 1), (134, 1), (43, 1), (98, 5510), (0, 1)] 3594578529 = 94507544 := by kernel_rfl
theorem sd2 : SumOk ([(115, 1), (107, 1), (100, 1), (49, 1), (1, 2), (0, 5), (2, 1), (1, 1), (224, 1), (212, 1), (3, 1), (97, 60000), (2, 1), (134, 1), (43, 1), (98, 5510), (0, 1)], 4200459751) := SumOk.mk' (r := 94507544) (by kernel_rfl) (by rw [show [(115, 1), (107, 1), (100, 1), (49, 1), (1, 2), (0, 5), (2, 1), (1, 1), (224, 1), (212, 1), (3, 1), (97, 60000), (2, 1), (134, 1), (43, 1), (98, 5510), (0, 1)] = [(115, 1), (107, 1), (100, 1), (49, 1), (1, 2), (0, 5), (2, 1), (1, 1), (224, 1), (212, 1), (3, 1)] ++ ((97, 60000) :: [(2, 1), (134, 1), (43, 1), (98, 5510), (0, 1)]) from rfl, crcR_app, sa, crcR_cons, sb, sc2]) (by kernel_rfl)
theorem sc3 : crcR [(2, 1), (135, 1), (43, 1), (98, 5511), (0, 1)] 3594578529 = 3446330677 := by kernel_rfl
theorem sd3 : SumOk ([(115, 1), (107, 1), (100, 1), (49, 1), (1, 2), (0, 5), (2, 1), (1, 1), (224, 1), (212, 1), (3, 1), (97, 60000), (2, 1), (135, 1), (43, 1), (98, 5511), (0, 1)], 848636618) := SumOk.mk' (r := 3446330677) (by kernel_rfl) (by rw [show [(115, 1), (107, 1), (100, 1), (49, 1), (1, 2), (0, 5), (2, 1), (1, 1), (224, 1), (212, 1), (3, 1), (97, 60000), (2, 1), (135, 1), (43, 1), (98, 5511), (0, 1)] = [(115, 1), (107, 1), (100, 1), (49, 1), (1, 2), (0, 5), (2, 1), (1, 1), (224, 1), (212, 1), (3, 1)] ++ ((97, 60000) :: [(2, 1), (135, 1), (43, 1), (98, 5511), (0, 1)]) from rfl, crcR_app, sa, crcR_cons, sb, sc3]) (by kernel_rfl)
theorem sc4 : crcR [(2, 1), (136, 1), (43, 1), (98, 5512), (0, 1)] 3594578529 = 267441785 := by kernel_rfl
theorem sd4 : SumOk ([(115, 1), (107, 1), (100, 1), (49, 1), (1, 2), (0, 5), (2, 1), (1, 1), (224, 1), (212, 1), (3, 1), (97, 60000), (2, 1), (136, 1), (43, 1), (98, 5512), (0, 1)], 4027525510) := SumOk.mk' (r := 267441785) (by kernel_rfl) (by rw [show [(115, 1), (107, 1), (100, 1), (49, 1), (1, 2), (0, 5), (2, 1), (1, 1), (224, 1), (212, 1), (3, 1), (97, 60000), (2, 1), (136, 1), (43, 1), (98, 5512), (0, 1)] = [(115, 1), (107, 1), (100, 1), (49, 1), (1, 2), (0, 5), (2, 1), (1, 1), (224, 1), (212, 1), (3, 1)] ++ ((97, 60000) :: [(2, 1), (136, 1), (43, 1), (98, 5512), (0, 1)]) from rfl, crcR_app, sa, crcR_cons, sb, sc4]) (by kernel_rfl)
theorem sc5 : crcR [(2, 1), (137, 1), (43, 1), (98, 5513), (0, 1)] 3594578529 = 3919799998 := by kernel_rfl
theorem sd5 : SumOk ([(115, 1), (107, 1), (100, 1), (49, 1), (1, 2), (0, 5), (2, 1), (1, 1), (224, 1), (212, 1), (3, 1), (97, 60000), (2, 1), (137, 1), (43, 1), (98, 5513), (0, 1)], 375167297) := SumOk.mk' (r := 3919799998) (by kernel_rfl) (by rw [show [(115, 1), (107, 1), (100, 1), (49, 1), (1, 2), (0, 5), (2, 1), (1, 1), (224, 1), (212, 1), (3, 1), (97, 60000), (2, 1), (137, 1), (43, 1), (98, 5513), (0, 1)] = [(115, 1), (107, 1), (100, 1), (49, 1), (1, 2), (0, 5), (2, 1), (1, 1), (224, 1), (212, 1), (3, 1)] ++ ((97, 60000) :: [(2, 1), (137, 1), (43, 1), (98, 5513), (0, 1)]) from rfl, crcR_app, sa, crcR_cons, sb, sc5]) (by kernel_rfl)
theorem sc6 : crcR [(2, 1), (138, 1), (43, 1), (98, 5514), (0, 1)] 3594578529 = 3136920222 := by kernel_rfl
theorem sd6 : SumOk ([(115, 1), (107, 1), (100, 1), (49, 1), (1, 2), (0, 5), (2, 1), (1, 1), (224, 1), (212, 1), (3, 1), (97, 60000), (2, 1), (138, 1), (43, 1), (98, 5514), (0, 1)], 1158047073) := SumOk.mk' (r := 3136920222) (by kernel_rfl) (by rw [show [(115, 1), (107, 1), (100, 1), (49, 1), (1, 2), (0, 5), (2, 1), (1, 1), (224, 1), (212, 1), (3, 1), (97, 60000), (2, 1), (138, 1), (43, 1), (98, 5514), (0, 1)] = [(115, 1), (107, 1), (100, 1), (49, 1), (1, 2), (0, 5), (2, 1), (1, 1), (224, 1), (212, 1), (3, 1)] ++ ((97, 60000) :: [(2, 1), (138, 1), (43, 1), (98, 5514), (0, 1)]) from rfl, crcR_app, sa, crcR_cons, sb, sc6]) (by kernel_rfl)
theorem sc7 : crcR [(2, 1), (139, 1), (43, 1), (98, 5515), (0, 1)] 3594578529 = 1048648921 := by kernel_rfl
theorem sd7 : SumOk ([(115, 1), (107, 1), (100, 1), (49, 1), (1, 2), (0, 5), (2, 1), (1, 1), (224, 1), (212, 1), (3, 1), (97, 60000), (2, 1), (139, 1), (43, 1), (98, 5515), (0, 1)], 3246318374) := SumOk.mk' (r := 1048648921) (by kernel_rfl) (by rw [show [(115, 1), (107, 1), (100, 1), (49, 1), (1, 2), (0, 5), (2, 1), (1, 1), (224, 1), (212, 1), (3, 1), (97, 60000), (2, 1), (139, 1), (43, 1), (98, 5515), (0, 1)] = [(115, 1), (107, 1), (100, 1), (49, 1), (1, 2), (0, 5), (2, 1), (1, 1), (224, 1), (212, 1), (3, 1)] ++ ((97, 60000) :: [(2, 1), (139, 1), (43, 1), (98, 5515), (0, 1)]) from rfl, crcR_app, sa, crcR_cons, sb, sc7]) (by kernel_rfl)
noncomputable def CRS : List (List (Nat × Nat) × Nat) := [([(115, 1), (107, 1), (100, 1), (49, 1), (1, 2), (0, 5), (2, 1), (1, 1), (224, 1), (212, 1), (3, 1), (97, 60000), (2, 1), (132, 1), (43, 1), (98, 5508), (0, 1)], 1158859682),
 ([(115, 1), (107, 1), (100, 1), (49, 1), (1, 2), (0, 5), (2, 1), (1, 1), (224, 1), (212, 1), (3, 1), (97, 60000), (2, 1), (133, 1), (43, 1), (98, 5509), (0, 1)], 1900401906),
 ([(115, 1), (107, 1), (100, 1), (49, 1), (1, 2), (0, 5), (2, 1), (1, 1), (224, 1), (212, 1), (3, 1), (97, 60000), (2, 1), (134, 1), (43, 1), (98, 5510), (0, 1)], 4200459751),
 ([(115, 1), (107, 1), (100, 1), (49, 1), (1, 2), (0, 5), (2, 1), (1, 1), (224, 1), (212, 1), (3, 1), (97, 60000), (2, 1), (135, 1), (43, 1), (98, 5511), (0, 1)], 848636618),
 ([(115, 1), (107, 1), (100, 1), (49, 1), (1, 2), (0, 5), (2, 1), (1, 1), (224, 1), (212, 1), (3, 1), (97, 60000), (2, 1), (136, 1), (43, 1), (98, 5512), (0, 1)], 4027525510),
 ([(115, 1), (107, 1), (100, 1), (49, 1), (1, 2), (0, 5), (2, 1), (1, 1), (224, 1), (212, 1), (3, 1), (97, 60000), (2, 1), (137, 1), (43, 1), (98, 5513), (0, 1)], 375167297),
 ([(115, 1), (107, 1), (100, 1), (49, 1), (1, 2), (0, 5), (2, 1), (1, 1), (224, 1), (212, 1), (3, 1), (97, 60000), (2, 1), (138, 1), (43, 1), (98, 5514), (0, 1)], 1158047073),
 ([(115, 1), (107, 1), (100, 1), (49, 1), (1, 2), (0, 5), (2, 1), (1, 1), (224, 1), (212, 1), (3, 1), (97, 60000), (2, 1), (139, 1), (43, 1), (98, 5515), (0, 1)], 3246318374)]
theorem CRSok : SumsOk CRS := .cons sd0 (.cons sd1 (.cons sd2 (.cons sd3 (.cons sd4 (.cons sd5 (.cons sd6 (.cons sd7 (.nil))))))))
end Go.Proofs.YtcafebjoanjgoaaGreatDoor

set_option linter.all false
set_option maxRecDepth 1000000
set_option maxHeartbeats 0
namespace Go.Proofs.YtcafebjoanjgoaaGreatDoor
open Go Go.X Go.Y
noncomputable def fiOf (f : Func) (fl : List (Nat × List (Nat × Bool))) : FI := ⟨f.ntmps, (match f.body with | some b => b | none => .skip), f.results.toList, fl⟩
noncomputable def PT : FT := (.node (.node (.node (.node (.node (.node (.node (.node .leaf 3 (fiOf Tryz.f3 []) .leaf) 5 (fiOf Tryz.f5 [(10, [(9, true)])]) .leaf) 6 (fiOf Tryz.f6 []) (.node .leaf 7 (fiOf Tryz.f7 [(7, [(20, true), (30, true)]), (100007, [(17, false), (18, false), (27, false), (28, false)])]) .leaf)) 8 (fiOf Tryz.f8 []) (.node (.node .leaf 9 (fiOf Tryz.f9 []) .leaf) 16 (fiOf Tryz.f16 []) (.node .leaf 17 (fiOf Tryz.f17 []) .leaf))) 18 (fiOf Tryz.f18 []) (.node (.node (.node .leaf 21 (fiOf Tryz.f21 []) .leaf) 22 (fiOf Tryz.f22 []) (.node .leaf 23 (fiOf Tryz.f23 []) .leaf)) 24 (fiOf Tryz.f24 []) (.node (.node .leaf 25 (fiOf Tryz.f25 []) .leaf) 26 (fiOf Tryz.f26 []) (.node .leaf 27 (fiOf Tryz.f27 []) .leaf)))) 28 (fiOf Tryz.f28 []) (.node (.node (.node (.node .leaf 29 (fiOf Tryz.f29 []) .leaf) 30 (fiOf Tryz.f30 []) (.node .leaf 31 (fiOf Tryz.f31 []) .leaf)) 32 (fiOf Tryz.f32 []) (.node (.node .leaf 33 (fiOf Tryz.f33 []) .leaf) 34 (fiOf Tryz.f34 []) (.node .leaf 35 (fiOf Tryz.f35 []) .leaf))) 36 (fiOf Tryz.f36 []) (.node (.node (.node .leaf 37 (fiOf Tryz.f37 []) .leaf) 38 (fiOf Tryz.f38 []) (.node .leaf 40 (fiOf Tryz.f40 []) .leaf)) 41 (fiOf Tryz.f41 []) (.node (.node .leaf 42 (fiOf Tryz.f42 []) .leaf) 44 (fiOf Tryz.f44 []) (.node .leaf 46 (fiOf Tryz.f46 []) .leaf))))) 47 (fiOf Tryz.f47 []) (.node (.node (.node (.node (.node .leaf 48 (fiOf Tryz.f48 []) .leaf) 54 (fiOf Tryz.f54 []) (.node .leaf 55 (fiOf Tryz.f55 []) .leaf)) 57 (fiOf Tryz.f57 []) (.node (.node .leaf 61 (fiOf Tryz.f61 []) .leaf) 66 (fiOf Tryz.f66 []) (.node .leaf 67 (fiOf Tryz.f67 []) .leaf))) 68 (fiOf Tryz.f68 []) (.node (.node (.node .leaf 69 (fiOf Tryz.f69 []) .leaf) 70 (fiOf Tryz.f70 []) (.node .leaf 71 (fiOf Tryz.f71 []) .leaf)) 72 (fiOf Tryz.f72 []) (.node (.node .leaf 73 (fiOf Tryz.f73 []) .leaf) 74 (fiOf Tryz.f74 []) (.node .leaf 75 (fiOf Tryz.f75 []) .leaf)))) 76 (fiOf Tryz.f76 []) (.node (.node (.node (.node .leaf 77 (fiOf Tryz.f77 []) .leaf) 80 (fiOf Tryz.f80 []) (.node .leaf 82 (fiOf Tryz.f82 []) .leaf)) 83 (fiOf Tryz.f83 []) (.node (.node .leaf 84 (fiOf Tryz.f84 []) .leaf) 86 (fiOf Tryz.f86 []) (.node .leaf 87 (fiOf Tryz.f87 [(2, [(10, true)])]) .leaf))) 88 (fiOf Tryz.f88 []) (.node (.node (.node .leaf 89 (fiOf Tryz.f89 []) .leaf) 90 (fiOf Tryz.f90 []) (.node .leaf 91 (fiOf Tryz.f91 []) .leaf)) 92 (fiOf Tryz.f92 []) (.node (.node .leaf 93 (fiOf Tryz.f93 []) .leaf) 94 (fiOf Tryz.f94 []) (.node .leaf 95 (fiOf Tryz.f95 []) .leaf)))))) 96 (fiOf Tryz.f96 []) (.node (.node (.node (.node (.node (.node (.node .leaf 97 (fiOf Tryz.f97 []) .leaf) 105 (fiOf Tryz.f105 []) .leaf) 106 (fiOf Tryz.f106 []) (.node .leaf 107 (fiOf Tryz.f107 []) .leaf)) 108 (fiOf Tryz.f108 []) (.node (.node .leaf 109 (fiOf Tryz.f109 []) .leaf) 110 (fiOf Tryz.f110 []) (.node .leaf 111 (fiOf Tryz.f111 []) .leaf))) 123 (fiOf Tryz.f123 []) (.node (.node (.node .leaf 130 (fiOf Tryz.f130 []) .leaf) 131 (fiOf Tryz.f131 []) (.node .leaf 132 (fiOf Tryz.f132 []) .leaf)) 134 (fiOf Tryz.f134 []) (.node (.node .leaf 135 (fiOf Tryz.f135 [(4, [(7, true)])]) .leaf) 136 (fiOf Tryz.f136 []) (.node .leaf 138 (fiOf Tryz.f138 []) .leaf)))) 139 (fiOf Tryz.f139 []) (.node (.node (.node (.node .leaf 141 (fiOf Tryz.f141 []) .leaf) 144 (fiOf Tryz.f144 []) (.node .leaf 145 (fiOf Tryz.f145 []) .leaf)) 146 (fiOf Tryz.f146 []) (.node (.node .leaf 147 (fiOf Tryz.f147 []) .leaf) 148 (fiOf Tryz.f148 []) (.node .leaf 149 (fiOf Tryz.f149 []) .leaf))) 150 (fiOf Tryz.f150 []) (.node (.node (.node .leaf 151 (fiOf Tryz.f151 []) .leaf) 152 (fiOf Tryz.f152 []) (.node .leaf 153 (fiOf Tryz.f153 []) .leaf)) 154 (fiOf Tryz.f154 []) (.node (.node .leaf 158 (fiOf Tryz.f158 []) .leaf) 160 (fiOf Tryz.f160 []) (.node .leaf 161 (fiOf Tryz.f161 []) .leaf))))) 162 (fiOf Tryz.f162 []) (.node (.node (.node (.node (.node .leaf 163 (fiOf Tryz.f163 []) .leaf) 165 (fiOf Tryz.f165 []) (.node .leaf 175 (fiOf Tryz.f175 []) .leaf)) 196 (fiOf Tryz.f196 []) (.node (.node .leaf 197 (fiOf Tryz.f197 []) .leaf) 198 (fiOf Tryz.f198 []) (.node .leaf 200 (fiOf Tryz.f200 []) .leaf))) 201 (fiOf Tryz.f201 []) (.node (.node (.node .leaf 202 (fiOf Tryz.f202 []) .leaf) 203 (fiOf Tryz.f203 []) (.node .leaf 205 (fiOf Tryz.f205 []) .leaf)) 206 (fiOf Tryz.f206 []) (.node (.node .leaf 207 (fiOf Tryz.f207 []) .leaf) 208 (fiOf Tryz.f208 []) (.node .leaf 210 (fiOf Tryz.f210 []) .leaf)))) 227 (fiOf Tryz.f227 []) (.node (.node (.node (.node .leaf 234 (fiOf Tryz.f234 []) .leaf) 235 (fiOf Tryz.f235 []) (.node .leaf 236 (fiOf Tryz.f236 []) .leaf)) 237 (fiOf Tryz.f237 []) (.node (.node .leaf 238 (fiOf Tryz.f238 []) .leaf) 239 (fiOf Tryz.f239 []) (.node .leaf 249 (fiOf Tryz.f249 []) .leaf))) 254 (fiOf Tryz.f254 []) (.node (.node (.node .leaf 266 (fiOf Tryz.f266 []) .leaf) 267 (fiOf Tryz.f267 []) (.node .leaf 268 (fiOf Tryz.f268 []) .leaf)) 283 (fiOf Tryz.f283 []) (.node (.node .leaf 284 (fiOf Tryz.f284 []) .leaf) 287 (fiOf Tryz.f287 []) (.node .leaf 328 (fiOf Tryz.f328 []) .leaf)))))))
noncomputable def PI : List (Nat × String × Nat) := []
noncomputable def PG0 : Pg := ⟨TB, PT, [], [(113, 1), (133, 0), (89, 51), (147, 5), (4, 9), (134, 24)], [], PI, CRS⟩
noncomputable def PG : Pg := ⟨TB, PT, [], [(113, 1), (133, 0), (89, 51), (147, 5), (4, 9), (134, 24)], [], PI, CRS⟩
end Go.Proofs.YtcafebjoanjgoaaGreatDoor

set_option linter.all false
set_option maxRecDepth 1000000
set_option maxHeartbeats 0
namespace Go.Proofs.YtcafebjoanjgoaaGreatDoor
open Go Go.X
def sokB (P : Program) (L : List Nat) : Bool := L.all fun t => !P.stoodInHeld t && !P.eqGuardType P.depth t && (P.fieldsOf t).toList.all fun f => f.name != "_"
theorem sokB_spec {P : Program} {L : List Nat} (h : sokB P L = true) : SOk P L := by
  intro t ht
  have := List.all_eq_true.1 h t ht
  simp only [Bool.and_eq_true, Bool.not_eq_true', List.all_eq_true, bne_iff_ne, ne_eq] at this
  exact ⟨this.1.1, this.1.2, this.2⟩
theorem sok : SOk Tryz.prog [] := sokB_spec (by kernel_rfl)
end Go.Proofs.YtcafebjoanjgoaaGreatDoor

namespace Go.X
open Go
theorem OpK.idxX {c : Cx} {o : Oper} {E : Env} {H : List Blk} {nx : K1} {t e : Nat} {x ix : Operand} {ti j : TI} (ho : o.op = .indexAddr t x ix) {b off n cap : Nat} {q : IntKind} {z : Int} (hx : opd E x = some (.v (.slice (some ⟨b, off, none⟩) n cap))) (hi : opd E ix = some (.v (.int q z)))
    (hti : c.T.get t = some ti) (hd : ti.desc = .slice e) (hj : c.T.get e = some j) {k : Nat} (hkk : j.size = k) (h0 : 0 ≤ z) (hlt : z < n)
    (h : nx (.v (.pointer (some ⟨b, off + z.toNat * k, none⟩))) H) : OpK c o E H nx := by
  subst hkk
  have hnd : ∀ cl, o.op ≠ .defer cl := by rw [ho]; intro cl e; cases e
  refine OpK.val hnd _ (fun ms ac w hac hk => ?_) h
  have hu := (c.ok t ti hti).1
  rw [hd] at hu
  have e1 := hac.opd hx
  have e2 := hac.opd hi
  simp only [den] at e1 e2
  simp [execOp, ho, e1, e2, Instr.indexAt, asIntOf, run_underlying hu, r_sizeOf (c.ok e j hj) w, hlt, h0, add_none, den]
theorem HSub.emp {i : Nat} (H : List Blk) : HSub [.ext i emp] H := fun _ _ _ =>
  ⟨fun _ => False ∨ False, .cons (x := .ext i X.emp) (S := fun _ => False) (fun _ h => h) (fun _ h => h.elim) .nil (fun _ h _ => h), fun _ hk => (hk.elim id id).elim⟩
end Go.X
namespace Go.Proofs.YtcafebjoanjgoaaGreatDoor
open Go Go.X Go.Y
set_option linter.all false
set_option maxRecDepth 100000
set_option maxHeartbeats 0
theorem mixed : Tryz.prog.follows .mixedOrders = true := by rfl
/-- a call of f is walked in its place -/
def InSt (f : Nat) (F : Func) (k : Nat) : Prop := ∀ {n : Nat} {x : Code} {rs : List ResultVar} {W : World} {S : Nat → Prop} {r : Option Nat} {args : List SV} {H : List Blk} {nx : K1},
  Nat.ble (lenL args) k = true → F.body = some x → F.results.toList = rs → (∀ A : Ass, snocF H (.ext 0 A) (fun H' => envF 0 args (fun E => Run ⟨Tryz.prog, TB, k, W, S, none, TBok⟩ x E H' (inK ⟨Tryz.prog, TB, k, W, S, none, TBok⟩ A rs nx)))) → CallK ⟨Tryz.prog, TB, n, W, S, r, TBok⟩ f args H nx
theorem InSt.mk' {f : Nat} {F : Func} {k : Nat} (hf : Tryz.prog.funcs[f]? = some F) (hnm : (F.name == "runtime.NumGoroutine") = false) (hn : F.ntmps = k) : InSt f F k :=
  fun hlen hb hrs h => CallK.inline hf hb hnm hn hlen hrs h
abbrev pv (d : Nat) : Value := .pointer (some ⟨d, 0, none⟩)
/-- the checksums' table -/
def Tab (w : World) : Prop := ∃ t f, w.heap[1]? = some (.cells (crcT.map fun n => Value.int .u32 (.ofNat n)).toArray t f)
theorem Tab.now {W w : World} {ms : List Nat} {H : List Blk} (h : Tab W) (hk : Kn W noS ms H w) : Tab w := by
  obtain ⟨t, f, h0⟩ := h
  exact ⟨t, f, by rw [Kn0.old hk 1 (Array.getElem?_eq_some_iff.1 h0).1 (fun h => h)]; exact h0⟩
theorem Tab.pc {W : World} (h : Tab W) (n : Nat) (hn : n < 16) (nt : Nat) (rr : Option Nat) (H : List Blk) : PC ⟨Tryz.prog, TB, nt, W, noS, rr, TBok⟩ H 1 (0 + ((n : Nat) : Int).toNat * 1) [.v (.int .u32 ((tabN n : Nat) : Int))] := fun ms w hk => by
  obtain ⟨t, f, h0⟩ := h.now hk
  refine ⟨_, t, f, h0, fun j v hj => ?_⟩
  have hl : crcT.length = 16 := rfl
  cases j with
  | zero =>
    obtain rfl : Value.int .u32 ((tabN n : Nat) : Int) = v := by simpa [denL, den] using hj
    simp only [Int.toNat_natCast, Nat.zero_add, Nat.mul_one, Nat.add_zero, List.getElem?_toArray, List.getElem?_map]
    rw [List.getElem?_eq_getElem (by omega)]
    unfold tabN
    rw [List.getD_eq_getElem?_getD, List.getElem?_eq_getElem (by omega)]
    rfl
  | succ j => simp [denL] at hj
theorem eight234 {w : World} (ht : Tab w) {R : Nat} (hR : R < 4294967296) : Pu Tryz.prog 234 #[.int .u32 ((R : Nat) : Int)] w (.int .u32 ((crc4 (crc4 R) : Nat) : Int)) := by
  have hp := ht.pc
  have e1 := crc4_eq R
  have e2 := crc4_eq (crc4 R)
  have h1 := crc4_lt hR
  have t1 := tabN_lt (R % 16)
  have t2 := tabN_lt (crc4 R % 16)
  rw [e2]
  refine enter_sound TBok Tryz.func234 rfl rfl Tryz.ntmps234 [.v (.int .u32 ((R : Nat) : Int))] (Kn.start w noS) rfl rfl ?_
  conv => whnf
  repeat' (first
 | (with_reducible refine r_stop 2 ?_)
 | with_reducible (first | refine r_seq (fun KS hS => ?_) | (refine hS _ _ ?_; clear hS KS) | (refine hA _ ?_; clear hA KA) | (refine hB _ ?_; clear hB KB) | refine r_block ?_)
 | ((with_reducible (first | refine r_region ?_ | refine r_cond (fun KA hA KB hB => ?_) | refine r_ret ?_ | refine r_skip ?_ | refine r_exit ?_ | refine And.intro rfl ?_ | intro b)); conv => whnf)
 | ((with_reducible refine WrapK.i64 ?_ ?_); (focus omega); conv => whnf)
 | ((with_reducible refine OpK.id ?_); (refine OpK.shr rfl rfl rfl (by decide) (shr4 _) ?_); conv => whnf)
 | ((refine BitK.eq (bits_and15 _ (by omega)) ?_); conv => whnf)
 | ((refine BitK.eq (bits_xor32 _ _ (by omega) (by omega)) ?_); conv => whnf)
 | ((with_reducible refine OpK.id ?_); (first | refine OpK.ixP rfl rfl rfl rfl rfl rfl (by omega) (by omega) ?_ | refine OpK.ldp rfl rfl (hp _ (by omega) _ _ _) (List.cons_ne_nil _ _) ?_); conv => whnf)
 | ((with_reducible apply OpK.more); (focus refine sok); (conv => whnf); fail_if_success guard_target =ₛ False)
 | with_reducible (first | refine Rounds.step (fun KL hL => ?_) | (refine hL _ _ ?_; clear hL KL) | refine r_rounds 100 ?_)
 | ((with_reducible (first | refine InAt.mk (fun K' hK => ?_) | refine AnyAt.mk (fun K' hK => ?_) | (refine hK _ ?_; clear hK K') | (refine hK _ _ ?_; clear hK K'))); conv => whnf)
 | ((refine And.intro ?_ ?_); all_goals (conv => whnf))
 | (apply r_quiet; refine mixed; kernel_rfl; kernel_rfl; kernel_rfl; conv => whnf)
 | ((first | refine if_t (by decide) ?_ | refine if_f (by decide) ?_ | refine if_decT (by omega) ?_ | refine if_decF (by omega) ?_ | refine if_ndecT (by omega) ?_ | refine if_ndecF (by omega) ?_); conv => whnf)
 | ((first | refine if_dec (fun h => ?_) (fun h => ?_) | refine if_ndec (fun h => ?_) (fun h => ?_) | refine if_cond (fun h => ?_) (fun h => ?_)); all_goals (conv => whnf))
 | with_reducible apply_assumption -symm -exfalso)
  refine StopR.mk ?_
  rw [← e1]
  repeat' (first
 | with_reducible (first | refine r_seq (fun KS hS => ?_) | (refine hS _ _ ?_; clear hS KS) | (refine hA _ ?_; clear hA KA) | (refine hB _ ?_; clear hB KB) | refine r_block ?_)
 | ((with_reducible (first | refine r_region ?_ | refine r_cond (fun KA hA KB hB => ?_) | refine r_ret ?_ | refine r_skip ?_ | refine r_exit ?_ | refine And.intro rfl ?_ | intro b)); conv => whnf)
 | ((with_reducible refine WrapK.i64 ?_ ?_); (focus omega); conv => whnf)
 | ((with_reducible refine OpK.id ?_); (refine OpK.shr rfl rfl rfl (by decide) (shr4 _) ?_); conv => whnf)
 | ((refine BitK.eq (bits_and15 _ (by omega)) ?_); conv => whnf)
 | ((refine BitK.eq (bits_xor32 _ _ (by omega) (by omega)) ?_); conv => whnf)
 | ((with_reducible refine OpK.id ?_); (first | refine OpK.ixP rfl rfl rfl rfl rfl rfl (by omega) (by omega) ?_ | refine OpK.ldp rfl rfl (hp _ (by omega) _ _ _) (List.cons_ne_nil _ _) ?_); conv => whnf)
 | ((with_reducible apply OpK.more); (focus refine sok); (conv => whnf); fail_if_success guard_target =ₛ False)
 | with_reducible (first | refine Rounds.step (fun KL hL => ?_) | (refine hL _ _ ?_; clear hL KL) | refine r_rounds 100 ?_)
 | ((with_reducible (first | refine InAt.mk (fun K' hK => ?_) | refine AnyAt.mk (fun K' hK => ?_) | (refine hK _ ?_; clear hK K') | (refine hK _ _ ?_; clear hK K'))); conv => whnf)
 | ((refine And.intro ?_ ?_); all_goals (conv => whnf))
 | (apply r_quiet; refine mixed; kernel_rfl; kernel_rfl; kernel_rfl; conv => whnf)
 | ((first | refine if_t (by decide) ?_ | refine if_f (by decide) ?_ | refine if_decT (by omega) ?_ | refine if_decF (by omega) ?_ | refine if_ndecT (by omega) ?_ | refine if_ndecF (by omega) ?_); conv => whnf)
 | ((first | refine if_dec (fun h => ?_) (fun h => ?_) | refine if_ndec (fun h => ?_) (fun h => ?_) | refine if_cond (fun h => ?_) (fun h => ?_)); all_goals (conv => whnf))
 | with_reducible apply_assumption -symm -exfalso)
  exact FinK.pu rfl
section
variable {c : Cx} {o : Oper} {E : Env} {H : List Blk} {nx : K1}
theorem not32 {t : Nat} {x : Operand} (ho : o.op = .unOp .xor t x) {a : Nat} (hx : opd E x = some (.v (.int .u32 ((a : Nat) : Int)))) (ha : a < 4294967296) {z : Nat} (hz : Nat.xor 4294967295 a = z) (h : nx (.v (.int .u32 ((z : Nat) : Int))) H) : OpK c o E H nx := by
  have hnd : ∀ cl, o.op ≠ .defer cl := by rw [ho]; intro cl e; cases e
  refine OpK.val hnd _ (fun ms ac w hac hk => ?_) h
  have e1 := hac.opd hx
  simp only [den] at e1
  subst hz
  have hb := bits_xor32 4294967295 a (by decide) ha
  simp only [bitN] at hb
  simp [execOp, ho, e1, Op.unary, Op.intBits, den]
  exact hb
end
theorem cell_inv {w : World} {b o : Nat} {v : Value} (h : w.cell? ⟨b, o, none⟩ = some v) : ∃ C t f, w.heap[b]? = some (.cells C t f) ∧ C[o]? = some v := by
  unfold World.cell? at h
  simp only [Option.isSome_none, Bool.false_eq_true, if_false] at h
  split at h
  · rename_i C t f hh
    exact ⟨C, t, f, hh, h⟩
  · cases h
def fld (bs : List UInt8) (i : Nat) : Nat := (bs.take i).foldl (fun r c => crc8 c.toNat r) 4294967295
theorem fld_succ (bs : List UInt8) (i : Nat) (hi : i < bs.length) : fld bs (i + 1) = crc8 (bs[i]).toNat (fld bs i) := by
  unfold fld
  rw [List.take_succ, List.getElem?_eq_getElem hi, List.foldl_append]
  rfl
theorem fld_lt (bs : List UInt8) : ∀ i, i ≤ bs.length → fld bs i < 4294967296
  | 0, _ => by unfold fld; simp
  | i + 1, h => by
    rw [fld_succ bs i (by omega)]
    have := (bs[i]).toNat_lt
    exact crc8_lt (by omega) (fld_lt bs i (by omega))
theorem more196 {w : World} (ht : Tab w) {vb vo m vc : Nat} {bs : List UInt8} (hb : ∀ j u, (bcells bs)[j]? = some u → w.cell? ⟨vb, vo + j, none⟩ = some u) (hl : bs.length = m) (hm : m ≤ 1000000) :
    Pu Tryz.prog 196 #[.int .u32 0, .slice (some ⟨vb, vo, none⟩) m vc] w (.int .u32 ((crcV bs : Nat) : Int)) := by
  have hq : ∀ i (hi : i < m) (nt : Nat) (rr : Option Nat) (H : List Blk), PC ⟨Tryz.prog, TB, nt, w, noS, rr, TBok⟩ H vb (vo + ((i : Nat) : Int).toNat * 1) [.v (.int .u8 (((bs[i]'(by omega)).toNat : Nat) : Int))] := by
    intro i hi nt rr H ms w' hk
    have h1 := hb i (.int .u8 (((bs[i]'(by omega)).toNat : Nat) : Int)) (by simp [bcells, bcell, hl, hi])
    obtain ⟨C, t, f, h2, h3⟩ := cell_inv h1
    refine ⟨C, t, f, by rw [Kn0.old hk vb (Array.getElem?_eq_some_iff.1 h2).1 (fun h => h)]; exact h2, fun j v hj => ?_⟩
    cases j with
    | zero =>
      obtain rfl : Value.int .u8 (((bs[i]'(by omega)).toNat : Nat) : Int) = v := by simpa [denL, den] using hj
      simpa using h3
    | succ j => simp [denL] at hj
  refine enter_sound TBok Tryz.func196 rfl rfl Tryz.ntmps196 [.v (.int .u32 0), .v (.slice (some ⟨vb, vo, none⟩) m vc)] (Kn.start w noS) rfl rfl ?_
  conv => whnf
  repeat' (first
 | with_reducible (first | refine r_seq (fun KS hS => ?_) | (refine hS _ _ ?_; clear hS KS) | (refine hA _ ?_; clear hA KA) | (refine hB _ ?_; clear hB KB) | refine r_block ?_)
 | ((with_reducible (first | refine r_region ?_ | refine r_cond (fun KA hA KB hB => ?_) | refine r_ret ?_ | refine r_skip ?_ | refine r_exit ?_ | refine And.intro rfl ?_ | intro b)); conv => whnf)
 | ((with_reducible refine WrapK.i64 ?_ ?_); (focus omega); conv => whnf)
 | ((refine not32 (a := 0) (z := 4294967295) rfl rfl (by omega) rfl ?_); conv => whnf)
 | ((with_reducible apply OpK.more); (focus refine sok); (conv => whnf); fail_if_success guard_target =ₛ False)
 | ((with_reducible (first | refine InAt.mk (fun K' hK => ?_) | refine AnyAt.mk (fun K' hK => ?_) | (refine hK _ ?_; clear hK K') | (refine hK _ _ ?_; clear hK K'))); conv => whnf)
 | ((refine And.intro ?_ ?_); all_goals (conv => whnf))
 | (apply r_quiet; refine mixed; kernel_rfl; kernel_rfl; kernel_rfl; conv => whnf)
 | ((first | refine if_t (by decide) ?_ | refine if_f (by decide) ?_ | refine if_decT (by omega) ?_ | refine if_decF (by omega) ?_ | refine if_ndecT (by omega) ?_ | refine if_ndecF (by omega) ?_); conv => whnf)
 | ((first | refine if_dec (fun h => ?_) (fun h => ?_) | refine if_ndec (fun h => ?_) (fun h => ?_) | refine if_cond (fun h => ?_) (fun h => ?_)); all_goals (conv => whnf))
 | with_reducible apply_assumption -symm -exfalso)
  refine r_loop (α := Nat) (fun i => [(4, .v (.int .u32 0)), (5, .v (.int .u32 ((fld bs i : Nat) : Int))), (10, .v (.slice (some ⟨vb, vo, none⟩) m vc)), (11, .v (.int .i64 ((m : Nat) : Int))), (12, .v (.int .i64 ((i : Nat) : Int)))]) (fun _ => []) (fun i => i ≤ m) (fun i => m - i) 0 (Nat.zero_le _) (by repeat' (first | exact Sub.nil | (refine Sub.cons rfl rfl ?_))) (HSub.none _) ?_
  intro i hi KL2 hL2
  have hR := fld_lt bs i (by omega)
  by_cases hlt : i < m
  · have hc := (bs[i]'(by omega)).toNat_lt
    have hx := xor_lt32 hR (show (bs[i]'(by omega)).toNat < 4294967296 by omega)
    have hs := fld_succ bs i (by omega)
    have h8 : Value.int .u32 ((crc4 (crc4 (Nat.xor (fld bs i) (bs[i]'(by omega)).toNat)) : Nat) : Int) = Value.int .u32 ((fld bs (i + 1) : Nat) : Int) := by rw [hs]; rfl
    repeat' (first
 | with_reducible (first | refine r_seq (fun KS hS => ?_) | (refine hS _ _ ?_; clear hS KS) | (refine hA _ ?_; clear hA KA) | (refine hB _ ?_; clear hB KB) | refine r_block ?_)
 | ((with_reducible (first | refine r_region ?_ | refine r_cond (fun KA hA KB hB => ?_) | refine r_ret ?_ | refine r_skip ?_ | refine r_exit ?_ | refine And.intro rfl ?_ | intro b)); conv => whnf)
 | ((with_reducible refine WrapK.i64 ?_ ?_); (focus omega); conv => whnf)
 | ((with_reducible refine OpK.id ?_); (first | refine OpK.idxX (k := 1) rfl rfl rfl rfl rfl rfl rfl (by omega) (by omega) ?_ | refine OpK.ldp rfl rfl (hq i hlt _ _ _) (List.cons_ne_nil _ _) ?_); conv => whnf)
 | ((with_reducible refine WrapK.id ?_); refine WrapK.eq (IntWalk.u32_in _ (by omega)) ?_; conv => whnf)
 | ((refine BitK.eq (bits_xor32 _ _ (by omega) (by omega)) ?_); conv => whnf)
 | ((with_reducible refine CallK.at 234 ?_); refine CallK.puW (fun ms w hk => (eight234 (ht.now hk) hx).congr h8) ?_; conv => whnf)
 | ((with_reducible refine WrapK.id ?_); refine WrapK.eq (z' := ((i + 1 : Nat) : Int)) (by rw [IntKind.wrap_i64]; omega) ?_; conv => whnf)
 | (refine hL2 (i + 1) _ _ (by show i + 1 ≤ m; omega) (by show m - (i + 1) < m - i; omega) (by repeat' (first | exact Sub.nil | (refine Sub.cons rfl rfl ?_))) (HSub.none _))
 | ((with_reducible apply OpK.more); (focus refine sok); (conv => whnf); fail_if_success guard_target =ₛ False)
 | ((with_reducible (first | refine InAt.mk (fun K' hK => ?_) | refine AnyAt.mk (fun K' hK => ?_) | (refine hK _ ?_; clear hK K') | (refine hK _ _ ?_; clear hK K'))); conv => whnf)
 | ((refine And.intro ?_ ?_); all_goals (conv => whnf))
 | (apply r_quiet; refine mixed; kernel_rfl; kernel_rfl; kernel_rfl; conv => whnf)
 | ((first | refine if_t (by decide) ?_ | refine if_f (by decide) ?_ | refine if_decT (by omega) ?_ | refine if_decF (by omega) ?_ | refine if_ndecT (by omega) ?_ | refine if_ndecF (by omega) ?_); conv => whnf)
 | ((first | refine if_dec (fun h => ?_) (fun h => ?_) | refine if_ndec (fun h => ?_) (fun h => ?_) | refine if_cond (fun h => ?_) (fun h => ?_)); all_goals (conv => whnf))
 | with_reducible apply_assumption -symm -exfalso)
  obtain rfl : i = m := by omega
  have hcv : Nat.xor 4294967295 (fld bs i) = crcV bs := by
    unfold crcV fld
    rw [List.take_of_length_le (by omega)]
    exact Nat.xor_comm _ _
  repeat' (first
 | with_reducible (first | refine r_seq (fun KS hS => ?_) | (refine hS _ _ ?_; clear hS KS) | (refine hA _ ?_; clear hA KA) | (refine hB _ ?_; clear hB KB) | refine r_block ?_)
 | ((with_reducible (first | refine r_region ?_ | refine r_cond (fun KA hA KB hB => ?_) | refine r_ret ?_ | refine r_skip ?_ | refine r_exit ?_ | refine And.intro rfl ?_ | intro b)); conv => whnf)
 | ((with_reducible refine WrapK.i64 ?_ ?_); (focus omega); conv => whnf)
 | ((refine not32 (a := fld bs i) (z := crcV bs) rfl rfl hR hcv ?_); conv => whnf)
 | ((with_reducible apply OpK.more); (focus refine sok); (conv => whnf); fail_if_success guard_target =ₛ False)
 | with_reducible (first | refine Rounds.step (fun KL hL => ?_) | (refine hL _ _ ?_; clear hL KL) | refine r_rounds 100 ?_)
 | ((with_reducible (first | refine InAt.mk (fun K' hK => ?_) | refine AnyAt.mk (fun K' hK => ?_) | (refine hK _ ?_; clear hK K') | (refine hK _ _ ?_; clear hK K'))); conv => whnf)
 | ((refine And.intro ?_ ?_); all_goals (conv => whnf))
 | (apply r_quiet; refine mixed; kernel_rfl; kernel_rfl; kernel_rfl; conv => whnf)
 | ((first | refine if_t (by decide) ?_ | refine if_f (by decide) ?_ | refine if_decT (by omega) ?_ | refine if_decF (by omega) ?_ | refine if_ndecT (by omega) ?_ | refine if_ndecF (by omega) ?_); conv => whnf)
 | ((first | refine if_dec (fun h => ?_) (fun h => ?_) | refine if_ndec (fun h => ?_) (fun h => ?_) | refine if_cond (fun h => ?_) (fun h => ?_)); all_goals (conv => whnf))
 | with_reducible apply_assumption -symm -exfalso)
  exact FinK.pu rfl
theorem sum134 {w : World} (htab : Tab w) {vb vo m vc : Nat} {bs : List UInt8} (hb : ∀ j u, (bcells bs)[j]? = some u → w.cell? ⟨vb, vo + j, none⟩ = some u) (hl : bs.length = m) (hm : m ≤ 1000000) :
    Pu Tryz.prog 134 #[.slice (some ⟨vb, vo, none⟩) m vc] w (.int .u32 ((crcV bs : Nat) : Int)) := by
  have hbk : ∀ ms (w' : World) {H : List Blk}, Kn w noS ms H w' → ∀ j u, (bcells bs)[j]? = some u → w'.cell? ⟨vb, vo + j, none⟩ = some u := by
    intro ms w' H hk j u hj
    obtain ⟨C, t, f, h1, h2⟩ := cell_inv (hb j u hj)
    have h3 : w'.heap[vb]? = some (.cells C t f) := by rw [Kn0.old hk vb (Array.getElem?_eq_some_iff.1 h1).1 (fun h => h)]; exact h1
    simp [World.cell?, h3, h2]
  refine enter_sound TBok Tryz.func134 rfl rfl Tryz.ntmps134 [.v (.slice (some ⟨vb, vo, none⟩) m vc)] (Kn.start w noS) rfl rfl ?_
  conv => whnf
  repeat' (first
 | with_reducible (first | refine r_seq (fun KS hS => ?_) | (refine hS _ _ ?_; clear hS KS) | (refine hA _ ?_; clear hA KA) | (refine hB _ ?_; clear hB KB) | refine r_block ?_)
 | ((with_reducible (first | refine r_region ?_ | refine r_cond (fun KA hA KB hB => ?_) | refine r_ret ?_ | refine r_skip ?_ | refine r_exit ?_ | refine And.intro rfl ?_ | intro b)); conv => whnf)
 | ((with_reducible refine WrapK.i64 ?_ ?_); (focus omega); conv => whnf)
 | ((with_reducible refine CallK.at 196 ?_); refine CallK.puW (fun ms w' hk => more196 (htab.now hk) (fun j u hj => hbk ms w' hk j u hj) hl hm) ?_; conv => whnf)
 | ((with_reducible apply OpK.more); (focus refine sok); (conv => whnf); fail_if_success guard_target =ₛ False)
 | with_reducible (first | refine Rounds.step (fun KL hL => ?_) | (refine hL _ _ ?_; clear hL KL) | refine r_rounds 100 ?_)
 | ((with_reducible (first | refine InAt.mk (fun K' hK => ?_) | refine AnyAt.mk (fun K' hK => ?_) | (refine hK _ ?_; clear hK K') | (refine hK _ _ ?_; clear hK K'))); conv => whnf)
 | ((refine And.intro ?_ ?_); all_goals (conv => whnf))
 | (apply r_quiet; refine mixed; kernel_rfl; kernel_rfl; kernel_rfl; conv => whnf)
 | ((first | refine if_t (by decide) ?_ | refine if_f (by decide) ?_ | refine if_decT (by omega) ?_ | refine if_decF (by omega) ?_ | refine if_ndecT (by omega) ?_ | refine if_ndecF (by omega) ?_); conv => whnf)
 | ((first | refine if_dec (fun h => ?_) (fun h => ?_) | refine if_ndec (fun h => ?_) (fun h => ?_) | refine if_cond (fun h => ?_) (fun h => ?_)); all_goals (conv => whnf))
 | with_reducible apply_assumption -symm -exfalso)
  exact FinK.pu rfl
end Go.Proofs.YtcafebjoanjgoaaGreatDoor
