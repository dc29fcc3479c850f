/-
  NARROWER THAN 'FOR EVERY INPUT', by the rows' own cells (each row's printed sentence says how): OrchOnce: laid · OrchTold: laid · OrchRoutes: laid · OrchItems: laid · OrchFull: laid · OrchEnds: laid · OrchStays: laid · OrchAgain: laid.
  DERIVED. THE GIVEN ROWS OF THIS SEAT. 8 by the template 'for every input the law returns true; each argument reads behind the call as it read before'; 0 by the template 'total and deterministic' (their statements: YtjkmpaggfbghiaaGreatDoorTotals.lean).
  GIVEN WITH THE SEED: the statements are not yours to turn. If you find one false, say at which input.
  Laid BY PROGRAM, IN A SANDBOX (cutbox-rows.mjs): the forced cells as the released guide's own fill.sh prints them over the translation 33f9c0cec867e11e… (all of the seat's roots in one cut). By AI agents, Wed Nov 11 2026. No macro, syntax, notation, axiom, sorry.
-/
import Derived.Test.YtjkmpaggfbghiaaGreatDoorChecked
import GoSem.PinnedTables
import GoSem.Claim
import GoSem.ClaimJoined
import GoSem.ClaimMapViews
import Derived.JoinedTies
import Derived.KernelRfl
namespace Go.Proofs.YtjkmpaggfbghiaaGreatDoor
/- THE CELL 'sum', in the pinned program and in every row, IS THE sha256 OF THE DUMP (.gsa) THAT YtjkmpaggfbghiaaGreatDoorProg.lean LOADS. Nothing in Lean hashes anything: it is a label: what it is worth is what the hold of that sum in a sandbox is worth. -/
noncomputable def Tryz.pinned : Pinned := { name := "ytjkmpaggfbghiaagreatdoor", sum := "33f9c0cec867e11ef0c84b84d4cc753de00d963c3b6e2a88e050b51843f5eb7d", checked := Tryz.checked }
namespace Rows
def none {H : Type} : Left H := { results := [], args := [] }

/- WHAT THE LISTED PACKAGE-LEVEL VARIABLES READ AS WHEN THE CALL BEGINS. Each datum BY PROGRAM (the guide's laid-datum.mjs) off the statement by which the dump's own 'gosem.cut.vars' lays the variable. In a bare row this is a premise. The card (YtjkmpaggfbghiaaGreatDoorCards.lean) ties it to the program's text. -/
def laid_math_bits_deBruijn32tab {H : Type} : DataW H := .agg [.lit (.int .u8 0), .lit (.int .u8 1), .lit (.int .u8 28), .lit (.int .u8 2), .lit (.int .u8 29), .lit (.int .u8 14), .lit (.int .u8 24), .lit (.int .u8 3), .lit (.int .u8 30), .lit (.int .u8 22), .lit (.int .u8 20), .lit (.int .u8 15), .lit (.int .u8 25), .lit (.int .u8 17), .lit (.int .u8 4), .lit (.int .u8 8), .lit (.int .u8 31), .lit (.int .u8 27), .lit (.int .u8 13), .lit (.int .u8 23), .lit (.int .u8 21), .lit (.int .u8 19), .lit (.int .u8 16), .lit (.int .u8 7), .lit (.int .u8 26), .lit (.int .u8 12), .lit (.int .u8 18), .lit (.int .u8 6), .lit (.int .u8 11), .lit (.int .u8 5), .lit (.int .u8 10), .lit (.int .u8 9)]
def laid_math_bits_deBruijn64tab {H : Type} : DataW H := .agg [.lit (.int .u8 0), .lit (.int .u8 1), .lit (.int .u8 56), .lit (.int .u8 2), .lit (.int .u8 57), .lit (.int .u8 49), .lit (.int .u8 28), .lit (.int .u8 3), .lit (.int .u8 61), .lit (.int .u8 58), .lit (.int .u8 42), .lit (.int .u8 50), .lit (.int .u8 38), .lit (.int .u8 29), .lit (.int .u8 17), .lit (.int .u8 4), .lit (.int .u8 62), .lit (.int .u8 47), .lit (.int .u8 59), .lit (.int .u8 36), .lit (.int .u8 45), .lit (.int .u8 43), .lit (.int .u8 51), .lit (.int .u8 22), .lit (.int .u8 53), .lit (.int .u8 39), .lit (.int .u8 33), .lit (.int .u8 30), .lit (.int .u8 24), .lit (.int .u8 18), .lit (.int .u8 12), .lit (.int .u8 5), .lit (.int .u8 63), .lit (.int .u8 55), .lit (.int .u8 48), .lit (.int .u8 27), .lit (.int .u8 60), .lit (.int .u8 41), .lit (.int .u8 37), .lit (.int .u8 16), .lit (.int .u8 46), .lit (.int .u8 35), .lit (.int .u8 44), .lit (.int .u8 21), .lit (.int .u8 52), .lit (.int .u8 32), .lit (.int .u8 23), .lit (.int .u8 11), .lit (.int .u8 54), .lit (.int .u8 26), .lit (.int .u8 40), .lit (.int .u8 15), .lit (.int .u8 34), .lit (.int .u8 20), .lit (.int .u8 31), .lit (.int .u8 10), .lit (.int .u8 25), .lit (.int .u8 14), .lit (.int .u8 19), .lit (.int .u8 9), .lit (.int .u8 13), .lit (.int .u8 8), .lit (.int .u8 7), .lit (.int .u8 6)]
def laid_internal_strconv_uint64pow10 {H : Type} : DataW H := .agg [.lit (.int .u64 1), .lit (.int .u64 10), .lit (.int .u64 100), .lit (.int .u64 1000), .lit (.int .u64 10000), .lit (.int .u64 100000), .lit (.int .u64 1000000), .lit (.int .u64 10000000), .lit (.int .u64 100000000), .lit (.int .u64 1000000000), .lit (.int .u64 10000000000), .lit (.int .u64 100000000000), .lit (.int .u64 1000000000000), .lit (.int .u64 10000000000000), .lit (.int .u64 100000000000000), .lit (.int .u64 1000000000000000), .lit (.int .u64 10000000000000000), .lit (.int .u64 100000000000000000), .lit (.int .u64 1000000000000000000), .lit (.int .u64 10000000000000000000)]
def laid_unicode_utf8_acceptRanges {H : Type} : DataW H := .agg [.agg [.lit (.int .u8 128), .lit (.int .u8 191)], .agg [.lit (.int .u8 160), .lit (.int .u8 191)], .agg [.lit (.int .u8 128), .lit (.int .u8 159)], .agg [.lit (.int .u8 144), .lit (.int .u8 191)], .agg [.lit (.int .u8 128), .lit (.int .u8 143)], .agg [.lit (.int .u8 0), .lit (.int .u8 0)], .agg [.lit (.int .u8 0), .lit (.int .u8 0)], .agg [.lit (.int .u8 0), .lit (.int .u8 0)], .agg [.lit (.int .u8 0), .lit (.int .u8 0)], .agg [.lit (.int .u8 0), .lit (.int .u8 0)], .agg [.lit (.int .u8 0), .lit (.int .u8 0)], .agg [.lit (.int .u8 0), .lit (.int .u8 0)], .agg [.lit (.int .u8 0), .lit (.int .u8 0)], .agg [.lit (.int .u8 0), .lit (.int .u8 0)], .agg [.lit (.int .u8 0), .lit (.int .u8 0)], .agg [.lit (.int .u8 0), .lit (.int .u8 0)]]
def laid_skald_saga_phases {H : Type} : DataW H := .agg [.lit (.int .i64 0), .lit (.int .i64 1), .lit (.int .i64 3), .lit (.int .i64 2)]
def laid_skald_saga_follow {H : Type} : DataW H := .iface "func table" (.agg [.nil, .iface "func" (.lit (.string [40, 115, 107, 97, 108, 100, 47, 115, 97, 103, 97, 46, 83, 97, 103, 97, 41, 46, 102, 111, 114, 119, 97, 114, 100])), .iface "func" (.lit (.string [40, 115, 107, 97, 108, 100, 47, 115, 97, 103, 97, 46, 83, 97, 103, 97, 41, 46, 102, 114, 101, 101])), .iface "func" (.lit (.string [40, 115, 107, 97, 108, 100, 47, 115, 97, 103, 97, 46, 83, 97, 103, 97, 41, 46, 117, 110, 100, 111]))])
/-- One of Go's own tables, pinned by name: the form's constant. -/
def laid_unicode_utf8_first : DataW Unit := Go.Pinned.utf8First

/-- 'skaldlaw35.OrchOnce': WHATEVER THE INPUT: true; the input reads as it did. -/
def orchOnceSpec : ChangeSpec := { name := "orchOnce", fn := fun _ => fun
  | [d1, d2, d3] => { results := [.lit (.bool true)], args := [d1, d2, d3] }
  | _ => none }
def orchOnceRow : OpenClaim := { program := "ytjkmpaggfbghiaagreatdoor", sum := "33f9c0cec867e11ef0c84b84d4cc753de00d963c3b6e2a88e050b51843f5eb7d", func := "skald/skaldlaw35.OrchOnce", spec := "orchOnce", inPlace := ["internal/bytealg.IndexByteString", "internal/bytealg.IndexString", "internal/abi.NoEscape", "internal/bytealg.MakeNoZero"], unfollowed := true, recurses := true, named := ["skald/saga.phases", "unicode/utf8.first", "unicode/utf8.acceptRanges", "skald/saga.follow", "internal/strconv.uint64pow10", "math/bits.deBruijn32tab", "math/bits.deBruijn64tab", "internal/bytealg.MaxLen"], apart := false, laid := [("math/bits.deBruijn32tab", laid_math_bits_deBruijn32tab), ("math/bits.deBruijn64tab", laid_math_bits_deBruijn64tab), ("internal/strconv.uint64pow10", laid_internal_strconv_uint64pow10), ("unicode/utf8.acceptRanges", laid_unicode_utf8_acceptRanges), ("skald/saga.phases", laid_skald_saga_phases), ("skald/saga.follow", laid_skald_saga_follow), ("unicode/utf8.first", laid_unicode_utf8_first)] }
def OrchOnceSaid : Prop := orchOnceRow.holds Tryz.pinned (OpenSpec.ofChange orchOnceSpec)

/-- ITS FALSE NEIGHBOUR: 'it returns false'. Refute it at one input. -/
def orchOnceWrong : ChangeSpec := { name := "orchOnce", fn := fun _ => fun
  | [d1, d2, d3] => { results := [.lit (.bool false)], args := [d1, d2, d3] }
  | _ => none }
def OrchOnceWrongFalsely : Prop := orchOnceRow.holds Tryz.pinned (OpenSpec.ofChange orchOnceWrong)

/-- 'skaldlaw35.OrchTold': WHATEVER THE INPUT: true; the input reads as it did. -/
def orchToldSpec : ChangeSpec := { name := "orchTold", fn := fun _ => fun
  | [d1, d2] => { results := [.lit (.bool true)], args := [d1, d2] }
  | _ => none }
def orchToldRow : OpenClaim := { program := "ytjkmpaggfbghiaagreatdoor", sum := "33f9c0cec867e11ef0c84b84d4cc753de00d963c3b6e2a88e050b51843f5eb7d", func := "skald/skaldlaw35.OrchTold", spec := "orchTold", inPlace := ["internal/bytealg.IndexByteString", "internal/bytealg.IndexString", "internal/abi.NoEscape", "internal/bytealg.MakeNoZero"], unfollowed := true, recurses := true, named := ["skald/saga.phases", "unicode/utf8.first", "unicode/utf8.acceptRanges", "skald/saga.follow", "internal/strconv.uint64pow10", "math/bits.deBruijn32tab", "math/bits.deBruijn64tab", "internal/bytealg.MaxLen"], apart := false, laid := [("math/bits.deBruijn32tab", laid_math_bits_deBruijn32tab), ("math/bits.deBruijn64tab", laid_math_bits_deBruijn64tab), ("internal/strconv.uint64pow10", laid_internal_strconv_uint64pow10), ("unicode/utf8.acceptRanges", laid_unicode_utf8_acceptRanges), ("skald/saga.phases", laid_skald_saga_phases), ("skald/saga.follow", laid_skald_saga_follow), ("unicode/utf8.first", laid_unicode_utf8_first)] }
def OrchToldSaid : Prop := orchToldRow.holds Tryz.pinned (OpenSpec.ofChange orchToldSpec)

/-- ITS FALSE NEIGHBOUR: 'it returns false'. Refute it at one input. -/
def orchToldWrong : ChangeSpec := { name := "orchTold", fn := fun _ => fun
  | [d1, d2] => { results := [.lit (.bool false)], args := [d1, d2] }
  | _ => none }
def OrchToldWrongFalsely : Prop := orchToldRow.holds Tryz.pinned (OpenSpec.ofChange orchToldWrong)

/-- 'skaldlaw35.OrchRoutes': WHATEVER THE INPUT: true; the input reads as it did. -/
def orchRoutesSpec : ChangeSpec := { name := "orchRoutes", fn := fun _ => fun
  | [d1, d2] => { results := [.lit (.bool true)], args := [d1, d2] }
  | _ => none }
def orchRoutesRow : OpenClaim := { program := "ytjkmpaggfbghiaagreatdoor", sum := "33f9c0cec867e11ef0c84b84d4cc753de00d963c3b6e2a88e050b51843f5eb7d", func := "skald/skaldlaw35.OrchRoutes", spec := "orchRoutes", inPlace := ["internal/bytealg.IndexByteString", "internal/bytealg.IndexString", "internal/abi.NoEscape", "internal/bytealg.MakeNoZero"], unfollowed := true, recurses := true, named := ["skald/saga.phases", "unicode/utf8.first", "unicode/utf8.acceptRanges", "skald/saga.follow", "internal/strconv.uint64pow10", "math/bits.deBruijn32tab", "math/bits.deBruijn64tab", "internal/bytealg.MaxLen"], apart := false, laid := [("math/bits.deBruijn32tab", laid_math_bits_deBruijn32tab), ("math/bits.deBruijn64tab", laid_math_bits_deBruijn64tab), ("internal/strconv.uint64pow10", laid_internal_strconv_uint64pow10), ("unicode/utf8.acceptRanges", laid_unicode_utf8_acceptRanges), ("skald/saga.phases", laid_skald_saga_phases), ("skald/saga.follow", laid_skald_saga_follow), ("unicode/utf8.first", laid_unicode_utf8_first)] }
def OrchRoutesSaid : Prop := orchRoutesRow.holds Tryz.pinned (OpenSpec.ofChange orchRoutesSpec)

/-- ITS FALSE NEIGHBOUR: 'it returns false'. Refute it at one input. -/
def orchRoutesWrong : ChangeSpec := { name := "orchRoutes", fn := fun _ => fun
  | [d1, d2] => { results := [.lit (.bool false)], args := [d1, d2] }
  | _ => none }
def OrchRoutesWrongFalsely : Prop := orchRoutesRow.holds Tryz.pinned (OpenSpec.ofChange orchRoutesWrong)

/-- 'skaldlaw35.OrchItems': WHATEVER THE INPUT: true; the input reads as it did. -/
def orchItemsSpec : ChangeSpec := { name := "orchItems", fn := fun _ => fun
  | [d] => { results := [.lit (.bool true)], args := [d] }
  | _ => none }
def orchItemsRow : OpenClaim := { program := "ytjkmpaggfbghiaagreatdoor", sum := "33f9c0cec867e11ef0c84b84d4cc753de00d963c3b6e2a88e050b51843f5eb7d", func := "skald/skaldlaw35.OrchItems", spec := "orchItems", inPlace := ["internal/bytealg.IndexByteString", "internal/bytealg.IndexString", "internal/abi.NoEscape", "internal/bytealg.MakeNoZero"], unfollowed := true, recurses := true, named := ["skald/saga.phases", "unicode/utf8.first", "unicode/utf8.acceptRanges", "skald/saga.follow", "internal/strconv.uint64pow10", "math/bits.deBruijn32tab", "math/bits.deBruijn64tab", "internal/bytealg.MaxLen"], apart := false, laid := [("math/bits.deBruijn32tab", laid_math_bits_deBruijn32tab), ("math/bits.deBruijn64tab", laid_math_bits_deBruijn64tab), ("internal/strconv.uint64pow10", laid_internal_strconv_uint64pow10), ("unicode/utf8.acceptRanges", laid_unicode_utf8_acceptRanges), ("skald/saga.phases", laid_skald_saga_phases), ("skald/saga.follow", laid_skald_saga_follow), ("unicode/utf8.first", laid_unicode_utf8_first)] }
def OrchItemsSaid : Prop := orchItemsRow.holds Tryz.pinned (OpenSpec.ofChange orchItemsSpec)

/-- ITS FALSE NEIGHBOUR: 'it returns false'. Refute it at one input. -/
def orchItemsWrong : ChangeSpec := { name := "orchItems", fn := fun _ => fun
  | [d] => { results := [.lit (.bool false)], args := [d] }
  | _ => none }
def OrchItemsWrongFalsely : Prop := orchItemsRow.holds Tryz.pinned (OpenSpec.ofChange orchItemsWrong)

/-- 'skaldlaw35.OrchFull': WHATEVER THE INPUT: true; the input reads as it did. -/
def orchFullSpec : ChangeSpec := { name := "orchFull", fn := fun _ => fun
  | [] => { results := [.lit (.bool true)], args := [] }
  | _ => none }
def orchFullRow : OpenClaim := { program := "ytjkmpaggfbghiaagreatdoor", sum := "33f9c0cec867e11ef0c84b84d4cc753de00d963c3b6e2a88e050b51843f5eb7d", func := "skald/skaldlaw35.OrchFull", spec := "orchFull", inPlace := ["internal/bytealg.IndexByteString", "internal/bytealg.IndexString", "internal/abi.NoEscape", "internal/bytealg.MakeNoZero"], unfollowed := true, recurses := true, named := ["unicode/utf8.first", "unicode/utf8.acceptRanges", "skald/saga.phases", "skald/saga.follow", "internal/strconv.uint64pow10", "math/bits.deBruijn32tab", "math/bits.deBruijn64tab", "internal/bytealg.MaxLen"], apart := false, laid := [("math/bits.deBruijn32tab", laid_math_bits_deBruijn32tab), ("math/bits.deBruijn64tab", laid_math_bits_deBruijn64tab), ("internal/strconv.uint64pow10", laid_internal_strconv_uint64pow10), ("unicode/utf8.acceptRanges", laid_unicode_utf8_acceptRanges), ("skald/saga.phases", laid_skald_saga_phases), ("skald/saga.follow", laid_skald_saga_follow), ("unicode/utf8.first", laid_unicode_utf8_first)] }
def OrchFullSaid : Prop := orchFullRow.holds Tryz.pinned (OpenSpec.ofChange orchFullSpec)

/-- ITS FALSE NEIGHBOUR: 'it returns false'. Refute it at one input. -/
def orchFullWrong : ChangeSpec := { name := "orchFull", fn := fun _ => fun
  | [] => { results := [.lit (.bool false)], args := [] }
  | _ => none }
def OrchFullWrongFalsely : Prop := orchFullRow.holds Tryz.pinned (OpenSpec.ofChange orchFullWrong)

/-- 'skaldlaw35.OrchEnds': WHATEVER THE INPUT: true; the input reads as it did. -/
def orchEndsSpec : ChangeSpec := { name := "orchEnds", fn := fun _ => fun
  | [d1, d2] => { results := [.lit (.bool true)], args := [d1, d2] }
  | _ => none }
def orchEndsRow : OpenClaim := { program := "ytjkmpaggfbghiaagreatdoor", sum := "33f9c0cec867e11ef0c84b84d4cc753de00d963c3b6e2a88e050b51843f5eb7d", func := "skald/skaldlaw35.OrchEnds", spec := "orchEnds", inPlace := ["internal/bytealg.IndexByteString", "internal/bytealg.IndexString", "internal/abi.NoEscape", "internal/bytealg.MakeNoZero"], unfollowed := true, recurses := true, named := ["skald/saga.phases", "unicode/utf8.first", "unicode/utf8.acceptRanges", "skald/saga.follow", "internal/strconv.uint64pow10", "math/bits.deBruijn32tab", "math/bits.deBruijn64tab", "internal/bytealg.MaxLen"], apart := false, laid := [("math/bits.deBruijn32tab", laid_math_bits_deBruijn32tab), ("math/bits.deBruijn64tab", laid_math_bits_deBruijn64tab), ("internal/strconv.uint64pow10", laid_internal_strconv_uint64pow10), ("unicode/utf8.acceptRanges", laid_unicode_utf8_acceptRanges), ("skald/saga.phases", laid_skald_saga_phases), ("skald/saga.follow", laid_skald_saga_follow), ("unicode/utf8.first", laid_unicode_utf8_first)] }
def OrchEndsSaid : Prop := orchEndsRow.holds Tryz.pinned (OpenSpec.ofChange orchEndsSpec)

/-- ITS FALSE NEIGHBOUR: 'it returns false'. Refute it at one input. -/
def orchEndsWrong : ChangeSpec := { name := "orchEnds", fn := fun _ => fun
  | [d1, d2] => { results := [.lit (.bool false)], args := [d1, d2] }
  | _ => none }
def OrchEndsWrongFalsely : Prop := orchEndsRow.holds Tryz.pinned (OpenSpec.ofChange orchEndsWrong)

/-- 'skaldlaw35.OrchStays': WHATEVER THE INPUT: true; the input reads as it did. -/
def orchStaysSpec : ChangeSpec := { name := "orchStays", fn := fun _ => fun
  | [d1, d2, d3] => { results := [.lit (.bool true)], args := [d1, d2, d3] }
  | _ => none }
def orchStaysRow : OpenClaim := { program := "ytjkmpaggfbghiaagreatdoor", sum := "33f9c0cec867e11ef0c84b84d4cc753de00d963c3b6e2a88e050b51843f5eb7d", func := "skald/skaldlaw35.OrchStays", spec := "orchStays", inPlace := ["internal/bytealg.IndexByteString", "internal/bytealg.IndexString", "internal/abi.NoEscape", "internal/bytealg.MakeNoZero"], unfollowed := true, recurses := true, named := ["skald/saga.phases", "unicode/utf8.first", "unicode/utf8.acceptRanges", "skald/saga.follow", "internal/strconv.uint64pow10", "math/bits.deBruijn32tab", "math/bits.deBruijn64tab", "internal/bytealg.MaxLen"], apart := false, laid := [("math/bits.deBruijn32tab", laid_math_bits_deBruijn32tab), ("math/bits.deBruijn64tab", laid_math_bits_deBruijn64tab), ("internal/strconv.uint64pow10", laid_internal_strconv_uint64pow10), ("unicode/utf8.acceptRanges", laid_unicode_utf8_acceptRanges), ("skald/saga.phases", laid_skald_saga_phases), ("skald/saga.follow", laid_skald_saga_follow), ("unicode/utf8.first", laid_unicode_utf8_first)] }
def OrchStaysSaid : Prop := orchStaysRow.holds Tryz.pinned (OpenSpec.ofChange orchStaysSpec)

/-- ITS FALSE NEIGHBOUR: 'it returns false'. Refute it at one input. -/
def orchStaysWrong : ChangeSpec := { name := "orchStays", fn := fun _ => fun
  | [d1, d2, d3] => { results := [.lit (.bool false)], args := [d1, d2, d3] }
  | _ => none }
def OrchStaysWrongFalsely : Prop := orchStaysRow.holds Tryz.pinned (OpenSpec.ofChange orchStaysWrong)

/-- 'skaldlaw35.OrchAgain': WHATEVER THE INPUT: true; the input reads as it did. -/
def orchAgainSpec : ChangeSpec := { name := "orchAgain", fn := fun _ => fun
  | [d1, d2] => { results := [.lit (.bool true)], args := [d1, d2] }
  | _ => none }
def orchAgainRow : OpenClaim := { program := "ytjkmpaggfbghiaagreatdoor", sum := "33f9c0cec867e11ef0c84b84d4cc753de00d963c3b6e2a88e050b51843f5eb7d", func := "skald/skaldlaw35.OrchAgain", spec := "orchAgain", inPlace := ["internal/bytealg.IndexByteString", "internal/bytealg.IndexString", "internal/abi.NoEscape", "internal/bytealg.MakeNoZero"], unfollowed := true, recurses := true, named := ["skald/saga.phases", "unicode/utf8.first", "unicode/utf8.acceptRanges", "skald/saga.follow", "internal/strconv.uint64pow10", "math/bits.deBruijn32tab", "math/bits.deBruijn64tab", "internal/bytealg.MaxLen"], apart := false, laid := [("math/bits.deBruijn32tab", laid_math_bits_deBruijn32tab), ("math/bits.deBruijn64tab", laid_math_bits_deBruijn64tab), ("internal/strconv.uint64pow10", laid_internal_strconv_uint64pow10), ("unicode/utf8.acceptRanges", laid_unicode_utf8_acceptRanges), ("skald/saga.phases", laid_skald_saga_phases), ("skald/saga.follow", laid_skald_saga_follow), ("unicode/utf8.first", laid_unicode_utf8_first)] }
def OrchAgainSaid : Prop := orchAgainRow.holds Tryz.pinned (OpenSpec.ofChange orchAgainSpec)

/-- ITS FALSE NEIGHBOUR: 'it returns false'. Refute it at one input. -/
def orchAgainWrong : ChangeSpec := { name := "orchAgain", fn := fun _ => fun
  | [d1, d2] => { results := [.lit (.bool false)], args := [d1, d2] }
  | _ => none }
def OrchAgainWrongFalsely : Prop := orchAgainRow.holds Tryz.pinned (OpenSpec.ofChange orchAgainWrong)

/- THE SECOND FORM. 'bulk': how many values and letters a reading holds, each counted each time it is reached (what is shared counts as often as it is met; a slice's spare places count too). A statement '..UptoSaid' is the law's where the arguments, and the package variables that the reading takes, are together of bulk at most 1048576: NARROWER than '..Said'. Prove '..Said' where nothing that the law and all that it calls make is longer than what came in: it says more and counts as full. Else prove '..UptoSaid'. A law counts once. -/
mutual
def uptoBulk {H : Type} : DataW H → Nat
  | .lit (.string bytes) => bytes.length + 1
  | .lit _ => 1
  | .nil => 1
  | .ptr d => uptoBulk d + 1
  | .slice elems spare => uptoBulkAll elems + uptoBulkAll spare + 1
  | .agg parts => uptoBulkAll parts + 1
  | .iface _ d => uptoBulk d + 1
  | .map entries => uptoBulkEntries entries + 1
  | .held _ => 1
def uptoBulkAll {H : Type} : List (DataW H) → Nat
  | [] => 0
  | d :: r => uptoBulk d + uptoBulkAll r
def uptoBulkEntries {H : Type} : List (Lit × DataW H) → Nat
  | [] => 0
  | x :: r => uptoBulkEntry x + uptoBulkEntries r
def uptoBulkEntry {H : Type} : Lit × DataW H → Nat
  | (.string bytes, d) => bytes.length + uptoBulk d + 1
  | (_, d) => uptoBulk d + 1
 end
def uptoSmall : (H : Type) → List (DataW H) → Bool := fun _ ds => decide (uptoBulkAll ds ≤ 1048576)
def OpenSpec.upto (s : _root_.Go.ChangeSpec) : _root_.Go.OpenSpec := { _root_.Go.OpenSpec.ofChange s with cond := some uptoSmall }

/-- 'skaldlaw35.OrchOnce', WHERE WHAT IT READS IS OF BULK AT MOST 1048576: true; the input reads as it did. -/
def orchOnceUptoRow : OpenClaim := { program := "ytjkmpaggfbghiaagreatdoor", sum := "33f9c0cec867e11ef0c84b84d4cc753de00d963c3b6e2a88e050b51843f5eb7d", func := "skald/skaldlaw35.OrchOnce", spec := "orchOnce", inPlace := ["internal/bytealg.IndexByteString", "internal/bytealg.IndexString", "internal/abi.NoEscape", "internal/bytealg.MakeNoZero"], unfollowed := true, recurses := true, named := ["skald/saga.phases", "unicode/utf8.first", "unicode/utf8.acceptRanges", "skald/saga.follow", "internal/strconv.uint64pow10", "math/bits.deBruijn32tab", "math/bits.deBruijn64tab", "internal/bytealg.MaxLen"], apart := false, laid := [("math/bits.deBruijn32tab", laid_math_bits_deBruijn32tab), ("math/bits.deBruijn64tab", laid_math_bits_deBruijn64tab), ("internal/strconv.uint64pow10", laid_internal_strconv_uint64pow10), ("unicode/utf8.acceptRanges", laid_unicode_utf8_acceptRanges), ("skald/saga.phases", laid_skald_saga_phases), ("skald/saga.follow", laid_skald_saga_follow), ("unicode/utf8.first", laid_unicode_utf8_first)], narrowed := true }
def OrchOnceUptoSaid : Prop := orchOnceUptoRow.holds Tryz.pinned (OpenSpec.upto orchOnceSpec)

/-- 'skaldlaw35.OrchTold', WHERE WHAT IT READS IS OF BULK AT MOST 1048576: true; the input reads as it did. -/
def orchToldUptoRow : OpenClaim := { program := "ytjkmpaggfbghiaagreatdoor", sum := "33f9c0cec867e11ef0c84b84d4cc753de00d963c3b6e2a88e050b51843f5eb7d", func := "skald/skaldlaw35.OrchTold", spec := "orchTold", inPlace := ["internal/bytealg.IndexByteString", "internal/bytealg.IndexString", "internal/abi.NoEscape", "internal/bytealg.MakeNoZero"], unfollowed := true, recurses := true, named := ["skald/saga.phases", "unicode/utf8.first", "unicode/utf8.acceptRanges", "skald/saga.follow", "internal/strconv.uint64pow10", "math/bits.deBruijn32tab", "math/bits.deBruijn64tab", "internal/bytealg.MaxLen"], apart := false, laid := [("math/bits.deBruijn32tab", laid_math_bits_deBruijn32tab), ("math/bits.deBruijn64tab", laid_math_bits_deBruijn64tab), ("internal/strconv.uint64pow10", laid_internal_strconv_uint64pow10), ("unicode/utf8.acceptRanges", laid_unicode_utf8_acceptRanges), ("skald/saga.phases", laid_skald_saga_phases), ("skald/saga.follow", laid_skald_saga_follow), ("unicode/utf8.first", laid_unicode_utf8_first)], narrowed := true }
def OrchToldUptoSaid : Prop := orchToldUptoRow.holds Tryz.pinned (OpenSpec.upto orchToldSpec)

/-- 'skaldlaw35.OrchRoutes', WHERE WHAT IT READS IS OF BULK AT MOST 1048576: true; the input reads as it did. -/
def orchRoutesUptoRow : OpenClaim := { program := "ytjkmpaggfbghiaagreatdoor", sum := "33f9c0cec867e11ef0c84b84d4cc753de00d963c3b6e2a88e050b51843f5eb7d", func := "skald/skaldlaw35.OrchRoutes", spec := "orchRoutes", inPlace := ["internal/bytealg.IndexByteString", "internal/bytealg.IndexString", "internal/abi.NoEscape", "internal/bytealg.MakeNoZero"], unfollowed := true, recurses := true, named := ["skald/saga.phases", "unicode/utf8.first", "unicode/utf8.acceptRanges", "skald/saga.follow", "internal/strconv.uint64pow10", "math/bits.deBruijn32tab", "math/bits.deBruijn64tab", "internal/bytealg.MaxLen"], apart := false, laid := [("math/bits.deBruijn32tab", laid_math_bits_deBruijn32tab), ("math/bits.deBruijn64tab", laid_math_bits_deBruijn64tab), ("internal/strconv.uint64pow10", laid_internal_strconv_uint64pow10), ("unicode/utf8.acceptRanges", laid_unicode_utf8_acceptRanges), ("skald/saga.phases", laid_skald_saga_phases), ("skald/saga.follow", laid_skald_saga_follow), ("unicode/utf8.first", laid_unicode_utf8_first)], narrowed := true }
def OrchRoutesUptoSaid : Prop := orchRoutesUptoRow.holds Tryz.pinned (OpenSpec.upto orchRoutesSpec)

/-- 'skaldlaw35.OrchItems', WHERE WHAT IT READS IS OF BULK AT MOST 1048576: true; the input reads as it did. -/
def orchItemsUptoRow : OpenClaim := { program := "ytjkmpaggfbghiaagreatdoor", sum := "33f9c0cec867e11ef0c84b84d4cc753de00d963c3b6e2a88e050b51843f5eb7d", func := "skald/skaldlaw35.OrchItems", spec := "orchItems", inPlace := ["internal/bytealg.IndexByteString", "internal/bytealg.IndexString", "internal/abi.NoEscape", "internal/bytealg.MakeNoZero"], unfollowed := true, recurses := true, named := ["skald/saga.phases", "unicode/utf8.first", "unicode/utf8.acceptRanges", "skald/saga.follow", "internal/strconv.uint64pow10", "math/bits.deBruijn32tab", "math/bits.deBruijn64tab", "internal/bytealg.MaxLen"], apart := false, laid := [("math/bits.deBruijn32tab", laid_math_bits_deBruijn32tab), ("math/bits.deBruijn64tab", laid_math_bits_deBruijn64tab), ("internal/strconv.uint64pow10", laid_internal_strconv_uint64pow10), ("unicode/utf8.acceptRanges", laid_unicode_utf8_acceptRanges), ("skald/saga.phases", laid_skald_saga_phases), ("skald/saga.follow", laid_skald_saga_follow), ("unicode/utf8.first", laid_unicode_utf8_first)], narrowed := true }
def OrchItemsUptoSaid : Prop := orchItemsUptoRow.holds Tryz.pinned (OpenSpec.upto orchItemsSpec)

/-- 'skaldlaw35.OrchFull', WHERE WHAT IT READS IS OF BULK AT MOST 1048576: true; the input reads as it did. -/
def orchFullUptoRow : OpenClaim := { program := "ytjkmpaggfbghiaagreatdoor", sum := "33f9c0cec867e11ef0c84b84d4cc753de00d963c3b6e2a88e050b51843f5eb7d", func := "skald/skaldlaw35.OrchFull", spec := "orchFull", inPlace := ["internal/bytealg.IndexByteString", "internal/bytealg.IndexString", "internal/abi.NoEscape", "internal/bytealg.MakeNoZero"], unfollowed := true, recurses := true, named := ["unicode/utf8.first", "unicode/utf8.acceptRanges", "skald/saga.phases", "skald/saga.follow", "internal/strconv.uint64pow10", "math/bits.deBruijn32tab", "math/bits.deBruijn64tab", "internal/bytealg.MaxLen"], apart := false, laid := [("math/bits.deBruijn32tab", laid_math_bits_deBruijn32tab), ("math/bits.deBruijn64tab", laid_math_bits_deBruijn64tab), ("internal/strconv.uint64pow10", laid_internal_strconv_uint64pow10), ("unicode/utf8.acceptRanges", laid_unicode_utf8_acceptRanges), ("skald/saga.phases", laid_skald_saga_phases), ("skald/saga.follow", laid_skald_saga_follow), ("unicode/utf8.first", laid_unicode_utf8_first)], narrowed := true }
def OrchFullUptoSaid : Prop := orchFullUptoRow.holds Tryz.pinned (OpenSpec.upto orchFullSpec)

/-- 'skaldlaw35.OrchEnds', WHERE WHAT IT READS IS OF BULK AT MOST 1048576: true; the input reads as it did. -/
def orchEndsUptoRow : OpenClaim := { program := "ytjkmpaggfbghiaagreatdoor", sum := "33f9c0cec867e11ef0c84b84d4cc753de00d963c3b6e2a88e050b51843f5eb7d", func := "skald/skaldlaw35.OrchEnds", spec := "orchEnds", inPlace := ["internal/bytealg.IndexByteString", "internal/bytealg.IndexString", "internal/abi.NoEscape", "internal/bytealg.MakeNoZero"], unfollowed := true, recurses := true, named := ["skald/saga.phases", "unicode/utf8.first", "unicode/utf8.acceptRanges", "skald/saga.follow", "internal/strconv.uint64pow10", "math/bits.deBruijn32tab", "math/bits.deBruijn64tab", "internal/bytealg.MaxLen"], apart := false, laid := [("math/bits.deBruijn32tab", laid_math_bits_deBruijn32tab), ("math/bits.deBruijn64tab", laid_math_bits_deBruijn64tab), ("internal/strconv.uint64pow10", laid_internal_strconv_uint64pow10), ("unicode/utf8.acceptRanges", laid_unicode_utf8_acceptRanges), ("skald/saga.phases", laid_skald_saga_phases), ("skald/saga.follow", laid_skald_saga_follow), ("unicode/utf8.first", laid_unicode_utf8_first)], narrowed := true }
def OrchEndsUptoSaid : Prop := orchEndsUptoRow.holds Tryz.pinned (OpenSpec.upto orchEndsSpec)

/-- 'skaldlaw35.OrchStays', WHERE WHAT IT READS IS OF BULK AT MOST 1048576: true; the input reads as it did. -/
def orchStaysUptoRow : OpenClaim := { program := "ytjkmpaggfbghiaagreatdoor", sum := "33f9c0cec867e11ef0c84b84d4cc753de00d963c3b6e2a88e050b51843f5eb7d", func := "skald/skaldlaw35.OrchStays", spec := "orchStays", inPlace := ["internal/bytealg.IndexByteString", "internal/bytealg.IndexString", "internal/abi.NoEscape", "internal/bytealg.MakeNoZero"], unfollowed := true, recurses := true, named := ["skald/saga.phases", "unicode/utf8.first", "unicode/utf8.acceptRanges", "skald/saga.follow", "internal/strconv.uint64pow10", "math/bits.deBruijn32tab", "math/bits.deBruijn64tab", "internal/bytealg.MaxLen"], apart := false, laid := [("math/bits.deBruijn32tab", laid_math_bits_deBruijn32tab), ("math/bits.deBruijn64tab", laid_math_bits_deBruijn64tab), ("internal/strconv.uint64pow10", laid_internal_strconv_uint64pow10), ("unicode/utf8.acceptRanges", laid_unicode_utf8_acceptRanges), ("skald/saga.phases", laid_skald_saga_phases), ("skald/saga.follow", laid_skald_saga_follow), ("unicode/utf8.first", laid_unicode_utf8_first)], narrowed := true }
def OrchStaysUptoSaid : Prop := orchStaysUptoRow.holds Tryz.pinned (OpenSpec.upto orchStaysSpec)

/-- 'skaldlaw35.OrchAgain', WHERE WHAT IT READS IS OF BULK AT MOST 1048576: true; the input reads as it did. -/
def orchAgainUptoRow : OpenClaim := { program := "ytjkmpaggfbghiaagreatdoor", sum := "33f9c0cec867e11ef0c84b84d4cc753de00d963c3b6e2a88e050b51843f5eb7d", func := "skald/skaldlaw35.OrchAgain", spec := "orchAgain", inPlace := ["internal/bytealg.IndexByteString", "internal/bytealg.IndexString", "internal/abi.NoEscape", "internal/bytealg.MakeNoZero"], unfollowed := true, recurses := true, named := ["skald/saga.phases", "unicode/utf8.first", "unicode/utf8.acceptRanges", "skald/saga.follow", "internal/strconv.uint64pow10", "math/bits.deBruijn32tab", "math/bits.deBruijn64tab", "internal/bytealg.MaxLen"], apart := false, laid := [("math/bits.deBruijn32tab", laid_math_bits_deBruijn32tab), ("math/bits.deBruijn64tab", laid_math_bits_deBruijn64tab), ("internal/strconv.uint64pow10", laid_internal_strconv_uint64pow10), ("unicode/utf8.acceptRanges", laid_unicode_utf8_acceptRanges), ("skald/saga.phases", laid_skald_saga_phases), ("skald/saga.follow", laid_skald_saga_follow), ("unicode/utf8.first", laid_unicode_utf8_first)], narrowed := true }
def OrchAgainUptoSaid : Prop := orchAgainUptoRow.holds Tryz.pinned (OpenSpec.upto orchAgainSpec)

end Rows
end Go.Proofs.YtjkmpaggfbghiaaGreatDoor
