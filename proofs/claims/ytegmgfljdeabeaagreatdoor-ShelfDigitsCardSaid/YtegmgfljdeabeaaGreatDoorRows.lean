/-
  NARROWER THAN 'FOR EVERY INPUT', by the rows' own cells (each row's printed sentence says how): ShelfDouble: laid · ShelfSums: laid · ShelfPairs: laid · ShelfEvens: laid · ShelfChanges: laid · ShelfZip: laid · ShelfGate: laid · ShelfDigits: laid · ShelfWindow: laid · ShelfDedupe: laid · ShelfMerge: laid · ShelfUntil: laid.
  DERIVED. THE GIVEN ROWS OF THIS SEAT. 12 by the template 'for every input the law returns true; each argument reads behind the call as it read before'; 0 by the template 'total and deterministic' (their statements: YtegmgfljdeabeaaGreatDoorTotals.lean).
  GIVEN WITH THE SEED: the statements are not yours to turn. If you find one false, say at which input.
  Laid BY PROGRAM, IN A SANDBOX (cutbox-rows.mjs): the forced cells as the released guide's own fill.sh prints them over the translation 3fdabbf779992272… (all of the seat's roots in one cut). By AI agents, Wed Nov 11 2026. No macro, syntax, notation, axiom, sorry.
-/
import Derived.Test.YtegmgfljdeabeaaGreatDoorChecked
import GoSem.Claim
import GoSem.ClaimJoined
import GoSem.ClaimMapViews
import Derived.JoinedTies
import Derived.KernelRfl
namespace Go.Proofs.YtegmgfljdeabeaaGreatDoor
/- THE CELL 'sum', in the pinned program and in every row, IS THE sha256 OF THE DUMP (.gsa) THAT YtegmgfljdeabeaaGreatDoorProg.lean LOADS. Nothing in Lean hashes anything: it is a label: what it is worth is what the hold of that sum in a sandbox is worth. -/
noncomputable def Tryz.pinned : Pinned := { name := "ytegmgfljdeabeaagreatdoor", sum := "3fdabbf7799922723252872c5a3c32f83657892fa541279d0841172039882ee8", checked := Tryz.checked }
namespace Rows
def none {H : Type} : Left H := { results := [], args := [] }

/- WHAT THE LISTED PACKAGE-LEVEL VARIABLES READ AS WHEN THE CALL BEGINS. Each datum BY PROGRAM (the guide's laid-datum.mjs) off the statement by which the dump's own 'gosem.cut.vars' lays the variable. In a bare row this is a premise. The card (YtegmgfljdeabeaaGreatDoorCards.lean) ties it to the program's text. -/
def laid_math_bits_deBruijn32tab {H : Type} : DataW H := .agg [.lit (.int .u8 0), .lit (.int .u8 1), .lit (.int .u8 28), .lit (.int .u8 2), .lit (.int .u8 29), .lit (.int .u8 14), .lit (.int .u8 24), .lit (.int .u8 3), .lit (.int .u8 30), .lit (.int .u8 22), .lit (.int .u8 20), .lit (.int .u8 15), .lit (.int .u8 25), .lit (.int .u8 17), .lit (.int .u8 4), .lit (.int .u8 8), .lit (.int .u8 31), .lit (.int .u8 27), .lit (.int .u8 13), .lit (.int .u8 23), .lit (.int .u8 21), .lit (.int .u8 19), .lit (.int .u8 16), .lit (.int .u8 7), .lit (.int .u8 26), .lit (.int .u8 12), .lit (.int .u8 18), .lit (.int .u8 6), .lit (.int .u8 11), .lit (.int .u8 5), .lit (.int .u8 10), .lit (.int .u8 9)]
def laid_math_bits_deBruijn64tab {H : Type} : DataW H := .agg [.lit (.int .u8 0), .lit (.int .u8 1), .lit (.int .u8 56), .lit (.int .u8 2), .lit (.int .u8 57), .lit (.int .u8 49), .lit (.int .u8 28), .lit (.int .u8 3), .lit (.int .u8 61), .lit (.int .u8 58), .lit (.int .u8 42), .lit (.int .u8 50), .lit (.int .u8 38), .lit (.int .u8 29), .lit (.int .u8 17), .lit (.int .u8 4), .lit (.int .u8 62), .lit (.int .u8 47), .lit (.int .u8 59), .lit (.int .u8 36), .lit (.int .u8 45), .lit (.int .u8 43), .lit (.int .u8 51), .lit (.int .u8 22), .lit (.int .u8 53), .lit (.int .u8 39), .lit (.int .u8 33), .lit (.int .u8 30), .lit (.int .u8 24), .lit (.int .u8 18), .lit (.int .u8 12), .lit (.int .u8 5), .lit (.int .u8 63), .lit (.int .u8 55), .lit (.int .u8 48), .lit (.int .u8 27), .lit (.int .u8 60), .lit (.int .u8 41), .lit (.int .u8 37), .lit (.int .u8 16), .lit (.int .u8 46), .lit (.int .u8 35), .lit (.int .u8 44), .lit (.int .u8 21), .lit (.int .u8 52), .lit (.int .u8 32), .lit (.int .u8 23), .lit (.int .u8 11), .lit (.int .u8 54), .lit (.int .u8 26), .lit (.int .u8 40), .lit (.int .u8 15), .lit (.int .u8 34), .lit (.int .u8 20), .lit (.int .u8 31), .lit (.int .u8 10), .lit (.int .u8 25), .lit (.int .u8 14), .lit (.int .u8 19), .lit (.int .u8 9), .lit (.int .u8 13), .lit (.int .u8 8), .lit (.int .u8 7), .lit (.int .u8 6)]
def laid_internal_strconv_uint64pow10 {H : Type} : DataW H := .agg [.lit (.int .u64 1), .lit (.int .u64 10), .lit (.int .u64 100), .lit (.int .u64 1000), .lit (.int .u64 10000), .lit (.int .u64 100000), .lit (.int .u64 1000000), .lit (.int .u64 10000000), .lit (.int .u64 100000000), .lit (.int .u64 1000000000), .lit (.int .u64 10000000000), .lit (.int .u64 100000000000), .lit (.int .u64 1000000000000), .lit (.int .u64 10000000000000), .lit (.int .u64 100000000000000), .lit (.int .u64 1000000000000000), .lit (.int .u64 10000000000000000), .lit (.int .u64 100000000000000000), .lit (.int .u64 1000000000000000000), .lit (.int .u64 10000000000000000000)]
def laid_strconv_ErrRange {H : Type} : DataW H := .iface "*errors.errorString" (.ptr (.agg [.lit (.string [118, 97, 108, 117, 101, 32, 111, 117, 116, 32, 111, 102, 32, 114, 97, 110, 103, 101])]))
def laid_strconv_ErrSyntax {H : Type} : DataW H := .iface "*errors.errorString" (.ptr (.agg [.lit (.string [105, 110, 118, 97, 108, 105, 100, 32, 115, 121, 110, 116, 97, 120])]))

/-- 'yieldlaw12.ShelfDouble': WHATEVER THE INPUT: true; the input reads as it did. -/
def shelfDoubleSpec : ChangeSpec := { name := "shelfDouble", fn := fun _ => fun
  | [d] => { results := [.lit (.bool true)], args := [d] }
  | _ => none }
def shelfDoubleRow : OpenClaim := { program := "ytegmgfljdeabeaagreatdoor", sum := "3fdabbf7799922723252872c5a3c32f83657892fa541279d0841172039882ee8", func := "yieldshape/yieldlaw12.ShelfDouble", spec := "shelfDouble", inPlace := ["internal/bytealg.IndexByteString", "internal/bytealg.IndexString"], unfollowed := true, recurses := true, named := ["strconv.ErrSyntax", "strconv.ErrRange", "internal/strconv.uint64pow10", "math/bits.deBruijn32tab", "math/bits.deBruijn64tab", "internal/bytealg.MaxLen"], apart := false, laid := [("math/bits.deBruijn32tab", laid_math_bits_deBruijn32tab), ("math/bits.deBruijn64tab", laid_math_bits_deBruijn64tab), ("internal/strconv.uint64pow10", laid_internal_strconv_uint64pow10), ("strconv.ErrRange", laid_strconv_ErrRange), ("strconv.ErrSyntax", laid_strconv_ErrSyntax)] }
def ShelfDoubleSaid : Prop := shelfDoubleRow.holds Tryz.pinned (OpenSpec.ofChange shelfDoubleSpec)

/-- ITS FALSE NEIGHBOUR: 'it returns false'. Refute it at one input. -/
def shelfDoubleWrong : ChangeSpec := { name := "shelfDouble", fn := fun _ => fun
  | [d] => { results := [.lit (.bool false)], args := [d] }
  | _ => none }
def ShelfDoubleWrongFalsely : Prop := shelfDoubleRow.holds Tryz.pinned (OpenSpec.ofChange shelfDoubleWrong)

/-- 'yieldlaw12.ShelfSums': WHATEVER THE INPUT: true; the input reads as it did. -/
def shelfSumsSpec : ChangeSpec := { name := "shelfSums", fn := fun _ => fun
  | [d] => { results := [.lit (.bool true)], args := [d] }
  | _ => none }
def shelfSumsRow : OpenClaim := { program := "ytegmgfljdeabeaagreatdoor", sum := "3fdabbf7799922723252872c5a3c32f83657892fa541279d0841172039882ee8", func := "yieldshape/yieldlaw12.ShelfSums", spec := "shelfSums", inPlace := ["internal/bytealg.IndexByteString", "internal/bytealg.IndexString"], unfollowed := true, recurses := true, named := ["strconv.ErrSyntax", "strconv.ErrRange", "internal/strconv.uint64pow10", "math/bits.deBruijn32tab", "math/bits.deBruijn64tab", "internal/bytealg.MaxLen"], apart := false, laid := [("math/bits.deBruijn32tab", laid_math_bits_deBruijn32tab), ("math/bits.deBruijn64tab", laid_math_bits_deBruijn64tab), ("internal/strconv.uint64pow10", laid_internal_strconv_uint64pow10), ("strconv.ErrRange", laid_strconv_ErrRange), ("strconv.ErrSyntax", laid_strconv_ErrSyntax)] }
def ShelfSumsSaid : Prop := shelfSumsRow.holds Tryz.pinned (OpenSpec.ofChange shelfSumsSpec)

/-- ITS FALSE NEIGHBOUR: 'it returns false'. Refute it at one input. -/
def shelfSumsWrong : ChangeSpec := { name := "shelfSums", fn := fun _ => fun
  | [d] => { results := [.lit (.bool false)], args := [d] }
  | _ => none }
def ShelfSumsWrongFalsely : Prop := shelfSumsRow.holds Tryz.pinned (OpenSpec.ofChange shelfSumsWrong)

/-- 'yieldlaw12.ShelfPairs': WHATEVER THE INPUT: true; the input reads as it did. -/
def shelfPairsSpec : ChangeSpec := { name := "shelfPairs", fn := fun _ => fun
  | [d] => { results := [.lit (.bool true)], args := [d] }
  | _ => none }
def shelfPairsRow : OpenClaim := { program := "ytegmgfljdeabeaagreatdoor", sum := "3fdabbf7799922723252872c5a3c32f83657892fa541279d0841172039882ee8", func := "yieldshape/yieldlaw12.ShelfPairs", spec := "shelfPairs", inPlace := ["internal/bytealg.IndexByteString", "internal/bytealg.IndexString"], unfollowed := true, recurses := true, named := ["strconv.ErrSyntax", "strconv.ErrRange", "internal/strconv.uint64pow10", "math/bits.deBruijn32tab", "math/bits.deBruijn64tab", "internal/bytealg.MaxLen"], apart := false, laid := [("math/bits.deBruijn32tab", laid_math_bits_deBruijn32tab), ("math/bits.deBruijn64tab", laid_math_bits_deBruijn64tab), ("internal/strconv.uint64pow10", laid_internal_strconv_uint64pow10), ("strconv.ErrRange", laid_strconv_ErrRange), ("strconv.ErrSyntax", laid_strconv_ErrSyntax)] }
def ShelfPairsSaid : Prop := shelfPairsRow.holds Tryz.pinned (OpenSpec.ofChange shelfPairsSpec)

/-- ITS FALSE NEIGHBOUR: 'it returns false'. Refute it at one input. -/
def shelfPairsWrong : ChangeSpec := { name := "shelfPairs", fn := fun _ => fun
  | [d] => { results := [.lit (.bool false)], args := [d] }
  | _ => none }
def ShelfPairsWrongFalsely : Prop := shelfPairsRow.holds Tryz.pinned (OpenSpec.ofChange shelfPairsWrong)

/-- 'yieldlaw12.ShelfEvens': WHATEVER THE INPUT: true; the input reads as it did. -/
def shelfEvensSpec : ChangeSpec := { name := "shelfEvens", fn := fun _ => fun
  | [d] => { results := [.lit (.bool true)], args := [d] }
  | _ => none }
def shelfEvensRow : OpenClaim := { program := "ytegmgfljdeabeaagreatdoor", sum := "3fdabbf7799922723252872c5a3c32f83657892fa541279d0841172039882ee8", func := "yieldshape/yieldlaw12.ShelfEvens", spec := "shelfEvens", inPlace := ["internal/bytealg.IndexByteString", "internal/bytealg.IndexString"], unfollowed := true, recurses := true, named := ["strconv.ErrSyntax", "strconv.ErrRange", "internal/strconv.uint64pow10", "math/bits.deBruijn32tab", "math/bits.deBruijn64tab", "internal/bytealg.MaxLen"], apart := false, laid := [("math/bits.deBruijn32tab", laid_math_bits_deBruijn32tab), ("math/bits.deBruijn64tab", laid_math_bits_deBruijn64tab), ("internal/strconv.uint64pow10", laid_internal_strconv_uint64pow10), ("strconv.ErrRange", laid_strconv_ErrRange), ("strconv.ErrSyntax", laid_strconv_ErrSyntax)] }
def ShelfEvensSaid : Prop := shelfEvensRow.holds Tryz.pinned (OpenSpec.ofChange shelfEvensSpec)

/-- ITS FALSE NEIGHBOUR: 'it returns false'. Refute it at one input. -/
def shelfEvensWrong : ChangeSpec := { name := "shelfEvens", fn := fun _ => fun
  | [d] => { results := [.lit (.bool false)], args := [d] }
  | _ => none }
def ShelfEvensWrongFalsely : Prop := shelfEvensRow.holds Tryz.pinned (OpenSpec.ofChange shelfEvensWrong)

/-- 'yieldlaw12.ShelfChanges': WHATEVER THE INPUT: true; the input reads as it did. -/
def shelfChangesSpec : ChangeSpec := { name := "shelfChanges", fn := fun _ => fun
  | [d] => { results := [.lit (.bool true)], args := [d] }
  | _ => none }
def shelfChangesRow : OpenClaim := { program := "ytegmgfljdeabeaagreatdoor", sum := "3fdabbf7799922723252872c5a3c32f83657892fa541279d0841172039882ee8", func := "yieldshape/yieldlaw12.ShelfChanges", spec := "shelfChanges", inPlace := ["internal/bytealg.IndexByteString", "internal/bytealg.IndexString"], unfollowed := true, recurses := true, named := ["strconv.ErrSyntax", "strconv.ErrRange", "internal/strconv.uint64pow10", "math/bits.deBruijn32tab", "math/bits.deBruijn64tab", "internal/bytealg.MaxLen"], apart := false, laid := [("math/bits.deBruijn32tab", laid_math_bits_deBruijn32tab), ("math/bits.deBruijn64tab", laid_math_bits_deBruijn64tab), ("internal/strconv.uint64pow10", laid_internal_strconv_uint64pow10), ("strconv.ErrRange", laid_strconv_ErrRange), ("strconv.ErrSyntax", laid_strconv_ErrSyntax)] }
def ShelfChangesSaid : Prop := shelfChangesRow.holds Tryz.pinned (OpenSpec.ofChange shelfChangesSpec)

/-- ITS FALSE NEIGHBOUR: 'it returns false'. Refute it at one input. -/
def shelfChangesWrong : ChangeSpec := { name := "shelfChanges", fn := fun _ => fun
  | [d] => { results := [.lit (.bool false)], args := [d] }
  | _ => none }
def ShelfChangesWrongFalsely : Prop := shelfChangesRow.holds Tryz.pinned (OpenSpec.ofChange shelfChangesWrong)

/-- 'yieldlaw12.ShelfZip': WHATEVER THE INPUT: true; the input reads as it did. -/
def shelfZipSpec : ChangeSpec := { name := "shelfZip", fn := fun _ => fun
  | [d1, d2] => { results := [.lit (.bool true)], args := [d1, d2] }
  | _ => none }
def shelfZipRow : OpenClaim := { program := "ytegmgfljdeabeaagreatdoor", sum := "3fdabbf7799922723252872c5a3c32f83657892fa541279d0841172039882ee8", func := "yieldshape/yieldlaw12.ShelfZip", spec := "shelfZip", inPlace := ["internal/bytealg.IndexByteString", "internal/bytealg.IndexString"], unfollowed := true, recurses := true, named := ["strconv.ErrSyntax", "strconv.ErrRange", "internal/strconv.uint64pow10", "math/bits.deBruijn32tab", "math/bits.deBruijn64tab", "internal/bytealg.MaxLen"], apart := false, laid := [("math/bits.deBruijn32tab", laid_math_bits_deBruijn32tab), ("math/bits.deBruijn64tab", laid_math_bits_deBruijn64tab), ("internal/strconv.uint64pow10", laid_internal_strconv_uint64pow10), ("strconv.ErrRange", laid_strconv_ErrRange), ("strconv.ErrSyntax", laid_strconv_ErrSyntax)] }
def ShelfZipSaid : Prop := shelfZipRow.holds Tryz.pinned (OpenSpec.ofChange shelfZipSpec)

/-- ITS FALSE NEIGHBOUR: 'it returns false'. Refute it at one input. -/
def shelfZipWrong : ChangeSpec := { name := "shelfZip", fn := fun _ => fun
  | [d1, d2] => { results := [.lit (.bool false)], args := [d1, d2] }
  | _ => none }
def ShelfZipWrongFalsely : Prop := shelfZipRow.holds Tryz.pinned (OpenSpec.ofChange shelfZipWrong)

/-- 'yieldlaw12.ShelfGate': WHATEVER THE INPUT: true; the input reads as it did. -/
def shelfGateSpec : ChangeSpec := { name := "shelfGate", fn := fun _ => fun
  | [d1, d2] => { results := [.lit (.bool true)], args := [d1, d2] }
  | _ => none }
def shelfGateRow : OpenClaim := { program := "ytegmgfljdeabeaagreatdoor", sum := "3fdabbf7799922723252872c5a3c32f83657892fa541279d0841172039882ee8", func := "yieldshape/yieldlaw12.ShelfGate", spec := "shelfGate", inPlace := ["internal/bytealg.IndexByteString", "internal/bytealg.IndexString"], unfollowed := true, recurses := true, named := ["strconv.ErrSyntax", "strconv.ErrRange", "internal/strconv.uint64pow10", "math/bits.deBruijn32tab", "math/bits.deBruijn64tab", "internal/bytealg.MaxLen"], apart := false, laid := [("math/bits.deBruijn32tab", laid_math_bits_deBruijn32tab), ("math/bits.deBruijn64tab", laid_math_bits_deBruijn64tab), ("internal/strconv.uint64pow10", laid_internal_strconv_uint64pow10), ("strconv.ErrRange", laid_strconv_ErrRange), ("strconv.ErrSyntax", laid_strconv_ErrSyntax)] }
def ShelfGateSaid : Prop := shelfGateRow.holds Tryz.pinned (OpenSpec.ofChange shelfGateSpec)

/-- ITS FALSE NEIGHBOUR: 'it returns false'. Refute it at one input. -/
def shelfGateWrong : ChangeSpec := { name := "shelfGate", fn := fun _ => fun
  | [d1, d2] => { results := [.lit (.bool false)], args := [d1, d2] }
  | _ => none }
def ShelfGateWrongFalsely : Prop := shelfGateRow.holds Tryz.pinned (OpenSpec.ofChange shelfGateWrong)

/-- 'yieldlaw12.ShelfDigits': WHATEVER THE INPUT: true; the input reads as it did. -/
def shelfDigitsSpec : ChangeSpec := { name := "shelfDigits", fn := fun _ => fun
  | [d] => { results := [.lit (.bool true)], args := [d] }
  | _ => none }
def shelfDigitsRow : OpenClaim := { program := "ytegmgfljdeabeaagreatdoor", sum := "3fdabbf7799922723252872c5a3c32f83657892fa541279d0841172039882ee8", func := "yieldshape/yieldlaw12.ShelfDigits", spec := "shelfDigits", inPlace := ["internal/bytealg.IndexByteString", "internal/bytealg.IndexString"], unfollowed := true, recurses := true, named := ["strconv.ErrSyntax", "strconv.ErrRange", "internal/strconv.uint64pow10", "math/bits.deBruijn32tab", "math/bits.deBruijn64tab", "internal/bytealg.MaxLen"], apart := false, laid := [("math/bits.deBruijn32tab", laid_math_bits_deBruijn32tab), ("math/bits.deBruijn64tab", laid_math_bits_deBruijn64tab), ("internal/strconv.uint64pow10", laid_internal_strconv_uint64pow10), ("strconv.ErrRange", laid_strconv_ErrRange), ("strconv.ErrSyntax", laid_strconv_ErrSyntax)] }
def ShelfDigitsSaid : Prop := shelfDigitsRow.holds Tryz.pinned (OpenSpec.ofChange shelfDigitsSpec)

/-- ITS FALSE NEIGHBOUR: 'it returns false'. Refute it at one input. -/
def shelfDigitsWrong : ChangeSpec := { name := "shelfDigits", fn := fun _ => fun
  | [d] => { results := [.lit (.bool false)], args := [d] }
  | _ => none }
def ShelfDigitsWrongFalsely : Prop := shelfDigitsRow.holds Tryz.pinned (OpenSpec.ofChange shelfDigitsWrong)

/-- 'yieldlaw12.ShelfWindow': WHATEVER THE INPUT: true; the input reads as it did. -/
def shelfWindowSpec : ChangeSpec := { name := "shelfWindow", fn := fun _ => fun
  | [d] => { results := [.lit (.bool true)], args := [d] }
  | _ => none }
def shelfWindowRow : OpenClaim := { program := "ytegmgfljdeabeaagreatdoor", sum := "3fdabbf7799922723252872c5a3c32f83657892fa541279d0841172039882ee8", func := "yieldshape/yieldlaw12.ShelfWindow", spec := "shelfWindow", inPlace := ["internal/bytealg.IndexByteString", "internal/bytealg.IndexString"], unfollowed := true, recurses := true, named := ["strconv.ErrSyntax", "strconv.ErrRange", "internal/strconv.uint64pow10", "math/bits.deBruijn32tab", "math/bits.deBruijn64tab", "internal/bytealg.MaxLen"], apart := false, laid := [("math/bits.deBruijn32tab", laid_math_bits_deBruijn32tab), ("math/bits.deBruijn64tab", laid_math_bits_deBruijn64tab), ("internal/strconv.uint64pow10", laid_internal_strconv_uint64pow10), ("strconv.ErrRange", laid_strconv_ErrRange), ("strconv.ErrSyntax", laid_strconv_ErrSyntax)] }
def ShelfWindowSaid : Prop := shelfWindowRow.holds Tryz.pinned (OpenSpec.ofChange shelfWindowSpec)

/-- ITS FALSE NEIGHBOUR: 'it returns false'. Refute it at one input. -/
def shelfWindowWrong : ChangeSpec := { name := "shelfWindow", fn := fun _ => fun
  | [d] => { results := [.lit (.bool false)], args := [d] }
  | _ => none }
def ShelfWindowWrongFalsely : Prop := shelfWindowRow.holds Tryz.pinned (OpenSpec.ofChange shelfWindowWrong)

/-- 'yieldlaw12.ShelfDedupe': WHATEVER THE INPUT: true; the input reads as it did. -/
def shelfDedupeSpec : ChangeSpec := { name := "shelfDedupe", fn := fun _ => fun
  | [d] => { results := [.lit (.bool true)], args := [d] }
  | _ => none }
def shelfDedupeRow : OpenClaim := { program := "ytegmgfljdeabeaagreatdoor", sum := "3fdabbf7799922723252872c5a3c32f83657892fa541279d0841172039882ee8", func := "yieldshape/yieldlaw12.ShelfDedupe", spec := "shelfDedupe", inPlace := ["internal/bytealg.IndexByteString", "internal/bytealg.IndexString"], unfollowed := true, recurses := true, named := ["strconv.ErrSyntax", "strconv.ErrRange", "internal/strconv.uint64pow10", "math/bits.deBruijn32tab", "math/bits.deBruijn64tab", "internal/bytealg.MaxLen"], apart := false, laid := [("math/bits.deBruijn32tab", laid_math_bits_deBruijn32tab), ("math/bits.deBruijn64tab", laid_math_bits_deBruijn64tab), ("internal/strconv.uint64pow10", laid_internal_strconv_uint64pow10), ("strconv.ErrRange", laid_strconv_ErrRange), ("strconv.ErrSyntax", laid_strconv_ErrSyntax)] }
def ShelfDedupeSaid : Prop := shelfDedupeRow.holds Tryz.pinned (OpenSpec.ofChange shelfDedupeSpec)

/-- ITS FALSE NEIGHBOUR: 'it returns false'. Refute it at one input. -/
def shelfDedupeWrong : ChangeSpec := { name := "shelfDedupe", fn := fun _ => fun
  | [d] => { results := [.lit (.bool false)], args := [d] }
  | _ => none }
def ShelfDedupeWrongFalsely : Prop := shelfDedupeRow.holds Tryz.pinned (OpenSpec.ofChange shelfDedupeWrong)

/-- 'yieldlaw12.ShelfMerge': WHATEVER THE INPUT: true; the input reads as it did. -/
def shelfMergeSpec : ChangeSpec := { name := "shelfMerge", fn := fun _ => fun
  | [d1, d2] => { results := [.lit (.bool true)], args := [d1, d2] }
  | _ => none }
def shelfMergeRow : OpenClaim := { program := "ytegmgfljdeabeaagreatdoor", sum := "3fdabbf7799922723252872c5a3c32f83657892fa541279d0841172039882ee8", func := "yieldshape/yieldlaw12.ShelfMerge", spec := "shelfMerge", inPlace := ["internal/bytealg.IndexByteString", "internal/bytealg.IndexString"], unfollowed := true, recurses := true, named := ["strconv.ErrSyntax", "strconv.ErrRange", "internal/strconv.uint64pow10", "math/bits.deBruijn32tab", "math/bits.deBruijn64tab", "internal/bytealg.MaxLen"], apart := false, laid := [("math/bits.deBruijn32tab", laid_math_bits_deBruijn32tab), ("math/bits.deBruijn64tab", laid_math_bits_deBruijn64tab), ("internal/strconv.uint64pow10", laid_internal_strconv_uint64pow10), ("strconv.ErrRange", laid_strconv_ErrRange), ("strconv.ErrSyntax", laid_strconv_ErrSyntax)] }
def ShelfMergeSaid : Prop := shelfMergeRow.holds Tryz.pinned (OpenSpec.ofChange shelfMergeSpec)

/-- ITS FALSE NEIGHBOUR: 'it returns false'. Refute it at one input. -/
def shelfMergeWrong : ChangeSpec := { name := "shelfMerge", fn := fun _ => fun
  | [d1, d2] => { results := [.lit (.bool false)], args := [d1, d2] }
  | _ => none }
def ShelfMergeWrongFalsely : Prop := shelfMergeRow.holds Tryz.pinned (OpenSpec.ofChange shelfMergeWrong)

/-- 'yieldlaw12.ShelfUntil': WHATEVER THE INPUT: true; the input reads as it did. -/
def shelfUntilSpec : ChangeSpec := { name := "shelfUntil", fn := fun _ => fun
  | [d] => { results := [.lit (.bool true)], args := [d] }
  | _ => none }
def shelfUntilRow : OpenClaim := { program := "ytegmgfljdeabeaagreatdoor", sum := "3fdabbf7799922723252872c5a3c32f83657892fa541279d0841172039882ee8", func := "yieldshape/yieldlaw12.ShelfUntil", spec := "shelfUntil", inPlace := ["internal/bytealg.IndexByteString", "internal/bytealg.IndexString"], unfollowed := true, recurses := true, named := ["strconv.ErrSyntax", "strconv.ErrRange", "internal/strconv.uint64pow10", "math/bits.deBruijn32tab", "math/bits.deBruijn64tab", "internal/bytealg.MaxLen"], apart := false, laid := [("math/bits.deBruijn32tab", laid_math_bits_deBruijn32tab), ("math/bits.deBruijn64tab", laid_math_bits_deBruijn64tab), ("internal/strconv.uint64pow10", laid_internal_strconv_uint64pow10), ("strconv.ErrRange", laid_strconv_ErrRange), ("strconv.ErrSyntax", laid_strconv_ErrSyntax)] }
def ShelfUntilSaid : Prop := shelfUntilRow.holds Tryz.pinned (OpenSpec.ofChange shelfUntilSpec)

/-- ITS FALSE NEIGHBOUR: 'it returns false'. Refute it at one input. -/
def shelfUntilWrong : ChangeSpec := { name := "shelfUntil", fn := fun _ => fun
  | [d] => { results := [.lit (.bool false)], args := [d] }
  | _ => none }
def ShelfUntilWrongFalsely : Prop := shelfUntilRow.holds Tryz.pinned (OpenSpec.ofChange shelfUntilWrong)

/- THE SECOND FORM. 'bulk': how many values and letters a reading holds, each counted each time it is reached (what is shared counts as often as it is met; a slice's spare places count too). A statement '..UptoSaid' is the law's where the arguments, and the package variables that the reading takes, are together of bulk at most 1048576: NARROWER than '..Said'. Prove '..Said' where nothing that the law and all that it calls make is longer than what came in: it says more and counts as full. Else prove '..UptoSaid'. A law counts once. -/
mutual
def uptoBulk {H : Type} : DataW H → Nat
  | .lit (.string bytes) => bytes.length + 1
  | .lit _ => 1
  | .nil => 1
  | .ptr d => uptoBulk d + 1
  | .slice elems spare => uptoBulkAll elems + uptoBulkAll spare + 1
  | .agg parts => uptoBulkAll parts + 1
  | .iface _ d => uptoBulk d + 1
  | .map entries => uptoBulkEntries entries + 1
  | .held _ => 1
def uptoBulkAll {H : Type} : List (DataW H) → Nat
  | [] => 0
  | d :: r => uptoBulk d + uptoBulkAll r
def uptoBulkEntries {H : Type} : List (Lit × DataW H) → Nat
  | [] => 0
  | x :: r => uptoBulkEntry x + uptoBulkEntries r
def uptoBulkEntry {H : Type} : Lit × DataW H → Nat
  | (.string bytes, d) => bytes.length + uptoBulk d + 1
  | (_, d) => uptoBulk d + 1
 end
def uptoSmall : (H : Type) → List (DataW H) → Bool := fun _ ds => decide (uptoBulkAll ds ≤ 1048576)
def OpenSpec.upto (s : _root_.Go.ChangeSpec) : _root_.Go.OpenSpec := { _root_.Go.OpenSpec.ofChange s with cond := some uptoSmall }

/-- 'yieldlaw12.ShelfDouble', WHERE WHAT IT READS IS OF BULK AT MOST 1048576: true; the input reads as it did. -/
def shelfDoubleUptoRow : OpenClaim := { program := "ytegmgfljdeabeaagreatdoor", sum := "3fdabbf7799922723252872c5a3c32f83657892fa541279d0841172039882ee8", func := "yieldshape/yieldlaw12.ShelfDouble", spec := "shelfDouble", inPlace := ["internal/bytealg.IndexByteString", "internal/bytealg.IndexString"], unfollowed := true, recurses := true, named := ["strconv.ErrSyntax", "strconv.ErrRange", "internal/strconv.uint64pow10", "math/bits.deBruijn32tab", "math/bits.deBruijn64tab", "internal/bytealg.MaxLen"], apart := false, laid := [("math/bits.deBruijn32tab", laid_math_bits_deBruijn32tab), ("math/bits.deBruijn64tab", laid_math_bits_deBruijn64tab), ("internal/strconv.uint64pow10", laid_internal_strconv_uint64pow10), ("strconv.ErrRange", laid_strconv_ErrRange), ("strconv.ErrSyntax", laid_strconv_ErrSyntax)], narrowed := true }
def ShelfDoubleUptoSaid : Prop := shelfDoubleUptoRow.holds Tryz.pinned (OpenSpec.upto shelfDoubleSpec)

/-- 'yieldlaw12.ShelfSums', WHERE WHAT IT READS IS OF BULK AT MOST 1048576: true; the input reads as it did. -/
def shelfSumsUptoRow : OpenClaim := { program := "ytegmgfljdeabeaagreatdoor", sum := "3fdabbf7799922723252872c5a3c32f83657892fa541279d0841172039882ee8", func := "yieldshape/yieldlaw12.ShelfSums", spec := "shelfSums", inPlace := ["internal/bytealg.IndexByteString", "internal/bytealg.IndexString"], unfollowed := true, recurses := true, named := ["strconv.ErrSyntax", "strconv.ErrRange", "internal/strconv.uint64pow10", "math/bits.deBruijn32tab", "math/bits.deBruijn64tab", "internal/bytealg.MaxLen"], apart := false, laid := [("math/bits.deBruijn32tab", laid_math_bits_deBruijn32tab), ("math/bits.deBruijn64tab", laid_math_bits_deBruijn64tab), ("internal/strconv.uint64pow10", laid_internal_strconv_uint64pow10), ("strconv.ErrRange", laid_strconv_ErrRange), ("strconv.ErrSyntax", laid_strconv_ErrSyntax)], narrowed := true }
def ShelfSumsUptoSaid : Prop := shelfSumsUptoRow.holds Tryz.pinned (OpenSpec.upto shelfSumsSpec)

/-- 'yieldlaw12.ShelfPairs', WHERE WHAT IT READS IS OF BULK AT MOST 1048576: true; the input reads as it did. -/
def shelfPairsUptoRow : OpenClaim := { program := "ytegmgfljdeabeaagreatdoor", sum := "3fdabbf7799922723252872c5a3c32f83657892fa541279d0841172039882ee8", func := "yieldshape/yieldlaw12.ShelfPairs", spec := "shelfPairs", inPlace := ["internal/bytealg.IndexByteString", "internal/bytealg.IndexString"], unfollowed := true, recurses := true, named := ["strconv.ErrSyntax", "strconv.ErrRange", "internal/strconv.uint64pow10", "math/bits.deBruijn32tab", "math/bits.deBruijn64tab", "internal/bytealg.MaxLen"], apart := false, laid := [("math/bits.deBruijn32tab", laid_math_bits_deBruijn32tab), ("math/bits.deBruijn64tab", laid_math_bits_deBruijn64tab), ("internal/strconv.uint64pow10", laid_internal_strconv_uint64pow10), ("strconv.ErrRange", laid_strconv_ErrRange), ("strconv.ErrSyntax", laid_strconv_ErrSyntax)], narrowed := true }
def ShelfPairsUptoSaid : Prop := shelfPairsUptoRow.holds Tryz.pinned (OpenSpec.upto shelfPairsSpec)

/-- 'yieldlaw12.ShelfEvens', WHERE WHAT IT READS IS OF BULK AT MOST 1048576: true; the input reads as it did. -/
def shelfEvensUptoRow : OpenClaim := { program := "ytegmgfljdeabeaagreatdoor", sum := "3fdabbf7799922723252872c5a3c32f83657892fa541279d0841172039882ee8", func := "yieldshape/yieldlaw12.ShelfEvens", spec := "shelfEvens", inPlace := ["internal/bytealg.IndexByteString", "internal/bytealg.IndexString"], unfollowed := true, recurses := true, named := ["strconv.ErrSyntax", "strconv.ErrRange", "internal/strconv.uint64pow10", "math/bits.deBruijn32tab", "math/bits.deBruijn64tab", "internal/bytealg.MaxLen"], apart := false, laid := [("math/bits.deBruijn32tab", laid_math_bits_deBruijn32tab), ("math/bits.deBruijn64tab", laid_math_bits_deBruijn64tab), ("internal/strconv.uint64pow10", laid_internal_strconv_uint64pow10), ("strconv.ErrRange", laid_strconv_ErrRange), ("strconv.ErrSyntax", laid_strconv_ErrSyntax)], narrowed := true }
def ShelfEvensUptoSaid : Prop := shelfEvensUptoRow.holds Tryz.pinned (OpenSpec.upto shelfEvensSpec)

/-- 'yieldlaw12.ShelfChanges', WHERE WHAT IT READS IS OF BULK AT MOST 1048576: true; the input reads as it did. -/
def shelfChangesUptoRow : OpenClaim := { program := "ytegmgfljdeabeaagreatdoor", sum := "3fdabbf7799922723252872c5a3c32f83657892fa541279d0841172039882ee8", func := "yieldshape/yieldlaw12.ShelfChanges", spec := "shelfChanges", inPlace := ["internal/bytealg.IndexByteString", "internal/bytealg.IndexString"], unfollowed := true, recurses := true, named := ["strconv.ErrSyntax", "strconv.ErrRange", "internal/strconv.uint64pow10", "math/bits.deBruijn32tab", "math/bits.deBruijn64tab", "internal/bytealg.MaxLen"], apart := false, laid := [("math/bits.deBruijn32tab", laid_math_bits_deBruijn32tab), ("math/bits.deBruijn64tab", laid_math_bits_deBruijn64tab), ("internal/strconv.uint64pow10", laid_internal_strconv_uint64pow10), ("strconv.ErrRange", laid_strconv_ErrRange), ("strconv.ErrSyntax", laid_strconv_ErrSyntax)], narrowed := true }
def ShelfChangesUptoSaid : Prop := shelfChangesUptoRow.holds Tryz.pinned (OpenSpec.upto shelfChangesSpec)

/-- 'yieldlaw12.ShelfZip', WHERE WHAT IT READS IS OF BULK AT MOST 1048576: true; the input reads as it did. -/
def shelfZipUptoRow : OpenClaim := { program := "ytegmgfljdeabeaagreatdoor", sum := "3fdabbf7799922723252872c5a3c32f83657892fa541279d0841172039882ee8", func := "yieldshape/yieldlaw12.ShelfZip", spec := "shelfZip", inPlace := ["internal/bytealg.IndexByteString", "internal/bytealg.IndexString"], unfollowed := true, recurses := true, named := ["strconv.ErrSyntax", "strconv.ErrRange", "internal/strconv.uint64pow10", "math/bits.deBruijn32tab", "math/bits.deBruijn64tab", "internal/bytealg.MaxLen"], apart := false, laid := [("math/bits.deBruijn32tab", laid_math_bits_deBruijn32tab), ("math/bits.deBruijn64tab", laid_math_bits_deBruijn64tab), ("internal/strconv.uint64pow10", laid_internal_strconv_uint64pow10), ("strconv.ErrRange", laid_strconv_ErrRange), ("strconv.ErrSyntax", laid_strconv_ErrSyntax)], narrowed := true }
def ShelfZipUptoSaid : Prop := shelfZipUptoRow.holds Tryz.pinned (OpenSpec.upto shelfZipSpec)

/-- 'yieldlaw12.ShelfGate', WHERE WHAT IT READS IS OF BULK AT MOST 1048576: true; the input reads as it did. -/
def shelfGateUptoRow : OpenClaim := { program := "ytegmgfljdeabeaagreatdoor", sum := "3fdabbf7799922723252872c5a3c32f83657892fa541279d0841172039882ee8", func := "yieldshape/yieldlaw12.ShelfGate", spec := "shelfGate", inPlace := ["internal/bytealg.IndexByteString", "internal/bytealg.IndexString"], unfollowed := true, recurses := true, named := ["strconv.ErrSyntax", "strconv.ErrRange", "internal/strconv.uint64pow10", "math/bits.deBruijn32tab", "math/bits.deBruijn64tab", "internal/bytealg.MaxLen"], apart := false, laid := [("math/bits.deBruijn32tab", laid_math_bits_deBruijn32tab), ("math/bits.deBruijn64tab", laid_math_bits_deBruijn64tab), ("internal/strconv.uint64pow10", laid_internal_strconv_uint64pow10), ("strconv.ErrRange", laid_strconv_ErrRange), ("strconv.ErrSyntax", laid_strconv_ErrSyntax)], narrowed := true }
def ShelfGateUptoSaid : Prop := shelfGateUptoRow.holds Tryz.pinned (OpenSpec.upto shelfGateSpec)

/-- 'yieldlaw12.ShelfDigits', WHERE WHAT IT READS IS OF BULK AT MOST 1048576: true; the input reads as it did. -/
def shelfDigitsUptoRow : OpenClaim := { program := "ytegmgfljdeabeaagreatdoor", sum := "3fdabbf7799922723252872c5a3c32f83657892fa541279d0841172039882ee8", func := "yieldshape/yieldlaw12.ShelfDigits", spec := "shelfDigits", inPlace := ["internal/bytealg.IndexByteString", "internal/bytealg.IndexString"], unfollowed := true, recurses := true, named := ["strconv.ErrSyntax", "strconv.ErrRange", "internal/strconv.uint64pow10", "math/bits.deBruijn32tab", "math/bits.deBruijn64tab", "internal/bytealg.MaxLen"], apart := false, laid := [("math/bits.deBruijn32tab", laid_math_bits_deBruijn32tab), ("math/bits.deBruijn64tab", laid_math_bits_deBruijn64tab), ("internal/strconv.uint64pow10", laid_internal_strconv_uint64pow10), ("strconv.ErrRange", laid_strconv_ErrRange), ("strconv.ErrSyntax", laid_strconv_ErrSyntax)], narrowed := true }
def ShelfDigitsUptoSaid : Prop := shelfDigitsUptoRow.holds Tryz.pinned (OpenSpec.upto shelfDigitsSpec)

/-- 'yieldlaw12.ShelfWindow', WHERE WHAT IT READS IS OF BULK AT MOST 1048576: true; the input reads as it did. -/
def shelfWindowUptoRow : OpenClaim := { program := "ytegmgfljdeabeaagreatdoor", sum := "3fdabbf7799922723252872c5a3c32f83657892fa541279d0841172039882ee8", func := "yieldshape/yieldlaw12.ShelfWindow", spec := "shelfWindow", inPlace := ["internal/bytealg.IndexByteString", "internal/bytealg.IndexString"], unfollowed := true, recurses := true, named := ["strconv.ErrSyntax", "strconv.ErrRange", "internal/strconv.uint64pow10", "math/bits.deBruijn32tab", "math/bits.deBruijn64tab", "internal/bytealg.MaxLen"], apart := false, laid := [("math/bits.deBruijn32tab", laid_math_bits_deBruijn32tab), ("math/bits.deBruijn64tab", laid_math_bits_deBruijn64tab), ("internal/strconv.uint64pow10", laid_internal_strconv_uint64pow10), ("strconv.ErrRange", laid_strconv_ErrRange), ("strconv.ErrSyntax", laid_strconv_ErrSyntax)], narrowed := true }
def ShelfWindowUptoSaid : Prop := shelfWindowUptoRow.holds Tryz.pinned (OpenSpec.upto shelfWindowSpec)

/-- 'yieldlaw12.ShelfDedupe', WHERE WHAT IT READS IS OF BULK AT MOST 1048576: true; the input reads as it did. -/
def shelfDedupeUptoRow : OpenClaim := { program := "ytegmgfljdeabeaagreatdoor", sum := "3fdabbf7799922723252872c5a3c32f83657892fa541279d0841172039882ee8", func := "yieldshape/yieldlaw12.ShelfDedupe", spec := "shelfDedupe", inPlace := ["internal/bytealg.IndexByteString", "internal/bytealg.IndexString"], unfollowed := true, recurses := true, named := ["strconv.ErrSyntax", "strconv.ErrRange", "internal/strconv.uint64pow10", "math/bits.deBruijn32tab", "math/bits.deBruijn64tab", "internal/bytealg.MaxLen"], apart := false, laid := [("math/bits.deBruijn32tab", laid_math_bits_deBruijn32tab), ("math/bits.deBruijn64tab", laid_math_bits_deBruijn64tab), ("internal/strconv.uint64pow10", laid_internal_strconv_uint64pow10), ("strconv.ErrRange", laid_strconv_ErrRange), ("strconv.ErrSyntax", laid_strconv_ErrSyntax)], narrowed := true }
def ShelfDedupeUptoSaid : Prop := shelfDedupeUptoRow.holds Tryz.pinned (OpenSpec.upto shelfDedupeSpec)

/-- 'yieldlaw12.ShelfMerge', WHERE WHAT IT READS IS OF BULK AT MOST 1048576: true; the input reads as it did. -/
def shelfMergeUptoRow : OpenClaim := { program := "ytegmgfljdeabeaagreatdoor", sum := "3fdabbf7799922723252872c5a3c32f83657892fa541279d0841172039882ee8", func := "yieldshape/yieldlaw12.ShelfMerge", spec := "shelfMerge", inPlace := ["internal/bytealg.IndexByteString", "internal/bytealg.IndexString"], unfollowed := true, recurses := true, named := ["strconv.ErrSyntax", "strconv.ErrRange", "internal/strconv.uint64pow10", "math/bits.deBruijn32tab", "math/bits.deBruijn64tab", "internal/bytealg.MaxLen"], apart := false, laid := [("math/bits.deBruijn32tab", laid_math_bits_deBruijn32tab), ("math/bits.deBruijn64tab", laid_math_bits_deBruijn64tab), ("internal/strconv.uint64pow10", laid_internal_strconv_uint64pow10), ("strconv.ErrRange", laid_strconv_ErrRange), ("strconv.ErrSyntax", laid_strconv_ErrSyntax)], narrowed := true }
def ShelfMergeUptoSaid : Prop := shelfMergeUptoRow.holds Tryz.pinned (OpenSpec.upto shelfMergeSpec)

/-- 'yieldlaw12.ShelfUntil', WHERE WHAT IT READS IS OF BULK AT MOST 1048576: true; the input reads as it did. -/
def shelfUntilUptoRow : OpenClaim := { program := "ytegmgfljdeabeaagreatdoor", sum := "3fdabbf7799922723252872c5a3c32f83657892fa541279d0841172039882ee8", func := "yieldshape/yieldlaw12.ShelfUntil", spec := "shelfUntil", inPlace := ["internal/bytealg.IndexByteString", "internal/bytealg.IndexString"], unfollowed := true, recurses := true, named := ["strconv.ErrSyntax", "strconv.ErrRange", "internal/strconv.uint64pow10", "math/bits.deBruijn32tab", "math/bits.deBruijn64tab", "internal/bytealg.MaxLen"], apart := false, laid := [("math/bits.deBruijn32tab", laid_math_bits_deBruijn32tab), ("math/bits.deBruijn64tab", laid_math_bits_deBruijn64tab), ("internal/strconv.uint64pow10", laid_internal_strconv_uint64pow10), ("strconv.ErrRange", laid_strconv_ErrRange), ("strconv.ErrSyntax", laid_strconv_ErrSyntax)], narrowed := true }
def ShelfUntilUptoSaid : Prop := shelfUntilUptoRow.holds Tryz.pinned (OpenSpec.upto shelfUntilSpec)

end Rows
end Go.Proofs.YtegmgfljdeabeaaGreatDoor
