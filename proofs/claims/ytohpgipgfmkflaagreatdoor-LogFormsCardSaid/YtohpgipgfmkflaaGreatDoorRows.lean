/-
  NARROWER THAN 'FOR EVERY INPUT', by the rows' own cells (each row's printed sentence says how): LogNone: laid · LogEnded: laid · LogForms: laid · LogTells: laid · LogBack: laid · LogTrims: laid · LogNumbers: laid · ScanNone: laid · ScanLess: laid · ScanGone: laid · ScanNumbers: laid · ScanTwice: laid · ScanKeeps: laid · ScanTells: laid · ScanOpens: laid.
  DERIVED. THE GIVEN ROWS OF THIS SEAT. 15 by the template 'for every input the law returns true; each argument reads behind the call as it read before'; 0 by the template 'total and deterministic' (their statements: YtohpgipgfmkflaaGreatDoorTotals.lean).
  GIVEN WITH THE SEED: the statements are not yours to turn. If you find one false, say at which input.
  Laid BY PROGRAM, IN A SANDBOX (cutbox-rows.mjs): the forced cells as the released guide's own fill.sh prints them over the translation a8f24932d3a9b4c2… (all of the seat's roots in one cut). By AI agents, Wed Nov 11 2026. No macro, syntax, notation, axiom, sorry.
-/
import Derived.Test.YtohpgipgfmkflaaGreatDoorChecked
import GoSem.Claim
import GoSem.ClaimJoined
import GoSem.ClaimMapViews
import Derived.JoinedTies
import Derived.KernelRfl
namespace Go.Proofs.YtohpgipgfmkflaaGreatDoor
/- THE CELL 'sum', in the pinned program and in every row, IS THE sha256 OF THE DUMP (.gsa) THAT YtohpgipgfmkflaaGreatDoorProg.lean LOADS. Nothing in Lean hashes anything: it is a label: what it is worth is what the hold of that sum in a sandbox is worth. -/
noncomputable def Tryz.pinned : Pinned := { name := "ytohpgipgfmkflaagreatdoor", sum := "a8f24932d3a9b4c2b07145163fb9325859e5a446b928e7a75eb5cc8c1714c73a", checked := Tryz.checked }
namespace Rows
def none {H : Type} : Left H := { results := [], args := [] }

/- WHAT THE LISTED PACKAGE-LEVEL VARIABLES READ AS WHEN THE CALL BEGINS. Each datum BY PROGRAM (the guide's laid-datum.mjs) off the statement by which the dump's own 'gosem.cut.vars' lays the variable. In a bare row this is a premise. The card (YtohpgipgfmkflaaGreatDoorCards.lean) ties it to the program's text. -/
def laid_math_bits_deBruijn32tab {H : Type} : DataW H := .agg [.lit (.int .u8 0), .lit (.int .u8 1), .lit (.int .u8 28), .lit (.int .u8 2), .lit (.int .u8 29), .lit (.int .u8 14), .lit (.int .u8 24), .lit (.int .u8 3), .lit (.int .u8 30), .lit (.int .u8 22), .lit (.int .u8 20), .lit (.int .u8 15), .lit (.int .u8 25), .lit (.int .u8 17), .lit (.int .u8 4), .lit (.int .u8 8), .lit (.int .u8 31), .lit (.int .u8 27), .lit (.int .u8 13), .lit (.int .u8 23), .lit (.int .u8 21), .lit (.int .u8 19), .lit (.int .u8 16), .lit (.int .u8 7), .lit (.int .u8 26), .lit (.int .u8 12), .lit (.int .u8 18), .lit (.int .u8 6), .lit (.int .u8 11), .lit (.int .u8 5), .lit (.int .u8 10), .lit (.int .u8 9)]
def laid_math_bits_deBruijn64tab {H : Type} : DataW H := .agg [.lit (.int .u8 0), .lit (.int .u8 1), .lit (.int .u8 56), .lit (.int .u8 2), .lit (.int .u8 57), .lit (.int .u8 49), .lit (.int .u8 28), .lit (.int .u8 3), .lit (.int .u8 61), .lit (.int .u8 58), .lit (.int .u8 42), .lit (.int .u8 50), .lit (.int .u8 38), .lit (.int .u8 29), .lit (.int .u8 17), .lit (.int .u8 4), .lit (.int .u8 62), .lit (.int .u8 47), .lit (.int .u8 59), .lit (.int .u8 36), .lit (.int .u8 45), .lit (.int .u8 43), .lit (.int .u8 51), .lit (.int .u8 22), .lit (.int .u8 53), .lit (.int .u8 39), .lit (.int .u8 33), .lit (.int .u8 30), .lit (.int .u8 24), .lit (.int .u8 18), .lit (.int .u8 12), .lit (.int .u8 5), .lit (.int .u8 63), .lit (.int .u8 55), .lit (.int .u8 48), .lit (.int .u8 27), .lit (.int .u8 60), .lit (.int .u8 41), .lit (.int .u8 37), .lit (.int .u8 16), .lit (.int .u8 46), .lit (.int .u8 35), .lit (.int .u8 44), .lit (.int .u8 21), .lit (.int .u8 52), .lit (.int .u8 32), .lit (.int .u8 23), .lit (.int .u8 11), .lit (.int .u8 54), .lit (.int .u8 26), .lit (.int .u8 40), .lit (.int .u8 15), .lit (.int .u8 34), .lit (.int .u8 20), .lit (.int .u8 31), .lit (.int .u8 10), .lit (.int .u8 25), .lit (.int .u8 14), .lit (.int .u8 19), .lit (.int .u8 9), .lit (.int .u8 13), .lit (.int .u8 8), .lit (.int .u8 7), .lit (.int .u8 6)]
def laid_internal_strconv_uint64pow10 {H : Type} : DataW H := .agg [.lit (.int .u64 1), .lit (.int .u64 10), .lit (.int .u64 100), .lit (.int .u64 1000), .lit (.int .u64 10000), .lit (.int .u64 100000), .lit (.int .u64 1000000), .lit (.int .u64 10000000), .lit (.int .u64 100000000), .lit (.int .u64 1000000000), .lit (.int .u64 10000000000), .lit (.int .u64 100000000000), .lit (.int .u64 1000000000000), .lit (.int .u64 10000000000000), .lit (.int .u64 100000000000000), .lit (.int .u64 1000000000000000), .lit (.int .u64 10000000000000000), .lit (.int .u64 100000000000000000), .lit (.int .u64 1000000000000000000), .lit (.int .u64 10000000000000000000)]
def laid_strconv_ErrRange {H : Type} : DataW H := .iface "*errors.errorString" (.ptr (.agg [.lit (.string [118, 97, 108, 117, 101, 32, 111, 117, 116, 32, 111, 102, 32, 114, 97, 110, 103, 101])]))
def laid_strconv_ErrSyntax {H : Type} : DataW H := .iface "*errors.errorString" (.ptr (.agg [.lit (.string [105, 110, 118, 97, 108, 105, 100, 32, 115, 121, 110, 116, 97, 120])]))

/-- 'millwheellaw04.LogNone': WHATEVER THE INPUT: true; the input reads as it did. -/
def logNoneSpec : ChangeSpec := { name := "logNone", fn := fun _ => fun
  | [d1, d2] => { results := [.lit (.bool true)], args := [d1, d2] }
  | _ => none }
def logNoneRow : OpenClaim := { program := "ytohpgipgfmkflaagreatdoor", sum := "a8f24932d3a9b4c2b07145163fb9325859e5a446b928e7a75eb5cc8c1714c73a", func := "millwheel/millwheellaw04.LogNone", spec := "logNone", inPlace := ["slices.overlaps[millwheel/disk.file]"], unfollowed := true, recurses := true, named := ["internal/strconv.uint64pow10", "math/bits.deBruijn32tab", "math/bits.deBruijn64tab", "strconv.ErrSyntax", "strconv.ErrRange"], apart := false, laid := [("math/bits.deBruijn32tab", laid_math_bits_deBruijn32tab), ("math/bits.deBruijn64tab", laid_math_bits_deBruijn64tab), ("internal/strconv.uint64pow10", laid_internal_strconv_uint64pow10), ("strconv.ErrRange", laid_strconv_ErrRange), ("strconv.ErrSyntax", laid_strconv_ErrSyntax)] }
def LogNoneSaid : Prop := logNoneRow.holds Tryz.pinned (OpenSpec.ofChange logNoneSpec)

/-- ITS FALSE NEIGHBOUR: 'it returns false'. Refute it at one input. -/
def logNoneWrong : ChangeSpec := { name := "logNone", fn := fun _ => fun
  | [d1, d2] => { results := [.lit (.bool false)], args := [d1, d2] }
  | _ => none }
def LogNoneWrongFalsely : Prop := logNoneRow.holds Tryz.pinned (OpenSpec.ofChange logNoneWrong)

/-- 'millwheellaw04.LogEnded': WHATEVER THE INPUT: true; the input reads as it did. -/
def logEndedSpec : ChangeSpec := { name := "logEnded", fn := fun _ => fun
  | [d1, d2, d3, d4] => { results := [.lit (.bool true)], args := [d1, d2, d3, d4] }
  | _ => none }
def logEndedRow : OpenClaim := { program := "ytohpgipgfmkflaagreatdoor", sum := "a8f24932d3a9b4c2b07145163fb9325859e5a446b928e7a75eb5cc8c1714c73a", func := "millwheel/millwheellaw04.LogEnded", spec := "logEnded", inPlace := ["slices.overlaps[millwheel/disk.file]"], unfollowed := true, recurses := true, named := ["internal/strconv.uint64pow10", "math/bits.deBruijn32tab", "math/bits.deBruijn64tab", "strconv.ErrSyntax", "strconv.ErrRange"], apart := false, laid := [("math/bits.deBruijn32tab", laid_math_bits_deBruijn32tab), ("math/bits.deBruijn64tab", laid_math_bits_deBruijn64tab), ("internal/strconv.uint64pow10", laid_internal_strconv_uint64pow10), ("strconv.ErrRange", laid_strconv_ErrRange), ("strconv.ErrSyntax", laid_strconv_ErrSyntax)] }
def LogEndedSaid : Prop := logEndedRow.holds Tryz.pinned (OpenSpec.ofChange logEndedSpec)

/-- ITS FALSE NEIGHBOUR: 'it returns false'. Refute it at one input. -/
def logEndedWrong : ChangeSpec := { name := "logEnded", fn := fun _ => fun
  | [d1, d2, d3, d4] => { results := [.lit (.bool false)], args := [d1, d2, d3, d4] }
  | _ => none }
def LogEndedWrongFalsely : Prop := logEndedRow.holds Tryz.pinned (OpenSpec.ofChange logEndedWrong)

/-- 'millwheellaw04.LogForms': WHATEVER THE INPUT: true; the input reads as it did. -/
def logFormsSpec : ChangeSpec := { name := "logForms", fn := fun _ => fun
  | [d1, d2, d3, d4] => { results := [.lit (.bool true)], args := [d1, d2, d3, d4] }
  | _ => none }
def logFormsRow : OpenClaim := { program := "ytohpgipgfmkflaagreatdoor", sum := "a8f24932d3a9b4c2b07145163fb9325859e5a446b928e7a75eb5cc8c1714c73a", func := "millwheel/millwheellaw04.LogForms", spec := "logForms", inPlace := ["slices.overlaps[millwheel/disk.file]"], unfollowed := true, recurses := true, named := ["internal/strconv.uint64pow10", "math/bits.deBruijn32tab", "math/bits.deBruijn64tab", "strconv.ErrSyntax", "strconv.ErrRange"], apart := false, laid := [("math/bits.deBruijn32tab", laid_math_bits_deBruijn32tab), ("math/bits.deBruijn64tab", laid_math_bits_deBruijn64tab), ("internal/strconv.uint64pow10", laid_internal_strconv_uint64pow10), ("strconv.ErrRange", laid_strconv_ErrRange), ("strconv.ErrSyntax", laid_strconv_ErrSyntax)] }
def LogFormsSaid : Prop := logFormsRow.holds Tryz.pinned (OpenSpec.ofChange logFormsSpec)

/-- ITS FALSE NEIGHBOUR: 'it returns false'. Refute it at one input. -/
def logFormsWrong : ChangeSpec := { name := "logForms", fn := fun _ => fun
  | [d1, d2, d3, d4] => { results := [.lit (.bool false)], args := [d1, d2, d3, d4] }
  | _ => none }
def LogFormsWrongFalsely : Prop := logFormsRow.holds Tryz.pinned (OpenSpec.ofChange logFormsWrong)

/-- 'millwheellaw04.LogTells': WHATEVER THE INPUT: true; the input reads as it did. -/
def logTellsSpec : ChangeSpec := { name := "logTells", fn := fun _ => fun
  | [d1, d2, d3, d4, d5] => { results := [.lit (.bool true)], args := [d1, d2, d3, d4, d5] }
  | _ => none }
def logTellsRow : OpenClaim := { program := "ytohpgipgfmkflaagreatdoor", sum := "a8f24932d3a9b4c2b07145163fb9325859e5a446b928e7a75eb5cc8c1714c73a", func := "millwheel/millwheellaw04.LogTells", spec := "logTells", inPlace := ["slices.overlaps[millwheel/disk.file]"], unfollowed := true, recurses := true, named := ["internal/strconv.uint64pow10", "math/bits.deBruijn32tab", "math/bits.deBruijn64tab", "strconv.ErrSyntax", "strconv.ErrRange"], apart := false, laid := [("math/bits.deBruijn32tab", laid_math_bits_deBruijn32tab), ("math/bits.deBruijn64tab", laid_math_bits_deBruijn64tab), ("internal/strconv.uint64pow10", laid_internal_strconv_uint64pow10), ("strconv.ErrRange", laid_strconv_ErrRange), ("strconv.ErrSyntax", laid_strconv_ErrSyntax)] }
def LogTellsSaid : Prop := logTellsRow.holds Tryz.pinned (OpenSpec.ofChange logTellsSpec)

/-- ITS FALSE NEIGHBOUR: 'it returns false'. Refute it at one input. -/
def logTellsWrong : ChangeSpec := { name := "logTells", fn := fun _ => fun
  | [d1, d2, d3, d4, d5] => { results := [.lit (.bool false)], args := [d1, d2, d3, d4, d5] }
  | _ => none }
def LogTellsWrongFalsely : Prop := logTellsRow.holds Tryz.pinned (OpenSpec.ofChange logTellsWrong)

/-- 'millwheellaw04.LogBack': WHATEVER THE INPUT: true; the input reads as it did. -/
def logBackSpec : ChangeSpec := { name := "logBack", fn := fun _ => fun
  | [d1, d2, d3, d4] => { results := [.lit (.bool true)], args := [d1, d2, d3, d4] }
  | _ => none }
def logBackRow : OpenClaim := { program := "ytohpgipgfmkflaagreatdoor", sum := "a8f24932d3a9b4c2b07145163fb9325859e5a446b928e7a75eb5cc8c1714c73a", func := "millwheel/millwheellaw04.LogBack", spec := "logBack", inPlace := ["slices.overlaps[millwheel/disk.file]"], unfollowed := true, recurses := true, named := ["internal/strconv.uint64pow10", "math/bits.deBruijn32tab", "math/bits.deBruijn64tab", "strconv.ErrSyntax", "strconv.ErrRange"], apart := false, laid := [("math/bits.deBruijn32tab", laid_math_bits_deBruijn32tab), ("math/bits.deBruijn64tab", laid_math_bits_deBruijn64tab), ("internal/strconv.uint64pow10", laid_internal_strconv_uint64pow10), ("strconv.ErrRange", laid_strconv_ErrRange), ("strconv.ErrSyntax", laid_strconv_ErrSyntax)] }
def LogBackSaid : Prop := logBackRow.holds Tryz.pinned (OpenSpec.ofChange logBackSpec)

/-- ITS FALSE NEIGHBOUR: 'it returns false'. Refute it at one input. -/
def logBackWrong : ChangeSpec := { name := "logBack", fn := fun _ => fun
  | [d1, d2, d3, d4] => { results := [.lit (.bool false)], args := [d1, d2, d3, d4] }
  | _ => none }
def LogBackWrongFalsely : Prop := logBackRow.holds Tryz.pinned (OpenSpec.ofChange logBackWrong)

/-- 'millwheellaw04.LogTrims': WHATEVER THE INPUT: true; the input reads as it did. -/
def logTrimsSpec : ChangeSpec := { name := "logTrims", fn := fun _ => fun
  | [d1, d2] => { results := [.lit (.bool true)], args := [d1, d2] }
  | _ => none }
def logTrimsRow : OpenClaim := { program := "ytohpgipgfmkflaagreatdoor", sum := "a8f24932d3a9b4c2b07145163fb9325859e5a446b928e7a75eb5cc8c1714c73a", func := "millwheel/millwheellaw04.LogTrims", spec := "logTrims", inPlace := ["slices.overlaps[millwheel/disk.file]"], unfollowed := true, recurses := true, named := ["internal/strconv.uint64pow10", "math/bits.deBruijn32tab", "math/bits.deBruijn64tab", "strconv.ErrSyntax", "strconv.ErrRange"], apart := false, laid := [("math/bits.deBruijn32tab", laid_math_bits_deBruijn32tab), ("math/bits.deBruijn64tab", laid_math_bits_deBruijn64tab), ("internal/strconv.uint64pow10", laid_internal_strconv_uint64pow10), ("strconv.ErrRange", laid_strconv_ErrRange), ("strconv.ErrSyntax", laid_strconv_ErrSyntax)] }
def LogTrimsSaid : Prop := logTrimsRow.holds Tryz.pinned (OpenSpec.ofChange logTrimsSpec)

/-- ITS FALSE NEIGHBOUR: 'it returns false'. Refute it at one input. -/
def logTrimsWrong : ChangeSpec := { name := "logTrims", fn := fun _ => fun
  | [d1, d2] => { results := [.lit (.bool false)], args := [d1, d2] }
  | _ => none }
def LogTrimsWrongFalsely : Prop := logTrimsRow.holds Tryz.pinned (OpenSpec.ofChange logTrimsWrong)

/-- 'millwheellaw04.LogNumbers': WHATEVER THE INPUT: true; the input reads as it did. -/
def logNumbersSpec : ChangeSpec := { name := "logNumbers", fn := fun _ => fun
  | [] => { results := [.lit (.bool true)], args := [] }
  | _ => none }
def logNumbersRow : OpenClaim := { program := "ytohpgipgfmkflaagreatdoor", sum := "a8f24932d3a9b4c2b07145163fb9325859e5a446b928e7a75eb5cc8c1714c73a", func := "millwheel/millwheellaw04.LogNumbers", spec := "logNumbers", inPlace := ["slices.overlaps[millwheel/disk.file]"], unfollowed := true, recurses := true, named := ["internal/strconv.uint64pow10", "math/bits.deBruijn32tab", "math/bits.deBruijn64tab", "strconv.ErrSyntax", "strconv.ErrRange"], apart := false, laid := [("math/bits.deBruijn32tab", laid_math_bits_deBruijn32tab), ("math/bits.deBruijn64tab", laid_math_bits_deBruijn64tab), ("internal/strconv.uint64pow10", laid_internal_strconv_uint64pow10), ("strconv.ErrRange", laid_strconv_ErrRange), ("strconv.ErrSyntax", laid_strconv_ErrSyntax)] }
def LogNumbersSaid : Prop := logNumbersRow.holds Tryz.pinned (OpenSpec.ofChange logNumbersSpec)

/-- ITS FALSE NEIGHBOUR: 'it returns false'. Refute it at one input. -/
def logNumbersWrong : ChangeSpec := { name := "logNumbers", fn := fun _ => fun
  | [] => { results := [.lit (.bool false)], args := [] }
  | _ => none }
def LogNumbersWrongFalsely : Prop := logNumbersRow.holds Tryz.pinned (OpenSpec.ofChange logNumbersWrong)

/-- 'millwheellaw05.ScanNone': WHATEVER THE INPUT: true; the input reads as it did. -/
def scanNoneSpec : ChangeSpec := { name := "scanNone", fn := fun _ => fun
  | [d1, d2] => { results := [.lit (.bool true)], args := [d1, d2] }
  | _ => none }
def scanNoneRow : OpenClaim := { program := "ytohpgipgfmkflaagreatdoor", sum := "a8f24932d3a9b4c2b07145163fb9325859e5a446b928e7a75eb5cc8c1714c73a", func := "millwheel/millwheellaw05.ScanNone", spec := "scanNone", inPlace := ["slices.overlaps[millwheel/disk.file]"], unfollowed := true, recurses := true, named := ["strconv.ErrSyntax", "strconv.ErrRange", "internal/strconv.uint64pow10", "math/bits.deBruijn32tab", "math/bits.deBruijn64tab"], apart := false, laid := [("math/bits.deBruijn32tab", laid_math_bits_deBruijn32tab), ("math/bits.deBruijn64tab", laid_math_bits_deBruijn64tab), ("internal/strconv.uint64pow10", laid_internal_strconv_uint64pow10), ("strconv.ErrRange", laid_strconv_ErrRange), ("strconv.ErrSyntax", laid_strconv_ErrSyntax)] }
def ScanNoneSaid : Prop := scanNoneRow.holds Tryz.pinned (OpenSpec.ofChange scanNoneSpec)

/-- ITS FALSE NEIGHBOUR: 'it returns false'. Refute it at one input. -/
def scanNoneWrong : ChangeSpec := { name := "scanNone", fn := fun _ => fun
  | [d1, d2] => { results := [.lit (.bool false)], args := [d1, d2] }
  | _ => none }
def ScanNoneWrongFalsely : Prop := scanNoneRow.holds Tryz.pinned (OpenSpec.ofChange scanNoneWrong)

/-- 'millwheellaw05.ScanLess': WHATEVER THE INPUT: true; the input reads as it did. -/
def scanLessSpec : ChangeSpec := { name := "scanLess", fn := fun _ => fun
  | [d1, d2, d3] => { results := [.lit (.bool true)], args := [d1, d2, d3] }
  | _ => none }
def scanLessRow : OpenClaim := { program := "ytohpgipgfmkflaagreatdoor", sum := "a8f24932d3a9b4c2b07145163fb9325859e5a446b928e7a75eb5cc8c1714c73a", func := "millwheel/millwheellaw05.ScanLess", spec := "scanLess", inPlace := ["slices.overlaps[millwheel/disk.file]"], unfollowed := true, recurses := true, named := ["internal/strconv.uint64pow10", "math/bits.deBruijn32tab", "math/bits.deBruijn64tab", "strconv.ErrSyntax", "strconv.ErrRange"], apart := false, laid := [("math/bits.deBruijn32tab", laid_math_bits_deBruijn32tab), ("math/bits.deBruijn64tab", laid_math_bits_deBruijn64tab), ("internal/strconv.uint64pow10", laid_internal_strconv_uint64pow10), ("strconv.ErrRange", laid_strconv_ErrRange), ("strconv.ErrSyntax", laid_strconv_ErrSyntax)] }
def ScanLessSaid : Prop := scanLessRow.holds Tryz.pinned (OpenSpec.ofChange scanLessSpec)

/-- ITS FALSE NEIGHBOUR: 'it returns false'. Refute it at one input. -/
def scanLessWrong : ChangeSpec := { name := "scanLess", fn := fun _ => fun
  | [d1, d2, d3] => { results := [.lit (.bool false)], args := [d1, d2, d3] }
  | _ => none }
def ScanLessWrongFalsely : Prop := scanLessRow.holds Tryz.pinned (OpenSpec.ofChange scanLessWrong)

/-- 'millwheellaw05.ScanGone': WHATEVER THE INPUT: true; the input reads as it did. -/
def scanGoneSpec : ChangeSpec := { name := "scanGone", fn := fun _ => fun
  | [d1, d2, d3, d4] => { results := [.lit (.bool true)], args := [d1, d2, d3, d4] }
  | _ => none }
def scanGoneRow : OpenClaim := { program := "ytohpgipgfmkflaagreatdoor", sum := "a8f24932d3a9b4c2b07145163fb9325859e5a446b928e7a75eb5cc8c1714c73a", func := "millwheel/millwheellaw05.ScanGone", spec := "scanGone", inPlace := ["slices.overlaps[millwheel/disk.file]"], unfollowed := true, recurses := true, named := ["internal/strconv.uint64pow10", "math/bits.deBruijn32tab", "math/bits.deBruijn64tab", "strconv.ErrSyntax", "strconv.ErrRange"], apart := false, laid := [("math/bits.deBruijn32tab", laid_math_bits_deBruijn32tab), ("math/bits.deBruijn64tab", laid_math_bits_deBruijn64tab), ("internal/strconv.uint64pow10", laid_internal_strconv_uint64pow10), ("strconv.ErrRange", laid_strconv_ErrRange), ("strconv.ErrSyntax", laid_strconv_ErrSyntax)] }
def ScanGoneSaid : Prop := scanGoneRow.holds Tryz.pinned (OpenSpec.ofChange scanGoneSpec)

/-- ITS FALSE NEIGHBOUR: 'it returns false'. Refute it at one input. -/
def scanGoneWrong : ChangeSpec := { name := "scanGone", fn := fun _ => fun
  | [d1, d2, d3, d4] => { results := [.lit (.bool false)], args := [d1, d2, d3, d4] }
  | _ => none }
def ScanGoneWrongFalsely : Prop := scanGoneRow.holds Tryz.pinned (OpenSpec.ofChange scanGoneWrong)

/-- 'millwheellaw05.ScanNumbers': WHATEVER THE INPUT: true; the input reads as it did. -/
def scanNumbersSpec : ChangeSpec := { name := "scanNumbers", fn := fun _ => fun
  | [] => { results := [.lit (.bool true)], args := [] }
  | _ => none }
def scanNumbersRow : OpenClaim := { program := "ytohpgipgfmkflaagreatdoor", sum := "a8f24932d3a9b4c2b07145163fb9325859e5a446b928e7a75eb5cc8c1714c73a", func := "millwheel/millwheellaw05.ScanNumbers", spec := "scanNumbers", inPlace := ["slices.overlaps[millwheel/disk.file]"], unfollowed := true, recurses := true, named := ["internal/strconv.uint64pow10", "math/bits.deBruijn32tab", "math/bits.deBruijn64tab", "strconv.ErrSyntax", "strconv.ErrRange"], apart := false, laid := [("math/bits.deBruijn32tab", laid_math_bits_deBruijn32tab), ("math/bits.deBruijn64tab", laid_math_bits_deBruijn64tab), ("internal/strconv.uint64pow10", laid_internal_strconv_uint64pow10), ("strconv.ErrRange", laid_strconv_ErrRange), ("strconv.ErrSyntax", laid_strconv_ErrSyntax)] }
def ScanNumbersSaid : Prop := scanNumbersRow.holds Tryz.pinned (OpenSpec.ofChange scanNumbersSpec)

/-- ITS FALSE NEIGHBOUR: 'it returns false'. Refute it at one input. -/
def scanNumbersWrong : ChangeSpec := { name := "scanNumbers", fn := fun _ => fun
  | [] => { results := [.lit (.bool false)], args := [] }
  | _ => none }
def ScanNumbersWrongFalsely : Prop := scanNumbersRow.holds Tryz.pinned (OpenSpec.ofChange scanNumbersWrong)

/-- 'millwheellaw05.ScanTwice': WHATEVER THE INPUT: true; the input reads as it did. -/
def scanTwiceSpec : ChangeSpec := { name := "scanTwice", fn := fun _ => fun
  | [d1, d2, d3] => { results := [.lit (.bool true)], args := [d1, d2, d3] }
  | _ => none }
def scanTwiceRow : OpenClaim := { program := "ytohpgipgfmkflaagreatdoor", sum := "a8f24932d3a9b4c2b07145163fb9325859e5a446b928e7a75eb5cc8c1714c73a", func := "millwheel/millwheellaw05.ScanTwice", spec := "scanTwice", inPlace := ["slices.overlaps[millwheel/disk.file]"], unfollowed := true, recurses := true, named := ["internal/strconv.uint64pow10", "math/bits.deBruijn32tab", "math/bits.deBruijn64tab", "strconv.ErrSyntax", "strconv.ErrRange"], apart := false, laid := [("math/bits.deBruijn32tab", laid_math_bits_deBruijn32tab), ("math/bits.deBruijn64tab", laid_math_bits_deBruijn64tab), ("internal/strconv.uint64pow10", laid_internal_strconv_uint64pow10), ("strconv.ErrRange", laid_strconv_ErrRange), ("strconv.ErrSyntax", laid_strconv_ErrSyntax)] }
def ScanTwiceSaid : Prop := scanTwiceRow.holds Tryz.pinned (OpenSpec.ofChange scanTwiceSpec)

/-- ITS FALSE NEIGHBOUR: 'it returns false'. Refute it at one input. -/
def scanTwiceWrong : ChangeSpec := { name := "scanTwice", fn := fun _ => fun
  | [d1, d2, d3] => { results := [.lit (.bool false)], args := [d1, d2, d3] }
  | _ => none }
def ScanTwiceWrongFalsely : Prop := scanTwiceRow.holds Tryz.pinned (OpenSpec.ofChange scanTwiceWrong)

/-- 'millwheellaw05.ScanKeeps': WHATEVER THE INPUT: true; the input reads as it did. -/
def scanKeepsSpec : ChangeSpec := { name := "scanKeeps", fn := fun _ => fun
  | [d1, d2] => { results := [.lit (.bool true)], args := [d1, d2] }
  | _ => none }
def scanKeepsRow : OpenClaim := { program := "ytohpgipgfmkflaagreatdoor", sum := "a8f24932d3a9b4c2b07145163fb9325859e5a446b928e7a75eb5cc8c1714c73a", func := "millwheel/millwheellaw05.ScanKeeps", spec := "scanKeeps", inPlace := ["slices.overlaps[millwheel/disk.file]"], unfollowed := true, recurses := true, named := ["strconv.ErrSyntax", "strconv.ErrRange", "internal/strconv.uint64pow10", "math/bits.deBruijn32tab", "math/bits.deBruijn64tab"], apart := false, laid := [("math/bits.deBruijn32tab", laid_math_bits_deBruijn32tab), ("math/bits.deBruijn64tab", laid_math_bits_deBruijn64tab), ("internal/strconv.uint64pow10", laid_internal_strconv_uint64pow10), ("strconv.ErrRange", laid_strconv_ErrRange), ("strconv.ErrSyntax", laid_strconv_ErrSyntax)] }
def ScanKeepsSaid : Prop := scanKeepsRow.holds Tryz.pinned (OpenSpec.ofChange scanKeepsSpec)

/-- ITS FALSE NEIGHBOUR: 'it returns false'. Refute it at one input. -/
def scanKeepsWrong : ChangeSpec := { name := "scanKeeps", fn := fun _ => fun
  | [d1, d2] => { results := [.lit (.bool false)], args := [d1, d2] }
  | _ => none }
def ScanKeepsWrongFalsely : Prop := scanKeepsRow.holds Tryz.pinned (OpenSpec.ofChange scanKeepsWrong)

/-- 'millwheellaw05.ScanTells': WHATEVER THE INPUT: true; the input reads as it did. -/
def scanTellsSpec : ChangeSpec := { name := "scanTells", fn := fun _ => fun
  | [d1, d2, d3, d4] => { results := [.lit (.bool true)], args := [d1, d2, d3, d4] }
  | _ => none }
def scanTellsRow : OpenClaim := { program := "ytohpgipgfmkflaagreatdoor", sum := "a8f24932d3a9b4c2b07145163fb9325859e5a446b928e7a75eb5cc8c1714c73a", func := "millwheel/millwheellaw05.ScanTells", spec := "scanTells", inPlace := ["slices.overlaps[millwheel/disk.file]"], unfollowed := true, recurses := true, named := ["internal/strconv.uint64pow10", "math/bits.deBruijn32tab", "math/bits.deBruijn64tab", "strconv.ErrSyntax", "strconv.ErrRange"], apart := false, laid := [("math/bits.deBruijn32tab", laid_math_bits_deBruijn32tab), ("math/bits.deBruijn64tab", laid_math_bits_deBruijn64tab), ("internal/strconv.uint64pow10", laid_internal_strconv_uint64pow10), ("strconv.ErrRange", laid_strconv_ErrRange), ("strconv.ErrSyntax", laid_strconv_ErrSyntax)] }
def ScanTellsSaid : Prop := scanTellsRow.holds Tryz.pinned (OpenSpec.ofChange scanTellsSpec)

/-- ITS FALSE NEIGHBOUR: 'it returns false'. Refute it at one input. -/
def scanTellsWrong : ChangeSpec := { name := "scanTells", fn := fun _ => fun
  | [d1, d2, d3, d4] => { results := [.lit (.bool false)], args := [d1, d2, d3, d4] }
  | _ => none }
def ScanTellsWrongFalsely : Prop := scanTellsRow.holds Tryz.pinned (OpenSpec.ofChange scanTellsWrong)

/-- 'millwheellaw05.ScanOpens': WHATEVER THE INPUT: true; the input reads as it did. -/
def scanOpensSpec : ChangeSpec := { name := "scanOpens", fn := fun _ => fun
  | [d1, d2, d3, d4] => { results := [.lit (.bool true)], args := [d1, d2, d3, d4] }
  | _ => none }
def scanOpensRow : OpenClaim := { program := "ytohpgipgfmkflaagreatdoor", sum := "a8f24932d3a9b4c2b07145163fb9325859e5a446b928e7a75eb5cc8c1714c73a", func := "millwheel/millwheellaw05.ScanOpens", spec := "scanOpens", inPlace := ["slices.overlaps[millwheel/disk.file]"], unfollowed := true, recurses := true, named := ["internal/strconv.uint64pow10", "math/bits.deBruijn32tab", "math/bits.deBruijn64tab", "strconv.ErrSyntax", "strconv.ErrRange"], apart := false, laid := [("math/bits.deBruijn32tab", laid_math_bits_deBruijn32tab), ("math/bits.deBruijn64tab", laid_math_bits_deBruijn64tab), ("internal/strconv.uint64pow10", laid_internal_strconv_uint64pow10), ("strconv.ErrRange", laid_strconv_ErrRange), ("strconv.ErrSyntax", laid_strconv_ErrSyntax)] }
def ScanOpensSaid : Prop := scanOpensRow.holds Tryz.pinned (OpenSpec.ofChange scanOpensSpec)

/-- ITS FALSE NEIGHBOUR: 'it returns false'. Refute it at one input. -/
def scanOpensWrong : ChangeSpec := { name := "scanOpens", fn := fun _ => fun
  | [d1, d2, d3, d4] => { results := [.lit (.bool false)], args := [d1, d2, d3, d4] }
  | _ => none }
def ScanOpensWrongFalsely : Prop := scanOpensRow.holds Tryz.pinned (OpenSpec.ofChange scanOpensWrong)

/- THE SECOND FORM. 'bulk': how many values and letters a reading holds, each counted each time it is reached (what is shared counts as often as it is met; a slice's spare places count too). A statement '..UptoSaid' is the law's where the arguments, and the package variables that the reading takes, are together of bulk at most 1048576: NARROWER than '..Said'. Prove '..Said' where nothing that the law and all that it calls make is longer than what came in: it says more and counts as full. Else prove '..UptoSaid'. A law counts once. -/
mutual
def uptoBulk {H : Type} : DataW H → Nat
  | .lit (.string bytes) => bytes.length + 1
  | .lit _ => 1
  | .nil => 1
  | .ptr d => uptoBulk d + 1
  | .slice elems spare => uptoBulkAll elems + uptoBulkAll spare + 1
  | .agg parts => uptoBulkAll parts + 1
  | .iface _ d => uptoBulk d + 1
  | .map entries => uptoBulkEntries entries + 1
  | .held _ => 1
def uptoBulkAll {H : Type} : List (DataW H) → Nat
  | [] => 0
  | d :: r => uptoBulk d + uptoBulkAll r
def uptoBulkEntries {H : Type} : List (Lit × DataW H) → Nat
  | [] => 0
  | x :: r => uptoBulkEntry x + uptoBulkEntries r
def uptoBulkEntry {H : Type} : Lit × DataW H → Nat
  | (.string bytes, d) => bytes.length + uptoBulk d + 1
  | (_, d) => uptoBulk d + 1
 end
def uptoSmall : (H : Type) → List (DataW H) → Bool := fun _ ds => decide (uptoBulkAll ds ≤ 1048576)
def OpenSpec.upto (s : _root_.Go.ChangeSpec) : _root_.Go.OpenSpec := { _root_.Go.OpenSpec.ofChange s with cond := some uptoSmall }

/-- 'millwheellaw04.LogNone', WHERE WHAT IT READS IS OF BULK AT MOST 1048576: true; the input reads as it did. -/
def logNoneUptoRow : OpenClaim := { program := "ytohpgipgfmkflaagreatdoor", sum := "a8f24932d3a9b4c2b07145163fb9325859e5a446b928e7a75eb5cc8c1714c73a", func := "millwheel/millwheellaw04.LogNone", spec := "logNone", inPlace := ["slices.overlaps[millwheel/disk.file]"], unfollowed := true, recurses := true, named := ["internal/strconv.uint64pow10", "math/bits.deBruijn32tab", "math/bits.deBruijn64tab", "strconv.ErrSyntax", "strconv.ErrRange"], apart := false, laid := [("math/bits.deBruijn32tab", laid_math_bits_deBruijn32tab), ("math/bits.deBruijn64tab", laid_math_bits_deBruijn64tab), ("internal/strconv.uint64pow10", laid_internal_strconv_uint64pow10), ("strconv.ErrRange", laid_strconv_ErrRange), ("strconv.ErrSyntax", laid_strconv_ErrSyntax)], narrowed := true }
def LogNoneUptoSaid : Prop := logNoneUptoRow.holds Tryz.pinned (OpenSpec.upto logNoneSpec)

/-- 'millwheellaw04.LogEnded', WHERE WHAT IT READS IS OF BULK AT MOST 1048576: true; the input reads as it did. -/
def logEndedUptoRow : OpenClaim := { program := "ytohpgipgfmkflaagreatdoor", sum := "a8f24932d3a9b4c2b07145163fb9325859e5a446b928e7a75eb5cc8c1714c73a", func := "millwheel/millwheellaw04.LogEnded", spec := "logEnded", inPlace := ["slices.overlaps[millwheel/disk.file]"], unfollowed := true, recurses := true, named := ["internal/strconv.uint64pow10", "math/bits.deBruijn32tab", "math/bits.deBruijn64tab", "strconv.ErrSyntax", "strconv.ErrRange"], apart := false, laid := [("math/bits.deBruijn32tab", laid_math_bits_deBruijn32tab), ("math/bits.deBruijn64tab", laid_math_bits_deBruijn64tab), ("internal/strconv.uint64pow10", laid_internal_strconv_uint64pow10), ("strconv.ErrRange", laid_strconv_ErrRange), ("strconv.ErrSyntax", laid_strconv_ErrSyntax)], narrowed := true }
def LogEndedUptoSaid : Prop := logEndedUptoRow.holds Tryz.pinned (OpenSpec.upto logEndedSpec)

/-- 'millwheellaw04.LogForms', WHERE WHAT IT READS IS OF BULK AT MOST 1048576: true; the input reads as it did. -/
def logFormsUptoRow : OpenClaim := { program := "ytohpgipgfmkflaagreatdoor", sum := "a8f24932d3a9b4c2b07145163fb9325859e5a446b928e7a75eb5cc8c1714c73a", func := "millwheel/millwheellaw04.LogForms", spec := "logForms", inPlace := ["slices.overlaps[millwheel/disk.file]"], unfollowed := true, recurses := true, named := ["internal/strconv.uint64pow10", "math/bits.deBruijn32tab", "math/bits.deBruijn64tab", "strconv.ErrSyntax", "strconv.ErrRange"], apart := false, laid := [("math/bits.deBruijn32tab", laid_math_bits_deBruijn32tab), ("math/bits.deBruijn64tab", laid_math_bits_deBruijn64tab), ("internal/strconv.uint64pow10", laid_internal_strconv_uint64pow10), ("strconv.ErrRange", laid_strconv_ErrRange), ("strconv.ErrSyntax", laid_strconv_ErrSyntax)], narrowed := true }
def LogFormsUptoSaid : Prop := logFormsUptoRow.holds Tryz.pinned (OpenSpec.upto logFormsSpec)

/-- 'millwheellaw04.LogTells', WHERE WHAT IT READS IS OF BULK AT MOST 1048576: true; the input reads as it did. -/
def logTellsUptoRow : OpenClaim := { program := "ytohpgipgfmkflaagreatdoor", sum := "a8f24932d3a9b4c2b07145163fb9325859e5a446b928e7a75eb5cc8c1714c73a", func := "millwheel/millwheellaw04.LogTells", spec := "logTells", inPlace := ["slices.overlaps[millwheel/disk.file]"], unfollowed := true, recurses := true, named := ["internal/strconv.uint64pow10", "math/bits.deBruijn32tab", "math/bits.deBruijn64tab", "strconv.ErrSyntax", "strconv.ErrRange"], apart := false, laid := [("math/bits.deBruijn32tab", laid_math_bits_deBruijn32tab), ("math/bits.deBruijn64tab", laid_math_bits_deBruijn64tab), ("internal/strconv.uint64pow10", laid_internal_strconv_uint64pow10), ("strconv.ErrRange", laid_strconv_ErrRange), ("strconv.ErrSyntax", laid_strconv_ErrSyntax)], narrowed := true }
def LogTellsUptoSaid : Prop := logTellsUptoRow.holds Tryz.pinned (OpenSpec.upto logTellsSpec)

/-- 'millwheellaw04.LogBack', WHERE WHAT IT READS IS OF BULK AT MOST 1048576: true; the input reads as it did. -/
def logBackUptoRow : OpenClaim := { program := "ytohpgipgfmkflaagreatdoor", sum := "a8f24932d3a9b4c2b07145163fb9325859e5a446b928e7a75eb5cc8c1714c73a", func := "millwheel/millwheellaw04.LogBack", spec := "logBack", inPlace := ["slices.overlaps[millwheel/disk.file]"], unfollowed := true, recurses := true, named := ["internal/strconv.uint64pow10", "math/bits.deBruijn32tab", "math/bits.deBruijn64tab", "strconv.ErrSyntax", "strconv.ErrRange"], apart := false, laid := [("math/bits.deBruijn32tab", laid_math_bits_deBruijn32tab), ("math/bits.deBruijn64tab", laid_math_bits_deBruijn64tab), ("internal/strconv.uint64pow10", laid_internal_strconv_uint64pow10), ("strconv.ErrRange", laid_strconv_ErrRange), ("strconv.ErrSyntax", laid_strconv_ErrSyntax)], narrowed := true }
def LogBackUptoSaid : Prop := logBackUptoRow.holds Tryz.pinned (OpenSpec.upto logBackSpec)

/-- 'millwheellaw04.LogTrims', WHERE WHAT IT READS IS OF BULK AT MOST 1048576: true; the input reads as it did. -/
def logTrimsUptoRow : OpenClaim := { program := "ytohpgipgfmkflaagreatdoor", sum := "a8f24932d3a9b4c2b07145163fb9325859e5a446b928e7a75eb5cc8c1714c73a", func := "millwheel/millwheellaw04.LogTrims", spec := "logTrims", inPlace := ["slices.overlaps[millwheel/disk.file]"], unfollowed := true, recurses := true, named := ["internal/strconv.uint64pow10", "math/bits.deBruijn32tab", "math/bits.deBruijn64tab", "strconv.ErrSyntax", "strconv.ErrRange"], apart := false, laid := [("math/bits.deBruijn32tab", laid_math_bits_deBruijn32tab), ("math/bits.deBruijn64tab", laid_math_bits_deBruijn64tab), ("internal/strconv.uint64pow10", laid_internal_strconv_uint64pow10), ("strconv.ErrRange", laid_strconv_ErrRange), ("strconv.ErrSyntax", laid_strconv_ErrSyntax)], narrowed := true }
def LogTrimsUptoSaid : Prop := logTrimsUptoRow.holds Tryz.pinned (OpenSpec.upto logTrimsSpec)

/-- 'millwheellaw04.LogNumbers', WHERE WHAT IT READS IS OF BULK AT MOST 1048576: true; the input reads as it did. -/
def logNumbersUptoRow : OpenClaim := { program := "ytohpgipgfmkflaagreatdoor", sum := "a8f24932d3a9b4c2b07145163fb9325859e5a446b928e7a75eb5cc8c1714c73a", func := "millwheel/millwheellaw04.LogNumbers", spec := "logNumbers", inPlace := ["slices.overlaps[millwheel/disk.file]"], unfollowed := true, recurses := true, named := ["internal/strconv.uint64pow10", "math/bits.deBruijn32tab", "math/bits.deBruijn64tab", "strconv.ErrSyntax", "strconv.ErrRange"], apart := false, laid := [("math/bits.deBruijn32tab", laid_math_bits_deBruijn32tab), ("math/bits.deBruijn64tab", laid_math_bits_deBruijn64tab), ("internal/strconv.uint64pow10", laid_internal_strconv_uint64pow10), ("strconv.ErrRange", laid_strconv_ErrRange), ("strconv.ErrSyntax", laid_strconv_ErrSyntax)], narrowed := true }
def LogNumbersUptoSaid : Prop := logNumbersUptoRow.holds Tryz.pinned (OpenSpec.upto logNumbersSpec)

/-- 'millwheellaw05.ScanNone', WHERE WHAT IT READS IS OF BULK AT MOST 1048576: true; the input reads as it did. -/
def scanNoneUptoRow : OpenClaim := { program := "ytohpgipgfmkflaagreatdoor", sum := "a8f24932d3a9b4c2b07145163fb9325859e5a446b928e7a75eb5cc8c1714c73a", func := "millwheel/millwheellaw05.ScanNone", spec := "scanNone", inPlace := ["slices.overlaps[millwheel/disk.file]"], unfollowed := true, recurses := true, named := ["strconv.ErrSyntax", "strconv.ErrRange", "internal/strconv.uint64pow10", "math/bits.deBruijn32tab", "math/bits.deBruijn64tab"], apart := false, laid := [("math/bits.deBruijn32tab", laid_math_bits_deBruijn32tab), ("math/bits.deBruijn64tab", laid_math_bits_deBruijn64tab), ("internal/strconv.uint64pow10", laid_internal_strconv_uint64pow10), ("strconv.ErrRange", laid_strconv_ErrRange), ("strconv.ErrSyntax", laid_strconv_ErrSyntax)], narrowed := true }
def ScanNoneUptoSaid : Prop := scanNoneUptoRow.holds Tryz.pinned (OpenSpec.upto scanNoneSpec)

/-- 'millwheellaw05.ScanLess', WHERE WHAT IT READS IS OF BULK AT MOST 1048576: true; the input reads as it did. -/
def scanLessUptoRow : OpenClaim := { program := "ytohpgipgfmkflaagreatdoor", sum := "a8f24932d3a9b4c2b07145163fb9325859e5a446b928e7a75eb5cc8c1714c73a", func := "millwheel/millwheellaw05.ScanLess", spec := "scanLess", inPlace := ["slices.overlaps[millwheel/disk.file]"], unfollowed := true, recurses := true, named := ["internal/strconv.uint64pow10", "math/bits.deBruijn32tab", "math/bits.deBruijn64tab", "strconv.ErrSyntax", "strconv.ErrRange"], apart := false, laid := [("math/bits.deBruijn32tab", laid_math_bits_deBruijn32tab), ("math/bits.deBruijn64tab", laid_math_bits_deBruijn64tab), ("internal/strconv.uint64pow10", laid_internal_strconv_uint64pow10), ("strconv.ErrRange", laid_strconv_ErrRange), ("strconv.ErrSyntax", laid_strconv_ErrSyntax)], narrowed := true }
def ScanLessUptoSaid : Prop := scanLessUptoRow.holds Tryz.pinned (OpenSpec.upto scanLessSpec)

/-- 'millwheellaw05.ScanGone', WHERE WHAT IT READS IS OF BULK AT MOST 1048576: true; the input reads as it did. -/
def scanGoneUptoRow : OpenClaim := { program := "ytohpgipgfmkflaagreatdoor", sum := "a8f24932d3a9b4c2b07145163fb9325859e5a446b928e7a75eb5cc8c1714c73a", func := "millwheel/millwheellaw05.ScanGone", spec := "scanGone", inPlace := ["slices.overlaps[millwheel/disk.file]"], unfollowed := true, recurses := true, named := ["internal/strconv.uint64pow10", "math/bits.deBruijn32tab", "math/bits.deBruijn64tab", "strconv.ErrSyntax", "strconv.ErrRange"], apart := false, laid := [("math/bits.deBruijn32tab", laid_math_bits_deBruijn32tab), ("math/bits.deBruijn64tab", laid_math_bits_deBruijn64tab), ("internal/strconv.uint64pow10", laid_internal_strconv_uint64pow10), ("strconv.ErrRange", laid_strconv_ErrRange), ("strconv.ErrSyntax", laid_strconv_ErrSyntax)], narrowed := true }
def ScanGoneUptoSaid : Prop := scanGoneUptoRow.holds Tryz.pinned (OpenSpec.upto scanGoneSpec)

/-- 'millwheellaw05.ScanNumbers', WHERE WHAT IT READS IS OF BULK AT MOST 1048576: true; the input reads as it did. -/
def scanNumbersUptoRow : OpenClaim := { program := "ytohpgipgfmkflaagreatdoor", sum := "a8f24932d3a9b4c2b07145163fb9325859e5a446b928e7a75eb5cc8c1714c73a", func := "millwheel/millwheellaw05.ScanNumbers", spec := "scanNumbers", inPlace := ["slices.overlaps[millwheel/disk.file]"], unfollowed := true, recurses := true, named := ["internal/strconv.uint64pow10", "math/bits.deBruijn32tab", "math/bits.deBruijn64tab", "strconv.ErrSyntax", "strconv.ErrRange"], apart := false, laid := [("math/bits.deBruijn32tab", laid_math_bits_deBruijn32tab), ("math/bits.deBruijn64tab", laid_math_bits_deBruijn64tab), ("internal/strconv.uint64pow10", laid_internal_strconv_uint64pow10), ("strconv.ErrRange", laid_strconv_ErrRange), ("strconv.ErrSyntax", laid_strconv_ErrSyntax)], narrowed := true }
def ScanNumbersUptoSaid : Prop := scanNumbersUptoRow.holds Tryz.pinned (OpenSpec.upto scanNumbersSpec)

/-- 'millwheellaw05.ScanTwice', WHERE WHAT IT READS IS OF BULK AT MOST 1048576: true; the input reads as it did. -/
def scanTwiceUptoRow : OpenClaim := { program := "ytohpgipgfmkflaagreatdoor", sum := "a8f24932d3a9b4c2b07145163fb9325859e5a446b928e7a75eb5cc8c1714c73a", func := "millwheel/millwheellaw05.ScanTwice", spec := "scanTwice", inPlace := ["slices.overlaps[millwheel/disk.file]"], unfollowed := true, recurses := true, named := ["internal/strconv.uint64pow10", "math/bits.deBruijn32tab", "math/bits.deBruijn64tab", "strconv.ErrSyntax", "strconv.ErrRange"], apart := false, laid := [("math/bits.deBruijn32tab", laid_math_bits_deBruijn32tab), ("math/bits.deBruijn64tab", laid_math_bits_deBruijn64tab), ("internal/strconv.uint64pow10", laid_internal_strconv_uint64pow10), ("strconv.ErrRange", laid_strconv_ErrRange), ("strconv.ErrSyntax", laid_strconv_ErrSyntax)], narrowed := true }
def ScanTwiceUptoSaid : Prop := scanTwiceUptoRow.holds Tryz.pinned (OpenSpec.upto scanTwiceSpec)

/-- 'millwheellaw05.ScanKeeps', WHERE WHAT IT READS IS OF BULK AT MOST 1048576: true; the input reads as it did. -/
def scanKeepsUptoRow : OpenClaim := { program := "ytohpgipgfmkflaagreatdoor", sum := "a8f24932d3a9b4c2b07145163fb9325859e5a446b928e7a75eb5cc8c1714c73a", func := "millwheel/millwheellaw05.ScanKeeps", spec := "scanKeeps", inPlace := ["slices.overlaps[millwheel/disk.file]"], unfollowed := true, recurses := true, named := ["strconv.ErrSyntax", "strconv.ErrRange", "internal/strconv.uint64pow10", "math/bits.deBruijn32tab", "math/bits.deBruijn64tab"], apart := false, laid := [("math/bits.deBruijn32tab", laid_math_bits_deBruijn32tab), ("math/bits.deBruijn64tab", laid_math_bits_deBruijn64tab), ("internal/strconv.uint64pow10", laid_internal_strconv_uint64pow10), ("strconv.ErrRange", laid_strconv_ErrRange), ("strconv.ErrSyntax", laid_strconv_ErrSyntax)], narrowed := true }
def ScanKeepsUptoSaid : Prop := scanKeepsUptoRow.holds Tryz.pinned (OpenSpec.upto scanKeepsSpec)

/-- 'millwheellaw05.ScanTells', WHERE WHAT IT READS IS OF BULK AT MOST 1048576: true; the input reads as it did. -/
def scanTellsUptoRow : OpenClaim := { program := "ytohpgipgfmkflaagreatdoor", sum := "a8f24932d3a9b4c2b07145163fb9325859e5a446b928e7a75eb5cc8c1714c73a", func := "millwheel/millwheellaw05.ScanTells", spec := "scanTells", inPlace := ["slices.overlaps[millwheel/disk.file]"], unfollowed := true, recurses := true, named := ["internal/strconv.uint64pow10", "math/bits.deBruijn32tab", "math/bits.deBruijn64tab", "strconv.ErrSyntax", "strconv.ErrRange"], apart := false, laid := [("math/bits.deBruijn32tab", laid_math_bits_deBruijn32tab), ("math/bits.deBruijn64tab", laid_math_bits_deBruijn64tab), ("internal/strconv.uint64pow10", laid_internal_strconv_uint64pow10), ("strconv.ErrRange", laid_strconv_ErrRange), ("strconv.ErrSyntax", laid_strconv_ErrSyntax)], narrowed := true }
def ScanTellsUptoSaid : Prop := scanTellsUptoRow.holds Tryz.pinned (OpenSpec.upto scanTellsSpec)

/-- 'millwheellaw05.ScanOpens', WHERE WHAT IT READS IS OF BULK AT MOST 1048576: true; the input reads as it did. -/
def scanOpensUptoRow : OpenClaim := { program := "ytohpgipgfmkflaagreatdoor", sum := "a8f24932d3a9b4c2b07145163fb9325859e5a446b928e7a75eb5cc8c1714c73a", func := "millwheel/millwheellaw05.ScanOpens", spec := "scanOpens", inPlace := ["slices.overlaps[millwheel/disk.file]"], unfollowed := true, recurses := true, named := ["internal/strconv.uint64pow10", "math/bits.deBruijn32tab", "math/bits.deBruijn64tab", "strconv.ErrSyntax", "strconv.ErrRange"], apart := false, laid := [("math/bits.deBruijn32tab", laid_math_bits_deBruijn32tab), ("math/bits.deBruijn64tab", laid_math_bits_deBruijn64tab), ("internal/strconv.uint64pow10", laid_internal_strconv_uint64pow10), ("strconv.ErrRange", laid_strconv_ErrRange), ("strconv.ErrSyntax", laid_strconv_ErrSyntax)], narrowed := true }
def ScanOpensUptoSaid : Prop := scanOpensUptoRow.holds Tryz.pinned (OpenSpec.upto scanOpensSpec)

end Rows
end Go.Proofs.YtohpgipgfmkflaaGreatDoor
