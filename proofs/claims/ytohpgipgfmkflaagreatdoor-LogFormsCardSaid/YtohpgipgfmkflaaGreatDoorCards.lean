/-
  DERIVED. GIVEN WITH THE SEED: THE CARDS: each row of YtohpgipgfmkflaaGreatDoorRows.lean that lists a variable, with what it lists TIED to the program's text (the seventh form; the later family's looks); each row that meets fmt, with fmt's text TOLD by the authors' own Lean function (tested against real Go, not proved from fmt's source: count such statements apart). THE CARD IS WHAT COUNTS. Prove the row's statement (the work); the ties are given (YtohpgipgfmkflaaGreatDoorTie.lean); close each card by the builder's one call (the guide's Derived/Test/ToyasCard.lean, 'card_holds'). Laid BY PROGRAM, IN A SANDBOX (cutbox-door.mjs). By AI agents, Wed Nov 11 2026. No macro, syntax, notation, axiom, sorry.
-/
import Derived.Test.YtohpgipgfmkflaaGreatDoorRows
import GoSem.ClaimSeven
namespace Go.Proofs.YtohpgipgfmkflaaGreatDoor
namespace Rows

/-- THE TIED CARD OF 'millwheellaw04.LogNone'. -/
def logNoneCard : Claim7 := { stood := { row := logNoneRow, standIns := [], harness := (true, "4631de1d970dce34e7e11d0da99cbcac2031c3f449de29f0f55f164613ededce"), looks := true }, kinds := [], alts := [], laidByText := true, laidKinds := [.data, .data, .data, .sentinel, .sentinel], laidTests := true, laidLooks := .later }
def LogNoneCardSaid : Prop := Claim7.holds Tryz.pinned (.plain (OpenSpec.ofChange logNoneSpec)) logNoneCard

/-- THE TIED CARD OF 'millwheellaw04.LogEnded'. -/
def logEndedCard : Claim7 := { stood := { row := logEndedRow, standIns := [], harness := (true, "4631de1d970dce34e7e11d0da99cbcac2031c3f449de29f0f55f164613ededce"), looks := true }, kinds := [], alts := [], laidByText := true, laidKinds := [.data, .data, .data, .sentinel, .sentinel], laidTests := true, laidLooks := .later }
def LogEndedCardSaid : Prop := Claim7.holds Tryz.pinned (.plain (OpenSpec.ofChange logEndedSpec)) logEndedCard

/-- THE TIED CARD OF 'millwheellaw04.LogForms'. -/
def logFormsCard : Claim7 := { stood := { row := logFormsRow, standIns := [], harness := (true, "4631de1d970dce34e7e11d0da99cbcac2031c3f449de29f0f55f164613ededce"), looks := true }, kinds := [], alts := [], laidByText := true, laidKinds := [.data, .data, .data, .sentinel, .sentinel], laidTests := true, laidLooks := .later }
def LogFormsCardSaid : Prop := Claim7.holds Tryz.pinned (.plain (OpenSpec.ofChange logFormsSpec)) logFormsCard

/-- THE TIED CARD OF 'millwheellaw04.LogTells'. -/
def logTellsCard : Claim7 := { stood := { row := logTellsRow, standIns := [], harness := (true, "4631de1d970dce34e7e11d0da99cbcac2031c3f449de29f0f55f164613ededce"), looks := true }, kinds := [], alts := [], laidByText := true, laidKinds := [.data, .data, .data, .sentinel, .sentinel], laidTests := true, laidLooks := .later }
def LogTellsCardSaid : Prop := Claim7.holds Tryz.pinned (.plain (OpenSpec.ofChange logTellsSpec)) logTellsCard

/-- THE TIED CARD OF 'millwheellaw04.LogBack'. -/
def logBackCard : Claim7 := { stood := { row := logBackRow, standIns := [], harness := (true, "4631de1d970dce34e7e11d0da99cbcac2031c3f449de29f0f55f164613ededce"), looks := true }, kinds := [], alts := [], laidByText := true, laidKinds := [.data, .data, .data, .sentinel, .sentinel], laidTests := true, laidLooks := .later }
def LogBackCardSaid : Prop := Claim7.holds Tryz.pinned (.plain (OpenSpec.ofChange logBackSpec)) logBackCard

/-- THE TIED CARD OF 'millwheellaw04.LogTrims'. -/
def logTrimsCard : Claim7 := { stood := { row := logTrimsRow, standIns := [], harness := (true, "4631de1d970dce34e7e11d0da99cbcac2031c3f449de29f0f55f164613ededce"), looks := true }, kinds := [], alts := [], laidByText := true, laidKinds := [.data, .data, .data, .sentinel, .sentinel], laidTests := true, laidLooks := .later }
def LogTrimsCardSaid : Prop := Claim7.holds Tryz.pinned (.plain (OpenSpec.ofChange logTrimsSpec)) logTrimsCard

/-- THE TIED CARD OF 'millwheellaw04.LogNumbers'. -/
def logNumbersCard : Claim7 := { stood := { row := logNumbersRow, standIns := [], harness := (true, "4631de1d970dce34e7e11d0da99cbcac2031c3f449de29f0f55f164613ededce"), looks := true }, kinds := [], alts := [], laidByText := true, laidKinds := [.data, .data, .data, .sentinel, .sentinel], laidTests := true, laidLooks := .later }
def LogNumbersCardSaid : Prop := Claim7.holds Tryz.pinned (.plain (OpenSpec.ofChange logNumbersSpec)) logNumbersCard

/-- THE TIED CARD OF 'millwheellaw05.ScanNone'. -/
def scanNoneCard : Claim7 := { stood := { row := scanNoneRow, standIns := [], harness := (true, "4631de1d970dce34e7e11d0da99cbcac2031c3f449de29f0f55f164613ededce"), looks := true }, kinds := [], alts := [], laidByText := true, laidKinds := [.data, .data, .data, .sentinel, .sentinel], laidTests := true, laidLooks := .later }
def ScanNoneCardSaid : Prop := Claim7.holds Tryz.pinned (.plain (OpenSpec.ofChange scanNoneSpec)) scanNoneCard

/-- THE TIED CARD OF 'millwheellaw05.ScanLess'. -/
def scanLessCard : Claim7 := { stood := { row := scanLessRow, standIns := [], harness := (true, "4631de1d970dce34e7e11d0da99cbcac2031c3f449de29f0f55f164613ededce"), looks := true }, kinds := [], alts := [], laidByText := true, laidKinds := [.data, .data, .data, .sentinel, .sentinel], laidTests := true, laidLooks := .later }
def ScanLessCardSaid : Prop := Claim7.holds Tryz.pinned (.plain (OpenSpec.ofChange scanLessSpec)) scanLessCard

/-- THE TIED CARD OF 'millwheellaw05.ScanGone'. -/
def scanGoneCard : Claim7 := { stood := { row := scanGoneRow, standIns := [], harness := (true, "4631de1d970dce34e7e11d0da99cbcac2031c3f449de29f0f55f164613ededce"), looks := true }, kinds := [], alts := [], laidByText := true, laidKinds := [.data, .data, .data, .sentinel, .sentinel], laidTests := true, laidLooks := .later }
def ScanGoneCardSaid : Prop := Claim7.holds Tryz.pinned (.plain (OpenSpec.ofChange scanGoneSpec)) scanGoneCard

/-- THE TIED CARD OF 'millwheellaw05.ScanNumbers'. -/
def scanNumbersCard : Claim7 := { stood := { row := scanNumbersRow, standIns := [], harness := (true, "4631de1d970dce34e7e11d0da99cbcac2031c3f449de29f0f55f164613ededce"), looks := true }, kinds := [], alts := [], laidByText := true, laidKinds := [.data, .data, .data, .sentinel, .sentinel], laidTests := true, laidLooks := .later }
def ScanNumbersCardSaid : Prop := Claim7.holds Tryz.pinned (.plain (OpenSpec.ofChange scanNumbersSpec)) scanNumbersCard

/-- THE TIED CARD OF 'millwheellaw05.ScanTwice'. -/
def scanTwiceCard : Claim7 := { stood := { row := scanTwiceRow, standIns := [], harness := (true, "4631de1d970dce34e7e11d0da99cbcac2031c3f449de29f0f55f164613ededce"), looks := true }, kinds := [], alts := [], laidByText := true, laidKinds := [.data, .data, .data, .sentinel, .sentinel], laidTests := true, laidLooks := .later }
def ScanTwiceCardSaid : Prop := Claim7.holds Tryz.pinned (.plain (OpenSpec.ofChange scanTwiceSpec)) scanTwiceCard

/-- THE TIED CARD OF 'millwheellaw05.ScanKeeps'. -/
def scanKeepsCard : Claim7 := { stood := { row := scanKeepsRow, standIns := [], harness := (true, "4631de1d970dce34e7e11d0da99cbcac2031c3f449de29f0f55f164613ededce"), looks := true }, kinds := [], alts := [], laidByText := true, laidKinds := [.data, .data, .data, .sentinel, .sentinel], laidTests := true, laidLooks := .later }
def ScanKeepsCardSaid : Prop := Claim7.holds Tryz.pinned (.plain (OpenSpec.ofChange scanKeepsSpec)) scanKeepsCard

/-- THE TIED CARD OF 'millwheellaw05.ScanTells'. -/
def scanTellsCard : Claim7 := { stood := { row := scanTellsRow, standIns := [], harness := (true, "4631de1d970dce34e7e11d0da99cbcac2031c3f449de29f0f55f164613ededce"), looks := true }, kinds := [], alts := [], laidByText := true, laidKinds := [.data, .data, .data, .sentinel, .sentinel], laidTests := true, laidLooks := .later }
def ScanTellsCardSaid : Prop := Claim7.holds Tryz.pinned (.plain (OpenSpec.ofChange scanTellsSpec)) scanTellsCard

/-- THE TIED CARD OF 'millwheellaw05.ScanOpens'. -/
def scanOpensCard : Claim7 := { stood := { row := scanOpensRow, standIns := [], harness := (true, "4631de1d970dce34e7e11d0da99cbcac2031c3f449de29f0f55f164613ededce"), looks := true }, kinds := [], alts := [], laidByText := true, laidKinds := [.data, .data, .data, .sentinel, .sentinel], laidTests := true, laidLooks := .later }
def ScanOpensCardSaid : Prop := Claim7.holds Tryz.pinned (.plain (OpenSpec.ofChange scanOpensSpec)) scanOpensCard

/-- THE SECOND FORM's CARD OF 'millwheellaw04.LogNone'. -/
def logNoneUptoCard : Claim7 := { stood := { row := logNoneUptoRow, standIns := [], harness := (true, "4631de1d970dce34e7e11d0da99cbcac2031c3f449de29f0f55f164613ededce"), looks := true }, kinds := [], alts := [], laidByText := true, laidKinds := [.data, .data, .data, .sentinel, .sentinel], laidTests := true, laidLooks := .later }
def LogNoneUptoCardSaid : Prop := Claim7.holds Tryz.pinned (.plain (OpenSpec.upto logNoneSpec)) logNoneUptoCard

/-- THE SECOND FORM's CARD OF 'millwheellaw04.LogEnded'. -/
def logEndedUptoCard : Claim7 := { stood := { row := logEndedUptoRow, standIns := [], harness := (true, "4631de1d970dce34e7e11d0da99cbcac2031c3f449de29f0f55f164613ededce"), looks := true }, kinds := [], alts := [], laidByText := true, laidKinds := [.data, .data, .data, .sentinel, .sentinel], laidTests := true, laidLooks := .later }
def LogEndedUptoCardSaid : Prop := Claim7.holds Tryz.pinned (.plain (OpenSpec.upto logEndedSpec)) logEndedUptoCard

/-- THE SECOND FORM's CARD OF 'millwheellaw04.LogForms'. -/
def logFormsUptoCard : Claim7 := { stood := { row := logFormsUptoRow, standIns := [], harness := (true, "4631de1d970dce34e7e11d0da99cbcac2031c3f449de29f0f55f164613ededce"), looks := true }, kinds := [], alts := [], laidByText := true, laidKinds := [.data, .data, .data, .sentinel, .sentinel], laidTests := true, laidLooks := .later }
def LogFormsUptoCardSaid : Prop := Claim7.holds Tryz.pinned (.plain (OpenSpec.upto logFormsSpec)) logFormsUptoCard

/-- THE SECOND FORM's CARD OF 'millwheellaw04.LogTells'. -/
def logTellsUptoCard : Claim7 := { stood := { row := logTellsUptoRow, standIns := [], harness := (true, "4631de1d970dce34e7e11d0da99cbcac2031c3f449de29f0f55f164613ededce"), looks := true }, kinds := [], alts := [], laidByText := true, laidKinds := [.data, .data, .data, .sentinel, .sentinel], laidTests := true, laidLooks := .later }
def LogTellsUptoCardSaid : Prop := Claim7.holds Tryz.pinned (.plain (OpenSpec.upto logTellsSpec)) logTellsUptoCard

/-- THE SECOND FORM's CARD OF 'millwheellaw04.LogBack'. -/
def logBackUptoCard : Claim7 := { stood := { row := logBackUptoRow, standIns := [], harness := (true, "4631de1d970dce34e7e11d0da99cbcac2031c3f449de29f0f55f164613ededce"), looks := true }, kinds := [], alts := [], laidByText := true, laidKinds := [.data, .data, .data, .sentinel, .sentinel], laidTests := true, laidLooks := .later }
def LogBackUptoCardSaid : Prop := Claim7.holds Tryz.pinned (.plain (OpenSpec.upto logBackSpec)) logBackUptoCard

/-- THE SECOND FORM's CARD OF 'millwheellaw04.LogTrims'. -/
def logTrimsUptoCard : Claim7 := { stood := { row := logTrimsUptoRow, standIns := [], harness := (true, "4631de1d970dce34e7e11d0da99cbcac2031c3f449de29f0f55f164613ededce"), looks := true }, kinds := [], alts := [], laidByText := true, laidKinds := [.data, .data, .data, .sentinel, .sentinel], laidTests := true, laidLooks := .later }
def LogTrimsUptoCardSaid : Prop := Claim7.holds Tryz.pinned (.plain (OpenSpec.upto logTrimsSpec)) logTrimsUptoCard

/-- THE SECOND FORM's CARD OF 'millwheellaw04.LogNumbers'. -/
def logNumbersUptoCard : Claim7 := { stood := { row := logNumbersUptoRow, standIns := [], harness := (true, "4631de1d970dce34e7e11d0da99cbcac2031c3f449de29f0f55f164613ededce"), looks := true }, kinds := [], alts := [], laidByText := true, laidKinds := [.data, .data, .data, .sentinel, .sentinel], laidTests := true, laidLooks := .later }
def LogNumbersUptoCardSaid : Prop := Claim7.holds Tryz.pinned (.plain (OpenSpec.upto logNumbersSpec)) logNumbersUptoCard

/-- THE SECOND FORM's CARD OF 'millwheellaw05.ScanNone'. -/
def scanNoneUptoCard : Claim7 := { stood := { row := scanNoneUptoRow, standIns := [], harness := (true, "4631de1d970dce34e7e11d0da99cbcac2031c3f449de29f0f55f164613ededce"), looks := true }, kinds := [], alts := [], laidByText := true, laidKinds := [.data, .data, .data, .sentinel, .sentinel], laidTests := true, laidLooks := .later }
def ScanNoneUptoCardSaid : Prop := Claim7.holds Tryz.pinned (.plain (OpenSpec.upto scanNoneSpec)) scanNoneUptoCard

/-- THE SECOND FORM's CARD OF 'millwheellaw05.ScanLess'. -/
def scanLessUptoCard : Claim7 := { stood := { row := scanLessUptoRow, standIns := [], harness := (true, "4631de1d970dce34e7e11d0da99cbcac2031c3f449de29f0f55f164613ededce"), looks := true }, kinds := [], alts := [], laidByText := true, laidKinds := [.data, .data, .data, .sentinel, .sentinel], laidTests := true, laidLooks := .later }
def ScanLessUptoCardSaid : Prop := Claim7.holds Tryz.pinned (.plain (OpenSpec.upto scanLessSpec)) scanLessUptoCard

/-- THE SECOND FORM's CARD OF 'millwheellaw05.ScanGone'. -/
def scanGoneUptoCard : Claim7 := { stood := { row := scanGoneUptoRow, standIns := [], harness := (true, "4631de1d970dce34e7e11d0da99cbcac2031c3f449de29f0f55f164613ededce"), looks := true }, kinds := [], alts := [], laidByText := true, laidKinds := [.data, .data, .data, .sentinel, .sentinel], laidTests := true, laidLooks := .later }
def ScanGoneUptoCardSaid : Prop := Claim7.holds Tryz.pinned (.plain (OpenSpec.upto scanGoneSpec)) scanGoneUptoCard

/-- THE SECOND FORM's CARD OF 'millwheellaw05.ScanNumbers'. -/
def scanNumbersUptoCard : Claim7 := { stood := { row := scanNumbersUptoRow, standIns := [], harness := (true, "4631de1d970dce34e7e11d0da99cbcac2031c3f449de29f0f55f164613ededce"), looks := true }, kinds := [], alts := [], laidByText := true, laidKinds := [.data, .data, .data, .sentinel, .sentinel], laidTests := true, laidLooks := .later }
def ScanNumbersUptoCardSaid : Prop := Claim7.holds Tryz.pinned (.plain (OpenSpec.upto scanNumbersSpec)) scanNumbersUptoCard

/-- THE SECOND FORM's CARD OF 'millwheellaw05.ScanTwice'. -/
def scanTwiceUptoCard : Claim7 := { stood := { row := scanTwiceUptoRow, standIns := [], harness := (true, "4631de1d970dce34e7e11d0da99cbcac2031c3f449de29f0f55f164613ededce"), looks := true }, kinds := [], alts := [], laidByText := true, laidKinds := [.data, .data, .data, .sentinel, .sentinel], laidTests := true, laidLooks := .later }
def ScanTwiceUptoCardSaid : Prop := Claim7.holds Tryz.pinned (.plain (OpenSpec.upto scanTwiceSpec)) scanTwiceUptoCard

/-- THE SECOND FORM's CARD OF 'millwheellaw05.ScanKeeps'. -/
def scanKeepsUptoCard : Claim7 := { stood := { row := scanKeepsUptoRow, standIns := [], harness := (true, "4631de1d970dce34e7e11d0da99cbcac2031c3f449de29f0f55f164613ededce"), looks := true }, kinds := [], alts := [], laidByText := true, laidKinds := [.data, .data, .data, .sentinel, .sentinel], laidTests := true, laidLooks := .later }
def ScanKeepsUptoCardSaid : Prop := Claim7.holds Tryz.pinned (.plain (OpenSpec.upto scanKeepsSpec)) scanKeepsUptoCard

/-- THE SECOND FORM's CARD OF 'millwheellaw05.ScanTells'. -/
def scanTellsUptoCard : Claim7 := { stood := { row := scanTellsUptoRow, standIns := [], harness := (true, "4631de1d970dce34e7e11d0da99cbcac2031c3f449de29f0f55f164613ededce"), looks := true }, kinds := [], alts := [], laidByText := true, laidKinds := [.data, .data, .data, .sentinel, .sentinel], laidTests := true, laidLooks := .later }
def ScanTellsUptoCardSaid : Prop := Claim7.holds Tryz.pinned (.plain (OpenSpec.upto scanTellsSpec)) scanTellsUptoCard

/-- THE SECOND FORM's CARD OF 'millwheellaw05.ScanOpens'. -/
def scanOpensUptoCard : Claim7 := { stood := { row := scanOpensUptoRow, standIns := [], harness := (true, "4631de1d970dce34e7e11d0da99cbcac2031c3f449de29f0f55f164613ededce"), looks := true }, kinds := [], alts := [], laidByText := true, laidKinds := [.data, .data, .data, .sentinel, .sentinel], laidTests := true, laidLooks := .later }
def ScanOpensUptoCardSaid : Prop := Claim7.holds Tryz.pinned (.plain (OpenSpec.upto scanOpensSpec)) scanOpensUptoCard
end Rows
end Go.Proofs.YtohpgipgfmkflaaGreatDoor
