/-
  DERIVED. GIVEN WITH THE SEED: THE CARDS: each row of YtlgapohnmcmhdaaDoorRows.lean that lists a variable, with what it lists TIED to the program's text (the seventh form; the later family's looks); each row that meets fmt, with fmt's text TOLD by the authors' own Lean function (tested against real Go, not proved from fmt's source: count such statements apart). THE CARD IS WHAT COUNTS. Prove the row's statement (the work); the ties are given (YtlgapohnmcmhdaaDoorTie.lean); close each card by the builder's one call (the guide's Derived/Test/ToyasCard.lean, 'card_holds'). Laid BY PROGRAM, IN A SANDBOX (cutbox-door.mjs). By AI agents, Wed Nov 11 2026. No macro, syntax, notation, axiom, sorry.
-/
import Derived.Test.YtlgapohnmcmhdaaDoorRows
import GoSem.ClaimSeven
namespace Go.Proofs.YtlgapohnmcmhdaaDoor
namespace Rows

/-- THE TIED CARD OF 'mailroomlaw02.CodeTells'. -/
def codeTellsCard : Claim7 := { stood := { row := codeTellsRow, standIns := [], harness := (true, "fa0c956656b2bcc4cd63b8421ac97015f2034b10ab6656f6bbc4f1b62ced46ad"), looks := true }, kinds := [], alts := [], laidByText := true, laidKinds := [.data, .data, .data, .data, .sentinel, .sentinel, .data, .pinned], laidTests := true, laidLooks := .later }
def CodeTellsCardSaid : Prop := Claim7.holds Tryd.pinned (.plain (OpenSpec.ofChange codeTellsSpec)) codeTellsCard

/-- THE TIED CARD OF 'mailroomlaw02.CodeNumbers'. -/
def codeNumbersCard : Claim7 := { stood := { row := codeNumbersRow, standIns := [], harness := (true, "fa0c956656b2bcc4cd63b8421ac97015f2034b10ab6656f6bbc4f1b62ced46ad"), looks := true }, kinds := [], alts := [], laidByText := true, laidKinds := [.data, .data, .data, .data, .sentinel, .sentinel, .data, .pinned], laidTests := true, laidLooks := .later }
def CodeNumbersCardSaid : Prop := Claim7.holds Tryd.pinned (.plain (OpenSpec.ofChange codeNumbersSpec)) codeNumbersCard

/-- THE TIED CARD OF 'mailroomlaw02.CodeSum'. -/
def codeSumCard : Claim7 := { stood := { row := codeSumRow, standIns := [], harness := (true, "fa0c956656b2bcc4cd63b8421ac97015f2034b10ab6656f6bbc4f1b62ced46ad"), looks := true }, kinds := [], alts := [], laidByText := true, laidKinds := [.data, .data, .data, .data, .sentinel, .sentinel, .data, .pinned], laidTests := true, laidLooks := .later }
def CodeSumCardSaid : Prop := Claim7.holds Tryd.pinned (.plain (OpenSpec.ofChange codeSumSpec)) codeSumCard

/-- THE TIED CARD OF 'mailroomlaw02.CodeBack'. -/
def codeBackCard : Claim7 := { stood := { row := codeBackRow, standIns := [], harness := (true, "fa0c956656b2bcc4cd63b8421ac97015f2034b10ab6656f6bbc4f1b62ced46ad"), looks := true }, kinds := [], alts := [], laidByText := true, laidKinds := [.data, .data, .data, .data, .sentinel, .sentinel, .data, .pinned], laidTests := true, laidLooks := .later }
def CodeBackCardSaid : Prop := Claim7.holds Tryd.pinned (.plain (OpenSpec.ofChange codeBackSpec)) codeBackCard

/-- THE TIED CARD OF 'mailroomlaw02.CodeLong'. -/
def codeLongCard : Claim7 := { stood := { row := codeLongRow, standIns := [], harness := (true, "fa0c956656b2bcc4cd63b8421ac97015f2034b10ab6656f6bbc4f1b62ced46ad"), looks := true }, kinds := [], alts := [], laidByText := true, laidKinds := [.data, .data, .data, .data, .sentinel, .sentinel, .data, .pinned], laidTests := true, laidLooks := .later }
def CodeLongCardSaid : Prop := Claim7.holds Tryd.pinned (.plain (OpenSpec.ofChange codeLongSpec)) codeLongCard

/-- THE TIED CARD OF 'mailroomlaw02.CodeLess'. -/
def codeLessCard : Claim7 := { stood := { row := codeLessRow, standIns := [], harness := (true, "fa0c956656b2bcc4cd63b8421ac97015f2034b10ab6656f6bbc4f1b62ced46ad"), looks := true }, kinds := [], alts := [], laidByText := true, laidKinds := [.data, .data, .data, .data, .sentinel, .sentinel, .data, .pinned], laidTests := true, laidLooks := .later }
def CodeLessCardSaid : Prop := Claim7.holds Tryd.pinned (.plain (OpenSpec.ofChange codeLessSpec)) codeLessCard

/-- THE SECOND FORM's CARD OF 'mailroomlaw02.CodeTells'. -/
def codeTellsUptoCard : Claim7 := { stood := { row := codeTellsUptoRow, standIns := [], harness := (true, "fa0c956656b2bcc4cd63b8421ac97015f2034b10ab6656f6bbc4f1b62ced46ad"), looks := true }, kinds := [], alts := [], laidByText := true, laidKinds := [.data, .data, .data, .data, .sentinel, .sentinel, .data, .pinned], laidTests := true, laidLooks := .later }
def CodeTellsUptoCardSaid : Prop := Claim7.holds Tryd.pinned (.plain (OpenSpec.upto codeTellsSpec)) codeTellsUptoCard

/-- THE SECOND FORM's CARD OF 'mailroomlaw02.CodeNumbers'. -/
def codeNumbersUptoCard : Claim7 := { stood := { row := codeNumbersUptoRow, standIns := [], harness := (true, "fa0c956656b2bcc4cd63b8421ac97015f2034b10ab6656f6bbc4f1b62ced46ad"), looks := true }, kinds := [], alts := [], laidByText := true, laidKinds := [.data, .data, .data, .data, .sentinel, .sentinel, .data, .pinned], laidTests := true, laidLooks := .later }
def CodeNumbersUptoCardSaid : Prop := Claim7.holds Tryd.pinned (.plain (OpenSpec.upto codeNumbersSpec)) codeNumbersUptoCard

/-- THE SECOND FORM's CARD OF 'mailroomlaw02.CodeSum'. -/
def codeSumUptoCard : Claim7 := { stood := { row := codeSumUptoRow, standIns := [], harness := (true, "fa0c956656b2bcc4cd63b8421ac97015f2034b10ab6656f6bbc4f1b62ced46ad"), looks := true }, kinds := [], alts := [], laidByText := true, laidKinds := [.data, .data, .data, .data, .sentinel, .sentinel, .data, .pinned], laidTests := true, laidLooks := .later }
def CodeSumUptoCardSaid : Prop := Claim7.holds Tryd.pinned (.plain (OpenSpec.upto codeSumSpec)) codeSumUptoCard

/-- THE SECOND FORM's CARD OF 'mailroomlaw02.CodeBack'. -/
def codeBackUptoCard : Claim7 := { stood := { row := codeBackUptoRow, standIns := [], harness := (true, "fa0c956656b2bcc4cd63b8421ac97015f2034b10ab6656f6bbc4f1b62ced46ad"), looks := true }, kinds := [], alts := [], laidByText := true, laidKinds := [.data, .data, .data, .data, .sentinel, .sentinel, .data, .pinned], laidTests := true, laidLooks := .later }
def CodeBackUptoCardSaid : Prop := Claim7.holds Tryd.pinned (.plain (OpenSpec.upto codeBackSpec)) codeBackUptoCard

/-- THE SECOND FORM's CARD OF 'mailroomlaw02.CodeLong'. -/
def codeLongUptoCard : Claim7 := { stood := { row := codeLongUptoRow, standIns := [], harness := (true, "fa0c956656b2bcc4cd63b8421ac97015f2034b10ab6656f6bbc4f1b62ced46ad"), looks := true }, kinds := [], alts := [], laidByText := true, laidKinds := [.data, .data, .data, .data, .sentinel, .sentinel, .data, .pinned], laidTests := true, laidLooks := .later }
def CodeLongUptoCardSaid : Prop := Claim7.holds Tryd.pinned (.plain (OpenSpec.upto codeLongSpec)) codeLongUptoCard

/-- THE SECOND FORM's CARD OF 'mailroomlaw02.CodeLess'. -/
def codeLessUptoCard : Claim7 := { stood := { row := codeLessUptoRow, standIns := [], harness := (true, "fa0c956656b2bcc4cd63b8421ac97015f2034b10ab6656f6bbc4f1b62ced46ad"), looks := true }, kinds := [], alts := [], laidByText := true, laidKinds := [.data, .data, .data, .data, .sentinel, .sentinel, .data, .pinned], laidTests := true, laidLooks := .later }
def CodeLessUptoCardSaid : Prop := Claim7.holds Tryd.pinned (.plain (OpenSpec.upto codeLessSpec)) codeLessUptoCard
end Rows
end Go.Proofs.YtlgapohnmcmhdaaDoor
