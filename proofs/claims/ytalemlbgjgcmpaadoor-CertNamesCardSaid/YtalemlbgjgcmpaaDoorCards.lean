/-
  DERIVED. GIVEN WITH THE SEED: THE CARDS: each row of YtalemlbgjgcmpaaDoorRows.lean that lists a variable, with what it lists TIED to the program's text (the seventh form; the later family's looks); each row that meets fmt, with fmt's text TOLD by the authors' own Lean function (tested against real Go, not proved from fmt's source: count such statements apart). THE CARD IS WHAT COUNTS. Prove the row's statement (the work); the ties are given (YtalemlbgjgcmpaaDoorTie.lean); close each card by the builder's one call (the guide's Derived/Test/ToyasCard.lean, 'card_holds'). Laid BY PROGRAM, IN A SANDBOX (cutbox-door.mjs). By AI agents, Wed Nov 11 2026. No macro, syntax, notation, axiom, sorry.
-/
import Derived.Test.YtalemlbgjgcmpaaDoorRows
import GoSem.ClaimSeven
namespace Go.Proofs.YtalemlbgjgcmpaaDoor
namespace Rows

/-- THE TIED CARD OF 'mailroomlaw14.CertWithin'. -/
def certWithinCard : Claim7 := { stood := { row := certWithinRow, standIns := [], harness := (true, "2294470fe4e0333b9b6f50c0e1a14315ff9d4395a1f653eac652fd1b650c5e14"), looks := true }, kinds := [], alts := [], laidByText := true, laidKinds := [.data], laidTests := true, laidLooks := .later }
def CertWithinCardSaid : Prop := Claim7.holds Tryd.pinned (.plain (OpenSpec.ofChange certWithinSpec)) certWithinCard

/-- THE TIED CARD OF 'mailroomlaw14.CertNames'. -/
def certNamesCard : Claim7 := { stood := { row := certNamesRow, standIns := [], harness := (true, "2294470fe4e0333b9b6f50c0e1a14315ff9d4395a1f653eac652fd1b650c5e14"), looks := true }, kinds := [], alts := [], laidByText := true, laidKinds := [.data], laidTests := true, laidLooks := .later }
def CertNamesCardSaid : Prop := Claim7.holds Tryd.pinned (.plain (OpenSpec.ofChange certNamesSpec)) certNamesCard

/-- THE TIED CARD OF 'mailroomlaw14.CertTells'. -/
def certTellsCard : Claim7 := { stood := { row := certTellsRow, standIns := [], harness := (true, "2294470fe4e0333b9b6f50c0e1a14315ff9d4395a1f653eac652fd1b650c5e14"), looks := true }, kinds := [], alts := [], laidByText := true, laidKinds := [.data], laidTests := true, laidLooks := .later }
def CertTellsCardSaid : Prop := Claim7.holds Tryd.pinned (.plain (OpenSpec.ofChange certTellsSpec)) certTellsCard

/-- THE TIED CARD OF 'mailroomlaw02.CodeNames'. -/
def codeNamesCard : Claim7 := { stood := { row := codeNamesRow, standIns := [], harness := (true, "2294470fe4e0333b9b6f50c0e1a14315ff9d4395a1f653eac652fd1b650c5e14"), looks := true }, kinds := [], alts := [], laidByText := true, laidKinds := [.data, .data, .data, .data, .sentinel, .sentinel, .data, .pinned], laidTests := true, laidLooks := .later }
def CodeNamesCardSaid : Prop := Claim7.holds Tryd.pinned (.plain (OpenSpec.ofChange codeNamesSpec)) codeNamesCard

/-- THE TIED CARD OF 'mailroomlaw02.CodeTells'. -/
def codeTellsCard : Claim7 := { stood := { row := codeTellsRow, standIns := [], harness := (true, "2294470fe4e0333b9b6f50c0e1a14315ff9d4395a1f653eac652fd1b650c5e14"), looks := true }, kinds := [], alts := [], laidByText := true, laidKinds := [.data, .data, .data, .data, .sentinel, .sentinel, .data, .pinned], laidTests := true, laidLooks := .later }
def CodeTellsCardSaid : Prop := Claim7.holds Tryd.pinned (.plain (OpenSpec.ofChange codeTellsSpec)) codeTellsCard

/-- THE TIED CARD OF 'mailroomlaw02.CodeNumbers'. -/
def codeNumbersCard : Claim7 := { stood := { row := codeNumbersRow, standIns := [], harness := (true, "2294470fe4e0333b9b6f50c0e1a14315ff9d4395a1f653eac652fd1b650c5e14"), looks := true }, kinds := [], alts := [], laidByText := true, laidKinds := [.data, .data, .data, .data, .sentinel, .sentinel, .data, .pinned], laidTests := true, laidLooks := .later }
def CodeNumbersCardSaid : Prop := Claim7.holds Tryd.pinned (.plain (OpenSpec.ofChange codeNumbersSpec)) codeNumbersCard

/-- THE TIED CARD OF 'mailroomlaw02.CodeSum'. -/
def codeSumCard : Claim7 := { stood := { row := codeSumRow, standIns := [], harness := (true, "2294470fe4e0333b9b6f50c0e1a14315ff9d4395a1f653eac652fd1b650c5e14"), looks := true }, kinds := [], alts := [], laidByText := true, laidKinds := [.data, .data, .data, .data, .sentinel, .sentinel, .data, .pinned], laidTests := true, laidLooks := .later }
def CodeSumCardSaid : Prop := Claim7.holds Tryd.pinned (.plain (OpenSpec.ofChange codeSumSpec)) codeSumCard

/-- THE TIED CARD OF 'mailroomlaw02.CodeBack'. -/
def codeBackCard : Claim7 := { stood := { row := codeBackRow, standIns := [], harness := (true, "2294470fe4e0333b9b6f50c0e1a14315ff9d4395a1f653eac652fd1b650c5e14"), looks := true }, kinds := [], alts := [], laidByText := true, laidKinds := [.data, .data, .data, .data, .sentinel, .sentinel, .data, .pinned], laidTests := true, laidLooks := .later }
def CodeBackCardSaid : Prop := Claim7.holds Tryd.pinned (.plain (OpenSpec.ofChange codeBackSpec)) codeBackCard

/-- THE TIED CARD OF 'mailroomlaw02.CodeLong'. -/
def codeLongCard : Claim7 := { stood := { row := codeLongRow, standIns := [], harness := (true, "2294470fe4e0333b9b6f50c0e1a14315ff9d4395a1f653eac652fd1b650c5e14"), looks := true }, kinds := [], alts := [], laidByText := true, laidKinds := [.data, .data, .data, .data, .sentinel, .sentinel, .data, .pinned], laidTests := true, laidLooks := .later }
def CodeLongCardSaid : Prop := Claim7.holds Tryd.pinned (.plain (OpenSpec.ofChange codeLongSpec)) codeLongCard

/-- THE TIED CARD OF 'mailroomlaw02.CodeLess'. -/
def codeLessCard : Claim7 := { stood := { row := codeLessRow, standIns := [], harness := (true, "2294470fe4e0333b9b6f50c0e1a14315ff9d4395a1f653eac652fd1b650c5e14"), looks := true }, kinds := [], alts := [], laidByText := true, laidKinds := [.data, .data, .data, .data, .sentinel, .sentinel, .data, .pinned], laidTests := true, laidLooks := .later }
def CodeLessCardSaid : Prop := Claim7.holds Tryd.pinned (.plain (OpenSpec.ofChange codeLessSpec)) codeLessCard

/-- THE TIED CARD OF 'mailroomlaw02.CodeRoots'. -/
def codeRootsCard : Claim7 := { stood := { row := codeRootsRow, standIns := [], harness := (true, "2294470fe4e0333b9b6f50c0e1a14315ff9d4395a1f653eac652fd1b650c5e14"), looks := true }, kinds := [], alts := [], laidByText := true, laidKinds := [.data, .data, .data, .data, .sentinel, .sentinel, .data, .pinned], laidTests := true, laidLooks := .later }
def CodeRootsCardSaid : Prop := Claim7.holds Tryd.pinned (.plain (OpenSpec.ofChange codeRootsSpec)) codeRootsCard

/-- THE SECOND FORM's CARD OF 'mailroomlaw14.CertWithin'. -/
def certWithinUptoCard : Claim7 := { stood := { row := certWithinUptoRow, standIns := [], harness := (true, "2294470fe4e0333b9b6f50c0e1a14315ff9d4395a1f653eac652fd1b650c5e14"), looks := true }, kinds := [], alts := [], laidByText := true, laidKinds := [.data], laidTests := true, laidLooks := .later }
def CertWithinUptoCardSaid : Prop := Claim7.holds Tryd.pinned (.plain (OpenSpec.upto certWithinSpec)) certWithinUptoCard

/-- THE SECOND FORM's CARD OF 'mailroomlaw14.CertNames'. -/
def certNamesUptoCard : Claim7 := { stood := { row := certNamesUptoRow, standIns := [], harness := (true, "2294470fe4e0333b9b6f50c0e1a14315ff9d4395a1f653eac652fd1b650c5e14"), looks := true }, kinds := [], alts := [], laidByText := true, laidKinds := [.data], laidTests := true, laidLooks := .later }
def CertNamesUptoCardSaid : Prop := Claim7.holds Tryd.pinned (.plain (OpenSpec.upto certNamesSpec)) certNamesUptoCard

/-- THE SECOND FORM's CARD OF 'mailroomlaw14.CertTells'. -/
def certTellsUptoCard : Claim7 := { stood := { row := certTellsUptoRow, standIns := [], harness := (true, "2294470fe4e0333b9b6f50c0e1a14315ff9d4395a1f653eac652fd1b650c5e14"), looks := true }, kinds := [], alts := [], laidByText := true, laidKinds := [.data], laidTests := true, laidLooks := .later }
def CertTellsUptoCardSaid : Prop := Claim7.holds Tryd.pinned (.plain (OpenSpec.upto certTellsSpec)) certTellsUptoCard

/-- THE SECOND FORM's CARD OF 'mailroomlaw02.CodeNames'. -/
def codeNamesUptoCard : Claim7 := { stood := { row := codeNamesUptoRow, standIns := [], harness := (true, "2294470fe4e0333b9b6f50c0e1a14315ff9d4395a1f653eac652fd1b650c5e14"), looks := true }, kinds := [], alts := [], laidByText := true, laidKinds := [.data, .data, .data, .data, .sentinel, .sentinel, .data, .pinned], laidTests := true, laidLooks := .later }
def CodeNamesUptoCardSaid : Prop := Claim7.holds Tryd.pinned (.plain (OpenSpec.upto codeNamesSpec)) codeNamesUptoCard

/-- THE SECOND FORM's CARD OF 'mailroomlaw02.CodeTells'. -/
def codeTellsUptoCard : Claim7 := { stood := { row := codeTellsUptoRow, standIns := [], harness := (true, "2294470fe4e0333b9b6f50c0e1a14315ff9d4395a1f653eac652fd1b650c5e14"), looks := true }, kinds := [], alts := [], laidByText := true, laidKinds := [.data, .data, .data, .data, .sentinel, .sentinel, .data, .pinned], laidTests := true, laidLooks := .later }
def CodeTellsUptoCardSaid : Prop := Claim7.holds Tryd.pinned (.plain (OpenSpec.upto codeTellsSpec)) codeTellsUptoCard

/-- THE SECOND FORM's CARD OF 'mailroomlaw02.CodeNumbers'. -/
def codeNumbersUptoCard : Claim7 := { stood := { row := codeNumbersUptoRow, standIns := [], harness := (true, "2294470fe4e0333b9b6f50c0e1a14315ff9d4395a1f653eac652fd1b650c5e14"), looks := true }, kinds := [], alts := [], laidByText := true, laidKinds := [.data, .data, .data, .data, .sentinel, .sentinel, .data, .pinned], laidTests := true, laidLooks := .later }
def CodeNumbersUptoCardSaid : Prop := Claim7.holds Tryd.pinned (.plain (OpenSpec.upto codeNumbersSpec)) codeNumbersUptoCard

/-- THE SECOND FORM's CARD OF 'mailroomlaw02.CodeSum'. -/
def codeSumUptoCard : Claim7 := { stood := { row := codeSumUptoRow, standIns := [], harness := (true, "2294470fe4e0333b9b6f50c0e1a14315ff9d4395a1f653eac652fd1b650c5e14"), looks := true }, kinds := [], alts := [], laidByText := true, laidKinds := [.data, .data, .data, .data, .sentinel, .sentinel, .data, .pinned], laidTests := true, laidLooks := .later }
def CodeSumUptoCardSaid : Prop := Claim7.holds Tryd.pinned (.plain (OpenSpec.upto codeSumSpec)) codeSumUptoCard

/-- THE SECOND FORM's CARD OF 'mailroomlaw02.CodeBack'. -/
def codeBackUptoCard : Claim7 := { stood := { row := codeBackUptoRow, standIns := [], harness := (true, "2294470fe4e0333b9b6f50c0e1a14315ff9d4395a1f653eac652fd1b650c5e14"), looks := true }, kinds := [], alts := [], laidByText := true, laidKinds := [.data, .data, .data, .data, .sentinel, .sentinel, .data, .pinned], laidTests := true, laidLooks := .later }
def CodeBackUptoCardSaid : Prop := Claim7.holds Tryd.pinned (.plain (OpenSpec.upto codeBackSpec)) codeBackUptoCard

/-- THE SECOND FORM's CARD OF 'mailroomlaw02.CodeLong'. -/
def codeLongUptoCard : Claim7 := { stood := { row := codeLongUptoRow, standIns := [], harness := (true, "2294470fe4e0333b9b6f50c0e1a14315ff9d4395a1f653eac652fd1b650c5e14"), looks := true }, kinds := [], alts := [], laidByText := true, laidKinds := [.data, .data, .data, .data, .sentinel, .sentinel, .data, .pinned], laidTests := true, laidLooks := .later }
def CodeLongUptoCardSaid : Prop := Claim7.holds Tryd.pinned (.plain (OpenSpec.upto codeLongSpec)) codeLongUptoCard

/-- THE SECOND FORM's CARD OF 'mailroomlaw02.CodeLess'. -/
def codeLessUptoCard : Claim7 := { stood := { row := codeLessUptoRow, standIns := [], harness := (true, "2294470fe4e0333b9b6f50c0e1a14315ff9d4395a1f653eac652fd1b650c5e14"), looks := true }, kinds := [], alts := [], laidByText := true, laidKinds := [.data, .data, .data, .data, .sentinel, .sentinel, .data, .pinned], laidTests := true, laidLooks := .later }
def CodeLessUptoCardSaid : Prop := Claim7.holds Tryd.pinned (.plain (OpenSpec.upto codeLessSpec)) codeLessUptoCard

/-- THE SECOND FORM's CARD OF 'mailroomlaw02.CodeRoots'. -/
def codeRootsUptoCard : Claim7 := { stood := { row := codeRootsUptoRow, standIns := [], harness := (true, "2294470fe4e0333b9b6f50c0e1a14315ff9d4395a1f653eac652fd1b650c5e14"), looks := true }, kinds := [], alts := [], laidByText := true, laidKinds := [.data, .data, .data, .data, .sentinel, .sentinel, .data, .pinned], laidTests := true, laidLooks := .later }
def CodeRootsUptoCardSaid : Prop := Claim7.holds Tryd.pinned (.plain (OpenSpec.upto codeRootsSpec)) codeRootsUptoCard
end Rows
end Go.Proofs.YtalemlbgjgcmpaaDoor
