/-
  DERIVED. GIVEN WITH THE SEED: THE CARDS: each row of YtmcdajbfomngcaaDoorRows.lean that lists a variable, with what it lists TIED to the program's text (the seventh form; the later family's looks); each row that meets fmt, with fmt's text TOLD by the authors' own Lean function (tested against real Go, not proved from fmt's source: count such statements apart). THE CARD IS WHAT COUNTS. Prove the row's statement (the work); the ties are given (YtmcdajbfomngcaaDoorTie.lean); close each card by the builder's one call (the guide's Derived/Test/ToyasCard.lean, 'card_holds'). Laid BY PROGRAM, IN A SANDBOX (cutbox-door.mjs). By AI agents, Wed Nov 11 2026. No macro, syntax, notation, axiom, sorry.
-/
import Derived.Test.YtmcdajbfomngcaaDoorRows
import GoSem.ClaimSeven
namespace Go.Proofs.YtmcdajbfomngcaaDoor
namespace Rows

/-- THE TIED CARD OF 'mailroomlaw02.CodeTells'. -/
def codeTellsCard : Claim7 := { stood := { row := codeTellsRow, standIns := [], harness := (true, "c4456b91a51acacf7d0fb64e2be760b5b186e61bd9a8276ed8836f05dc392791"), looks := true }, kinds := [], alts := [], laidByText := true, laidKinds := [.data, .data, .data, .data, .sentinel, .sentinel, .data, .pinned], laidTests := true, laidLooks := .later }
def CodeTellsCardSaid : Prop := Claim7.holds Tryd.pinned (.plain (OpenSpec.ofChange codeTellsSpec)) codeTellsCard

/-- THE TIED CARD OF 'mailroomlaw06.CapsLetters'. -/
def capsLettersCard : Claim7 := { stood := { row := capsLettersRow, standIns := [], harness := (true, "c4456b91a51acacf7d0fb64e2be760b5b186e61bd9a8276ed8836f05dc392791"), looks := true }, kinds := [], alts := [], laidByText := true, laidKinds := [.data, .data, .data, .data, .sentinel, .sentinel, .pinned], laidTests := true, laidLooks := .later }
def CapsLettersCardSaid : Prop := Claim7.holds Tryd.pinned (.plain (OpenSpec.ofChange capsLettersSpec)) capsLettersCard

/-- THE TIED CARD OF 'mailroomlaw06.CapsTells'. -/
def capsTellsCard : Claim7 := { stood := { row := capsTellsRow, standIns := [], harness := (true, "c4456b91a51acacf7d0fb64e2be760b5b186e61bd9a8276ed8836f05dc392791"), looks := true }, kinds := [], alts := [], laidByText := true, laidKinds := [.data, .data, .data, .data, .sentinel, .sentinel, .pinned], laidTests := true, laidLooks := .later }
def CapsTellsCardSaid : Prop := Claim7.holds Tryd.pinned (.plain (OpenSpec.ofChange capsTellsSpec)) capsTellsCard

/-- THE TIED CARD OF 'mailroomlaw06.CapsBack'. -/
def capsBackCard : Claim7 := { stood := { row := capsBackRow, standIns := [], harness := (true, "c4456b91a51acacf7d0fb64e2be760b5b186e61bd9a8276ed8836f05dc392791"), looks := true }, kinds := [], alts := [], laidByText := true, laidKinds := [.data, .data, .data, .data, .sentinel, .sentinel, .pinned], laidTests := true, laidLooks := .later }
def CapsBackCardSaid : Prop := Claim7.holds Tryd.pinned (.plain (OpenSpec.ofChange capsBackSpec)) capsBackCard

/-- THE TIED CARD OF 'mailroomlaw06.CapsMore'. -/
def capsMoreCard : Claim7 := { stood := { row := capsMoreRow, standIns := [], harness := (true, "c4456b91a51acacf7d0fb64e2be760b5b186e61bd9a8276ed8836f05dc392791"), looks := true }, kinds := [], alts := [], laidByText := true, laidKinds := [.data, .data, .data, .data, .sentinel, .sentinel, .pinned], laidTests := true, laidLooks := .later }
def CapsMoreCardSaid : Prop := Claim7.holds Tryd.pinned (.plain (OpenSpec.ofChange capsMoreSpec)) capsMoreCard

/-- THE SECOND FORM's CARD OF 'mailroomlaw02.CodeTells'. -/
def codeTellsUptoCard : Claim7 := { stood := { row := codeTellsUptoRow, standIns := [], harness := (true, "c4456b91a51acacf7d0fb64e2be760b5b186e61bd9a8276ed8836f05dc392791"), looks := true }, kinds := [], alts := [], laidByText := true, laidKinds := [.data, .data, .data, .data, .sentinel, .sentinel, .data, .pinned], laidTests := true, laidLooks := .later }
def CodeTellsUptoCardSaid : Prop := Claim7.holds Tryd.pinned (.plain (OpenSpec.upto codeTellsSpec)) codeTellsUptoCard

/-- THE SECOND FORM's CARD OF 'mailroomlaw06.CapsLetters'. -/
def capsLettersUptoCard : Claim7 := { stood := { row := capsLettersUptoRow, standIns := [], harness := (true, "c4456b91a51acacf7d0fb64e2be760b5b186e61bd9a8276ed8836f05dc392791"), looks := true }, kinds := [], alts := [], laidByText := true, laidKinds := [.data, .data, .data, .data, .sentinel, .sentinel, .pinned], laidTests := true, laidLooks := .later }
def CapsLettersUptoCardSaid : Prop := Claim7.holds Tryd.pinned (.plain (OpenSpec.upto capsLettersSpec)) capsLettersUptoCard

/-- THE SECOND FORM's CARD OF 'mailroomlaw06.CapsTells'. -/
def capsTellsUptoCard : Claim7 := { stood := { row := capsTellsUptoRow, standIns := [], harness := (true, "c4456b91a51acacf7d0fb64e2be760b5b186e61bd9a8276ed8836f05dc392791"), looks := true }, kinds := [], alts := [], laidByText := true, laidKinds := [.data, .data, .data, .data, .sentinel, .sentinel, .pinned], laidTests := true, laidLooks := .later }
def CapsTellsUptoCardSaid : Prop := Claim7.holds Tryd.pinned (.plain (OpenSpec.upto capsTellsSpec)) capsTellsUptoCard

/-- THE SECOND FORM's CARD OF 'mailroomlaw06.CapsBack'. -/
def capsBackUptoCard : Claim7 := { stood := { row := capsBackUptoRow, standIns := [], harness := (true, "c4456b91a51acacf7d0fb64e2be760b5b186e61bd9a8276ed8836f05dc392791"), looks := true }, kinds := [], alts := [], laidByText := true, laidKinds := [.data, .data, .data, .data, .sentinel, .sentinel, .pinned], laidTests := true, laidLooks := .later }
def CapsBackUptoCardSaid : Prop := Claim7.holds Tryd.pinned (.plain (OpenSpec.upto capsBackSpec)) capsBackUptoCard

/-- THE SECOND FORM's CARD OF 'mailroomlaw06.CapsMore'. -/
def capsMoreUptoCard : Claim7 := { stood := { row := capsMoreUptoRow, standIns := [], harness := (true, "c4456b91a51acacf7d0fb64e2be760b5b186e61bd9a8276ed8836f05dc392791"), looks := true }, kinds := [], alts := [], laidByText := true, laidKinds := [.data, .data, .data, .data, .sentinel, .sentinel, .pinned], laidTests := true, laidLooks := .later }
def CapsMoreUptoCardSaid : Prop := Claim7.holds Tryd.pinned (.plain (OpenSpec.upto capsMoreSpec)) capsMoreUptoCard
end Rows
end Go.Proofs.YtmcdajbfomngcaaDoor
