/-
  DERIVED. GIVEN WITH THE SEED: THE CARDS: each row of YtlacmijbjdpbpaaDoorRows.lean that lists a variable, with what it lists TIED to the program's text (the seventh form; the later family's looks); each row that meets fmt, with fmt's text TOLD by the authors' own Lean function (tested against real Go, not proved from fmt's source: count such statements apart). THE CARD IS WHAT COUNTS. Prove the row's statement (the work); the ties are given (YtlacmijbjdpbpaaDoorTie.lean); close each card by the builder's one call (the guide's Derived/Test/ToyasCard.lean, 'card_holds'). Laid BY PROGRAM, IN A SANDBOX (cutbox-door.mjs). By AI agents, Wed Nov 11 2026. No macro, syntax, notation, axiom, sorry.
-/
import Derived.Test.YtlacmijbjdpbpaaDoorRows
import GoSem.ClaimSeven
namespace Go.Proofs.YtlacmijbjdpbpaaDoor
namespace Rows

/-- THE TIED CARD OF 'mailroomlaw15.TrustNames'. -/
def trustNamesCard : Claim7 := { stood := { row := trustNamesRow, standIns := [], harness := (true, "671d875ed413e4327143ee0eafbafa08ff85ee816f17b02d3748bdb482355d77"), looks := true }, kinds := [], alts := [], laidByText := true, laidKinds := [.data], laidTests := true, laidLooks := .later }
def TrustNamesCardSaid : Prop := Claim7.holds Tryd.pinned (.plain (OpenSpec.ofChange trustNamesSpec)) trustNamesCard

/-- THE TIED CARD OF 'mailroomlaw06.CapsNames'. -/
def capsNamesCard : Claim7 := { stood := { row := capsNamesRow, standIns := [], harness := (true, "671d875ed413e4327143ee0eafbafa08ff85ee816f17b02d3748bdb482355d77"), looks := true }, kinds := [], alts := [], laidByText := true, laidKinds := [.data, .data, .data, .data, .sentinel, .sentinel, .pinned], laidTests := true, laidLooks := .later }
def CapsNamesCardSaid : Prop := Claim7.holds Tryd.pinned (.plain (OpenSpec.ofChange capsNamesSpec)) capsNamesCard

/-- THE SECOND FORM's CARD OF 'mailroomlaw15.TrustNames'. -/
def trustNamesUptoCard : Claim7 := { stood := { row := trustNamesUptoRow, standIns := [], harness := (true, "671d875ed413e4327143ee0eafbafa08ff85ee816f17b02d3748bdb482355d77"), looks := true }, kinds := [], alts := [], laidByText := true, laidKinds := [.data], laidTests := true, laidLooks := .later }
def TrustNamesUptoCardSaid : Prop := Claim7.holds Tryd.pinned (.plain (OpenSpec.upto trustNamesSpec)) trustNamesUptoCard

/-- THE SECOND FORM's CARD OF 'mailroomlaw06.CapsNames'. -/
def capsNamesUptoCard : Claim7 := { stood := { row := capsNamesUptoRow, standIns := [], harness := (true, "671d875ed413e4327143ee0eafbafa08ff85ee816f17b02d3748bdb482355d77"), looks := true }, kinds := [], alts := [], laidByText := true, laidKinds := [.data, .data, .data, .data, .sentinel, .sentinel, .pinned], laidTests := true, laidLooks := .later }
def CapsNamesUptoCardSaid : Prop := Claim7.holds Tryd.pinned (.plain (OpenSpec.upto capsNamesSpec)) capsNamesUptoCard
end Rows
end Go.Proofs.YtlacmijbjdpbpaaDoor
