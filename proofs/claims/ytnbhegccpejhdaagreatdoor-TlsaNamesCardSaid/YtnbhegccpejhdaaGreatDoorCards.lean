/-
  DERIVED. GIVEN WITH THE SEED: THE CARDS: each row of YtnbhegccpejhdaaGreatDoorRows.lean that lists a variable, with what it lists TIED to the program's text (the seventh form; the later family's looks); each row that meets fmt, with fmt's text TOLD by the authors' own Lean function (tested against real Go, not proved from fmt's source: count such statements apart). THE CARD IS WHAT COUNTS. Prove the row's statement (the work); the ties are given (YtnbhegccpejhdaaGreatDoorTie.lean); close each card by the builder's one call (the guide's Derived/Test/ToyasCard.lean, 'card_holds'). Laid BY PROGRAM, IN A SANDBOX (cutbox-door.mjs). By AI agents, Wed Nov 11 2026. No macro, syntax, notation, axiom, sorry.
-/
import Derived.Test.YtnbhegccpejhdaaGreatDoorRows
import GoSem.ClaimSeven
namespace Go.Proofs.YtnbhegccpejhdaaGreatDoor
namespace Rows

/-- THE TIED CARD OF 'mailroomlaw16.TlsaNames'. -/
def tlsaNamesCard : Claim7 := { stood := { row := tlsaNamesRow, standIns := [], harness := (true, "93185373dce12ca2ce25f953da9eb1a61ff7d040736d635b0171981a6a6b2be1"), looks := true }, kinds := [], alts := [], laidByText := true, laidKinds := [.data, .data, .data, .data, .sentinel, .sentinel, .data, .funcs, .funcs, .pinned], laidTests := true, laidLooks := .later }
def TlsaNamesCardSaid : Prop := Claim7.holds Tryz.pinned (.plain (OpenSpec.ofChange tlsaNamesSpec)) tlsaNamesCard

/-- THE SECOND FORM's CARD OF 'mailroomlaw16.TlsaNames'. -/
def tlsaNamesUptoCard : Claim7 := { stood := { row := tlsaNamesUptoRow, standIns := [], harness := (true, "93185373dce12ca2ce25f953da9eb1a61ff7d040736d635b0171981a6a6b2be1"), looks := true }, kinds := [], alts := [], laidByText := true, laidKinds := [.data, .data, .data, .data, .sentinel, .sentinel, .data, .funcs, .funcs, .pinned], laidTests := true, laidLooks := .later }
def TlsaNamesUptoCardSaid : Prop := Claim7.holds Tryz.pinned (.plain (OpenSpec.upto tlsaNamesSpec)) tlsaNamesUptoCard
end Rows
end Go.Proofs.YtnbhegccpejhdaaGreatDoor
