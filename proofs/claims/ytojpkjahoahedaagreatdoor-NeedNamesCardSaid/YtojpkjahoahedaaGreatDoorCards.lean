/-
  DERIVED. GIVEN WITH THE SEED: THE CARDS: each row of YtojpkjahoahedaaGreatDoorRows.lean that lists a variable, with what it lists TIED to the program's text (the seventh form; the later family's looks); each row that meets fmt, with fmt's text TOLD by the authors' own Lean function (tested against real Go, not proved from fmt's source: count such statements apart). THE CARD IS WHAT COUNTS. Prove the row's statement (the work); the ties are given (YtojpkjahoahedaaGreatDoorTie.lean); close each card by the builder's one call (the guide's Derived/Test/ToyasCard.lean, 'card_holds'). Laid BY PROGRAM, IN A SANDBOX (cutbox-door.mjs). By AI agents, Wed Nov 11 2026. No macro, syntax, notation, axiom, sorry.
-/
import Derived.Test.YtojpkjahoahedaaGreatDoorRows
import GoSem.ClaimSeven
namespace Go.Proofs.YtojpkjahoahedaaGreatDoor
namespace Rows

/-- THE TIED CARD OF 'mailroomlaw23.NeedNames'. -/
def needNamesCard : Claim7 := { stood := { row := needNamesRow, standIns := [], harness := (true, "7a4e9985a798b96deacff1c35c28b652a904a58a86bf5db50a2c6527bd2495bd"), looks := false }, kinds := [], alts := [], laidByText := true, laidKinds := [.data, .funcs, .funcs], laidTests := true, laidLooks := .later }
def NeedNamesCardSaid : Prop := Claim7.holds Tryz.pinned (.plain (OpenSpec.ofChange needNamesSpec)) needNamesCard

/-- THE SECOND FORM's CARD OF 'mailroomlaw23.NeedNames'. -/
def needNamesUptoCard : Claim7 := { stood := { row := needNamesUptoRow, standIns := [], harness := (true, "7a4e9985a798b96deacff1c35c28b652a904a58a86bf5db50a2c6527bd2495bd"), looks := false }, kinds := [], alts := [], laidByText := true, laidKinds := [.data, .funcs, .funcs], laidTests := true, laidLooks := .later }
def NeedNamesUptoCardSaid : Prop := Claim7.holds Tryz.pinned (.plain (OpenSpec.upto needNamesSpec)) needNamesUptoCard
end Rows
end Go.Proofs.YtojpkjahoahedaaGreatDoor
