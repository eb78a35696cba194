/-
  DERIVED. GIVEN WITH THE SEED: THE CARDS: each row of YtebkeppoicllmaaDoorRows.lean that lists a variable, with what it lists TIED to the program's text (the seventh form; the later family's looks); each row that meets fmt, with fmt's text TOLD by the authors' own Lean function (tested against real Go, not proved from fmt's source: count such statements apart). THE CARD IS WHAT COUNTS. Prove the row's statement (the work); the ties are given (YtebkeppoicllmaaDoorTie.lean); close each card by the builder's one call (the guide's Derived/Test/ToyasCard.lean, 'card_holds'). Laid BY PROGRAM, IN A SANDBOX (cutbox-door.mjs). By AI agents, Wed Nov 11 2026. No macro, syntax, notation, axiom, sorry.
-/
import Derived.Test.YtebkeppoicllmaaDoorRows
import GoSem.ClaimSeven
namespace Go.Proofs.YtebkeppoicllmaaDoor
namespace Rows

/-- THE TIED CARD OF 'mailroomlaw15.TrustLink'. -/
def trustLinkCard : Claim7 := { stood := { row := trustLinkRow, standIns := [], harness := (true, "b0a29d4cdfb544ddbed30b927413f405a3db26ec50e627799ce7693e31d35c3e"), looks := false }, kinds := [], alts := [], laidByText := true, laidKinds := [.data], laidTests := true, laidLooks := .later }
def TrustLinkCardSaid : Prop := Claim7.holds Tryd.pinned (.plain (OpenSpec.ofChange trustLinkSpec)) trustLinkCard

/-- THE SECOND FORM's CARD OF 'mailroomlaw15.TrustLink'. -/
def trustLinkUptoCard : Claim7 := { stood := { row := trustLinkUptoRow, standIns := [], harness := (true, "b0a29d4cdfb544ddbed30b927413f405a3db26ec50e627799ce7693e31d35c3e"), looks := false }, kinds := [], alts := [], laidByText := true, laidKinds := [.data], laidTests := true, laidLooks := .later }
def TrustLinkUptoCardSaid : Prop := Claim7.holds Tryd.pinned (.plain (OpenSpec.upto trustLinkSpec)) trustLinkUptoCard
end Rows
end Go.Proofs.YtebkeppoicllmaaDoor
