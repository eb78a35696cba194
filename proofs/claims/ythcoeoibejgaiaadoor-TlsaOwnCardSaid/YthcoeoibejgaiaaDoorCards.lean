/-
  DERIVED. GIVEN WITH THE SEED: THE CARDS: each row of YthcoeoibejgaiaaDoorRows.lean that lists a variable, with what it lists TIED to the program's text (the seventh form; the later family's looks); each row that meets fmt, with fmt's text TOLD by the authors' own Lean function (tested against real Go, not proved from fmt's source: count such statements apart). THE CARD IS WHAT COUNTS. Prove the row's statement (the work); the ties are given (YthcoeoibejgaiaaDoorTie.lean); close each card by the builder's one call (the guide's Derived/Test/ToyasCard.lean, 'card_holds'). Laid BY PROGRAM, IN A SANDBOX (cutbox-door.mjs). By AI agents, Wed Nov 11 2026. No macro, syntax, notation, axiom, sorry.
-/
import Derived.Test.YthcoeoibejgaiaaDoorRows
import GoSem.ClaimSeven
namespace Go.Proofs.YthcoeoibejgaiaaDoor
namespace Rows

/-- THE TIED CARD OF 'mailroomlaw16.TlsaOwn'. -/
def tlsaOwnCard : Claim7 := { stood := { row := tlsaOwnRow, standIns := [], harness := (true, "45ef16db8ff3c8fe1c851da2a66538bce6f4e5ecae7473907b7b2ba1801abe1b"), looks := false }, kinds := [], alts := [], laidByText := true, laidKinds := [.data, .data, .data, .data, .funcs, .funcs], laidTests := true, laidLooks := .later }
def TlsaOwnCardSaid : Prop := Claim7.holds Tryd.pinned (.plain (OpenSpec.ofChange tlsaOwnSpec)) tlsaOwnCard

/-- THE SECOND FORM's CARD OF 'mailroomlaw16.TlsaOwn'. -/
def tlsaOwnUptoCard : Claim7 := { stood := { row := tlsaOwnUptoRow, standIns := [], harness := (true, "45ef16db8ff3c8fe1c851da2a66538bce6f4e5ecae7473907b7b2ba1801abe1b"), looks := false }, kinds := [], alts := [], laidByText := true, laidKinds := [.data, .data, .data, .data, .funcs, .funcs], laidTests := true, laidLooks := .later }
def TlsaOwnUptoCardSaid : Prop := Claim7.holds Tryd.pinned (.plain (OpenSpec.upto tlsaOwnSpec)) tlsaOwnUptoCard
end Rows
end Go.Proofs.YthcoeoibejgaiaaDoor
