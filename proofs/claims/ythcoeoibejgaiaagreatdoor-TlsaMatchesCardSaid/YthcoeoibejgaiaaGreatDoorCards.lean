/-
  DERIVED. GIVEN WITH THE SEED: THE CARDS: each row of YthcoeoibejgaiaaGreatDoorRows.lean that lists a variable, with what it lists TIED to the program's text (the seventh form; the later family's looks); each row that meets fmt, with fmt's text TOLD by the authors' own Lean function (tested against real Go, not proved from fmt's source: count such statements apart). THE CARD IS WHAT COUNTS. Prove the row's statement (the work); the ties are given (YthcoeoibejgaiaaGreatDoorTie.lean); close each card by the builder's one call (the guide's Derived/Test/ToyasCard.lean, 'card_holds'). Laid BY PROGRAM, IN A SANDBOX (cutbox-door.mjs). By AI agents, Wed Nov 11 2026. No macro, syntax, notation, axiom, sorry.
-/
import Derived.Test.YthcoeoibejgaiaaGreatDoorRows
import GoSem.ClaimSeven
namespace Go.Proofs.YthcoeoibejgaiaaGreatDoor
namespace Rows

/-- THE TIED CARD OF 'mailroomlaw16.TlsaMatches'. -/
def tlsaMatchesCard : Claim7 := { stood := { row := tlsaMatchesRow, standIns := [], harness := (true, "a1037dfe852c71c22b535b3610f80e87fc9c00459dbff5b55af48223d32bb449"), looks := true }, kinds := [], alts := [], laidByText := true, laidKinds := [.data, .data, .data, .data, .funcs, .funcs], laidTests := true, laidLooks := .later }
def TlsaMatchesCardSaid : Prop := Claim7.holds Tryz.pinned (.plain (OpenSpec.ofChange tlsaMatchesSpec)) tlsaMatchesCard

/-- THE TIED CARD OF 'mailroomlaw16.TlsaMore'. -/
def tlsaMoreCard : Claim7 := { stood := { row := tlsaMoreRow, standIns := [], harness := (true, "a1037dfe852c71c22b535b3610f80e87fc9c00459dbff5b55af48223d32bb449"), looks := true }, kinds := [], alts := [], laidByText := true, laidKinds := [.data, .data, .data, .data, .funcs, .funcs], laidTests := true, laidLooks := .later }
def TlsaMoreCardSaid : Prop := Claim7.holds Tryz.pinned (.plain (OpenSpec.ofChange tlsaMoreSpec)) tlsaMoreCard

/-- THE TIED CARD OF 'mailroomlaw16.TlsaMade'. -/
def tlsaMadeCard : Claim7 := { stood := { row := tlsaMadeRow, standIns := [], harness := (true, "a1037dfe852c71c22b535b3610f80e87fc9c00459dbff5b55af48223d32bb449"), looks := true }, kinds := [], alts := [], laidByText := true, laidKinds := [.data, .data, .data, .data, .sentinel, .sentinel, .data, .funcs, .funcs, .pinned], laidTests := true, laidLooks := .later }
def TlsaMadeCardSaid : Prop := Claim7.holds Tryz.pinned (.plain (OpenSpec.ofChange tlsaMadeSpec)) tlsaMadeCard

/-- THE TIED CARD OF 'mailroomlaw16.TlsaTells'. -/
def tlsaTellsCard : Claim7 := { stood := { row := tlsaTellsRow, standIns := [], harness := (true, "a1037dfe852c71c22b535b3610f80e87fc9c00459dbff5b55af48223d32bb449"), looks := true }, kinds := [], alts := [], laidByText := true, laidKinds := [.data, .data, .data, .data, .sentinel, .sentinel, .data, .funcs, .funcs, .pinned], laidTests := true, laidLooks := .later }
def TlsaTellsCardSaid : Prop := Claim7.holds Tryz.pinned (.plain (OpenSpec.ofChange tlsaTellsSpec)) tlsaTellsCard

/-- THE SECOND FORM's CARD OF 'mailroomlaw16.TlsaMatches'. -/
def tlsaMatchesUptoCard : Claim7 := { stood := { row := tlsaMatchesUptoRow, standIns := [], harness := (true, "a1037dfe852c71c22b535b3610f80e87fc9c00459dbff5b55af48223d32bb449"), looks := true }, kinds := [], alts := [], laidByText := true, laidKinds := [.data, .data, .data, .data, .funcs, .funcs], laidTests := true, laidLooks := .later }
def TlsaMatchesUptoCardSaid : Prop := Claim7.holds Tryz.pinned (.plain (OpenSpec.upto tlsaMatchesSpec)) tlsaMatchesUptoCard

/-- THE SECOND FORM's CARD OF 'mailroomlaw16.TlsaMore'. -/
def tlsaMoreUptoCard : Claim7 := { stood := { row := tlsaMoreUptoRow, standIns := [], harness := (true, "a1037dfe852c71c22b535b3610f80e87fc9c00459dbff5b55af48223d32bb449"), looks := true }, kinds := [], alts := [], laidByText := true, laidKinds := [.data, .data, .data, .data, .funcs, .funcs], laidTests := true, laidLooks := .later }
def TlsaMoreUptoCardSaid : Prop := Claim7.holds Tryz.pinned (.plain (OpenSpec.upto tlsaMoreSpec)) tlsaMoreUptoCard

/-- THE SECOND FORM's CARD OF 'mailroomlaw16.TlsaMade'. -/
def tlsaMadeUptoCard : Claim7 := { stood := { row := tlsaMadeUptoRow, standIns := [], harness := (true, "a1037dfe852c71c22b535b3610f80e87fc9c00459dbff5b55af48223d32bb449"), looks := true }, kinds := [], alts := [], laidByText := true, laidKinds := [.data, .data, .data, .data, .sentinel, .sentinel, .data, .funcs, .funcs, .pinned], laidTests := true, laidLooks := .later }
def TlsaMadeUptoCardSaid : Prop := Claim7.holds Tryz.pinned (.plain (OpenSpec.upto tlsaMadeSpec)) tlsaMadeUptoCard

/-- THE SECOND FORM's CARD OF 'mailroomlaw16.TlsaTells'. -/
def tlsaTellsUptoCard : Claim7 := { stood := { row := tlsaTellsUptoRow, standIns := [], harness := (true, "a1037dfe852c71c22b535b3610f80e87fc9c00459dbff5b55af48223d32bb449"), looks := true }, kinds := [], alts := [], laidByText := true, laidKinds := [.data, .data, .data, .data, .sentinel, .sentinel, .data, .funcs, .funcs, .pinned], laidTests := true, laidLooks := .later }
def TlsaTellsUptoCardSaid : Prop := Claim7.holds Tryz.pinned (.plain (OpenSpec.upto tlsaTellsSpec)) tlsaTellsUptoCard
end Rows
end Go.Proofs.YthcoeoibejgaiaaGreatDoor
