/-
  DERIVED. GIVEN WITH THE SEED: THE CARDS: each row of YtakfcajmfgnchaaGreatDoorRows.lean that lists a variable, with what it lists TIED to the program's text (the seventh form; the later family's looks); each row that meets fmt, with fmt's text TOLD by the authors' own Lean function (tested against real Go, not proved from fmt's source: count such statements apart). THE CARD IS WHAT COUNTS. Prove the row's statement (the work); the ties are given (YtakfcajmfgnchaaGreatDoorTie.lean); close each card by the builder's one call (the guide's Derived/Test/ToyasCard.lean, 'card_holds'). Laid BY PROGRAM, IN A SANDBOX (cutbox-door.mjs). By AI agents, Wed Nov 11 2026. No macro, syntax, notation, axiom, sorry.
-/
import Derived.Test.YtakfcajmfgnchaaGreatDoorRows
import GoSem.ClaimSeven
namespace Go.Proofs.YtakfcajmfgnchaaGreatDoor
namespace Rows

/-- THE TIED CARD OF 'mailroomlaw23.NeedResult'. -/
def needResultCard : Claim7 := { stood := { row := needResultRow, standIns := [], harness := (true, "15dd630234c92c3a87d03a39681a987d6061eff9285e4bcc22e426263842ed0f"), looks := false }, kinds := [], alts := [], laidByText := true, laidKinds := [.data, .funcs, .funcs], laidTests := true, laidLooks := .later }
def NeedResultCardSaid : Prop := Claim7.holds Tryz.pinned (.plain (OpenSpec.ofChange needResultSpec)) needResultCard

/-- THE TIED CARD OF 'mailroomlaw23.NeedMore'. -/
def needMoreCard : Claim7 := { stood := { row := needMoreRow, standIns := [], harness := (true, "15dd630234c92c3a87d03a39681a987d6061eff9285e4bcc22e426263842ed0f"), looks := false }, kinds := [], alts := [], laidByText := true, laidKinds := [.data, .funcs, .funcs], laidTests := true, laidLooks := .later }
def NeedMoreCardSaid : Prop := Claim7.holds Tryz.pinned (.plain (OpenSpec.ofChange needMoreSpec)) needMoreCard

/-- THE TIED CARD OF 'mailroomlaw23.NeedKeys'. -/
def needKeysCard : Claim7 := { stood := { row := needKeysRow, standIns := [], harness := (true, "15dd630234c92c3a87d03a39681a987d6061eff9285e4bcc22e426263842ed0f"), looks := false }, kinds := [], alts := [], laidByText := true, laidKinds := [.data, .funcs, .funcs], laidTests := true, laidLooks := .later }
def NeedKeysCardSaid : Prop := Claim7.holds Tryz.pinned (.plain (OpenSpec.ofChange needKeysSpec)) needKeysCard

/-- THE TIED CARD OF 'mailroomlaw23.NeedLess'. -/
def needLessCard : Claim7 := { stood := { row := needLessRow, standIns := [], harness := (true, "15dd630234c92c3a87d03a39681a987d6061eff9285e4bcc22e426263842ed0f"), looks := false }, kinds := [], alts := [], laidByText := true, laidKinds := [.data, .funcs, .funcs], laidTests := true, laidLooks := .later }
def NeedLessCardSaid : Prop := Claim7.holds Tryz.pinned (.plain (OpenSpec.ofChange needLessSpec)) needLessCard

/-- THE TIED CARD OF 'mailroomlaw23.NeedPlain'. -/
def needPlainCard : Claim7 := { stood := { row := needPlainRow, standIns := [], harness := (true, "15dd630234c92c3a87d03a39681a987d6061eff9285e4bcc22e426263842ed0f"), looks := false }, kinds := [], alts := [], laidByText := true, laidKinds := [.data, .funcs, .funcs], laidTests := true, laidLooks := .later }
def NeedPlainCardSaid : Prop := Claim7.holds Tryz.pinned (.plain (OpenSpec.ofChange needPlainSpec)) needPlainCard

/-- THE TIED CARD OF 'mailroomlaw16.TlsaMore'. -/
def tlsaMoreCard : Claim7 := { stood := { row := tlsaMoreRow, standIns := [], harness := (true, "15dd630234c92c3a87d03a39681a987d6061eff9285e4bcc22e426263842ed0f"), looks := false }, kinds := [], alts := [], laidByText := true, laidKinds := [.data, .data, .data, .data, .funcs, .funcs], laidTests := true, laidLooks := .later }
def TlsaMoreCardSaid : Prop := Claim7.holds Tryz.pinned (.plain (OpenSpec.ofChange tlsaMoreSpec)) tlsaMoreCard

/-- THE SECOND FORM's CARD OF 'mailroomlaw23.NeedResult'. -/
def needResultUptoCard : Claim7 := { stood := { row := needResultUptoRow, standIns := [], harness := (true, "15dd630234c92c3a87d03a39681a987d6061eff9285e4bcc22e426263842ed0f"), looks := false }, kinds := [], alts := [], laidByText := true, laidKinds := [.data, .funcs, .funcs], laidTests := true, laidLooks := .later }
def NeedResultUptoCardSaid : Prop := Claim7.holds Tryz.pinned (.plain (OpenSpec.upto needResultSpec)) needResultUptoCard

/-- THE SECOND FORM's CARD OF 'mailroomlaw23.NeedMore'. -/
def needMoreUptoCard : Claim7 := { stood := { row := needMoreUptoRow, standIns := [], harness := (true, "15dd630234c92c3a87d03a39681a987d6061eff9285e4bcc22e426263842ed0f"), looks := false }, kinds := [], alts := [], laidByText := true, laidKinds := [.data, .funcs, .funcs], laidTests := true, laidLooks := .later }
def NeedMoreUptoCardSaid : Prop := Claim7.holds Tryz.pinned (.plain (OpenSpec.upto needMoreSpec)) needMoreUptoCard

/-- THE SECOND FORM's CARD OF 'mailroomlaw23.NeedKeys'. -/
def needKeysUptoCard : Claim7 := { stood := { row := needKeysUptoRow, standIns := [], harness := (true, "15dd630234c92c3a87d03a39681a987d6061eff9285e4bcc22e426263842ed0f"), looks := false }, kinds := [], alts := [], laidByText := true, laidKinds := [.data, .funcs, .funcs], laidTests := true, laidLooks := .later }
def NeedKeysUptoCardSaid : Prop := Claim7.holds Tryz.pinned (.plain (OpenSpec.upto needKeysSpec)) needKeysUptoCard

/-- THE SECOND FORM's CARD OF 'mailroomlaw23.NeedLess'. -/
def needLessUptoCard : Claim7 := { stood := { row := needLessUptoRow, standIns := [], harness := (true, "15dd630234c92c3a87d03a39681a987d6061eff9285e4bcc22e426263842ed0f"), looks := false }, kinds := [], alts := [], laidByText := true, laidKinds := [.data, .funcs, .funcs], laidTests := true, laidLooks := .later }
def NeedLessUptoCardSaid : Prop := Claim7.holds Tryz.pinned (.plain (OpenSpec.upto needLessSpec)) needLessUptoCard

/-- THE SECOND FORM's CARD OF 'mailroomlaw23.NeedPlain'. -/
def needPlainUptoCard : Claim7 := { stood := { row := needPlainUptoRow, standIns := [], harness := (true, "15dd630234c92c3a87d03a39681a987d6061eff9285e4bcc22e426263842ed0f"), looks := false }, kinds := [], alts := [], laidByText := true, laidKinds := [.data, .funcs, .funcs], laidTests := true, laidLooks := .later }
def NeedPlainUptoCardSaid : Prop := Claim7.holds Tryz.pinned (.plain (OpenSpec.upto needPlainSpec)) needPlainUptoCard

/-- THE SECOND FORM's CARD OF 'mailroomlaw16.TlsaMore'. -/
def tlsaMoreUptoCard : Claim7 := { stood := { row := tlsaMoreUptoRow, standIns := [], harness := (true, "15dd630234c92c3a87d03a39681a987d6061eff9285e4bcc22e426263842ed0f"), looks := false }, kinds := [], alts := [], laidByText := true, laidKinds := [.data, .data, .data, .data, .funcs, .funcs], laidTests := true, laidLooks := .later }
def TlsaMoreUptoCardSaid : Prop := Claim7.holds Tryz.pinned (.plain (OpenSpec.upto tlsaMoreSpec)) tlsaMoreUptoCard
end Rows
end Go.Proofs.YtakfcajmfgnchaaGreatDoor
