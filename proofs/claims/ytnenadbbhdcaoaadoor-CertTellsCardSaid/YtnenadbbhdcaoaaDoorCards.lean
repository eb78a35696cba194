/-
  DERIVED. GIVEN WITH THE SEED: THE CARDS: each row of YtnenadbbhdcaoaaDoorRows.lean that lists a variable, with what it lists TIED to the program's text (the seventh form; the later family's looks); each row that meets fmt, with fmt's text TOLD by the authors' own Lean function (tested against real Go, not proved from fmt's source: count such statements apart). THE CARD IS WHAT COUNTS. Prove the row's statement (the work); the ties are given (YtnenadbbhdcaoaaDoorTie.lean); close each card by the builder's one call (the guide's Derived/Test/ToyasCard.lean, 'card_holds'). Laid BY PROGRAM, IN A SANDBOX (cutbox-door.mjs). By AI agents, Wed Nov 11 2026. No macro, syntax, notation, axiom, sorry.
-/
import Derived.Test.YtnenadbbhdcaoaaDoorRows
import GoSem.ClaimSeven
namespace Go.Proofs.YtnenadbbhdcaoaaDoor
namespace Rows

/-- THE TIED CARD OF 'mailroomlaw14.CertTells'. -/
def certTellsCard : Claim7 := { stood := { row := certTellsRow, standIns := [], harness := (true, "3817678b327f76a8020738b69bcf1ede3ee4f36940b7e119d5b86d3fcd85ef2a"), looks := true }, kinds := [], alts := [], laidByText := true, laidKinds := [.data], laidTests := true, laidLooks := .later }
def CertTellsCardSaid : Prop := Claim7.holds Tryd.pinned (.plain (OpenSpec.ofChange certTellsSpec)) certTellsCard

/-- THE TIED CARD OF 'mailroomlaw15.TrustTells'. -/
def trustTellsCard : Claim7 := { stood := { row := trustTellsRow, standIns := [], harness := (true, "3817678b327f76a8020738b69bcf1ede3ee4f36940b7e119d5b86d3fcd85ef2a"), looks := true }, kinds := [], alts := [], laidByText := true, laidKinds := [.data], laidTests := true, laidLooks := .later }
def TrustTellsCardSaid : Prop := Claim7.holds Tryd.pinned (.plain (OpenSpec.ofChange trustTellsSpec)) trustTellsCard

/-- THE TIED CARD OF 'mailroomlaw15.TrustLink'. -/
def trustLinkCard : Claim7 := { stood := { row := trustLinkRow, standIns := [], harness := (true, "3817678b327f76a8020738b69bcf1ede3ee4f36940b7e119d5b86d3fcd85ef2a"), looks := true }, kinds := [], alts := [], laidByText := true, laidKinds := [.data], laidTests := true, laidLooks := .later }
def TrustLinkCardSaid : Prop := Claim7.holds Tryd.pinned (.plain (OpenSpec.ofChange trustLinkSpec)) trustLinkCard

/-- THE TIED CARD OF 'mailroomlaw02.CodeSum'. -/
def codeSumCard : Claim7 := { stood := { row := codeSumRow, standIns := [], harness := (true, "3817678b327f76a8020738b69bcf1ede3ee4f36940b7e119d5b86d3fcd85ef2a"), looks := true }, kinds := [], alts := [], laidByText := true, laidKinds := [.data, .data, .data, .data, .sentinel, .sentinel, .data, .pinned], laidTests := true, laidLooks := .later }
def CodeSumCardSaid : Prop := Claim7.holds Tryd.pinned (.plain (OpenSpec.ofChange codeSumSpec)) codeSumCard

/-- THE SECOND FORM's CARD OF 'mailroomlaw14.CertTells'. -/
def certTellsUptoCard : Claim7 := { stood := { row := certTellsUptoRow, standIns := [], harness := (true, "3817678b327f76a8020738b69bcf1ede3ee4f36940b7e119d5b86d3fcd85ef2a"), looks := true }, kinds := [], alts := [], laidByText := true, laidKinds := [.data], laidTests := true, laidLooks := .later }
def CertTellsUptoCardSaid : Prop := Claim7.holds Tryd.pinned (.plain (OpenSpec.upto certTellsSpec)) certTellsUptoCard

/-- THE SECOND FORM's CARD OF 'mailroomlaw15.TrustTells'. -/
def trustTellsUptoCard : Claim7 := { stood := { row := trustTellsUptoRow, standIns := [], harness := (true, "3817678b327f76a8020738b69bcf1ede3ee4f36940b7e119d5b86d3fcd85ef2a"), looks := true }, kinds := [], alts := [], laidByText := true, laidKinds := [.data], laidTests := true, laidLooks := .later }
def TrustTellsUptoCardSaid : Prop := Claim7.holds Tryd.pinned (.plain (OpenSpec.upto trustTellsSpec)) trustTellsUptoCard

/-- THE SECOND FORM's CARD OF 'mailroomlaw15.TrustLink'. -/
def trustLinkUptoCard : Claim7 := { stood := { row := trustLinkUptoRow, standIns := [], harness := (true, "3817678b327f76a8020738b69bcf1ede3ee4f36940b7e119d5b86d3fcd85ef2a"), looks := true }, kinds := [], alts := [], laidByText := true, laidKinds := [.data], laidTests := true, laidLooks := .later }
def TrustLinkUptoCardSaid : Prop := Claim7.holds Tryd.pinned (.plain (OpenSpec.upto trustLinkSpec)) trustLinkUptoCard

/-- THE SECOND FORM's CARD OF 'mailroomlaw02.CodeSum'. -/
def codeSumUptoCard : Claim7 := { stood := { row := codeSumUptoRow, standIns := [], harness := (true, "3817678b327f76a8020738b69bcf1ede3ee4f36940b7e119d5b86d3fcd85ef2a"), looks := true }, kinds := [], alts := [], laidByText := true, laidKinds := [.data, .data, .data, .data, .sentinel, .sentinel, .data, .pinned], laidTests := true, laidLooks := .later }
def CodeSumUptoCardSaid : Prop := Claim7.holds Tryd.pinned (.plain (OpenSpec.upto codeSumSpec)) codeSumUptoCard
end Rows
end Go.Proofs.YtnenadbbhdcaoaaDoor
