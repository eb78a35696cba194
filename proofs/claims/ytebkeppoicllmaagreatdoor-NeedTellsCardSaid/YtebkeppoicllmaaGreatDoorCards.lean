/-
  DERIVED. GIVEN WITH THE SEED: THE CARDS: each row of YtebkeppoicllmaaGreatDoorRows.lean that lists a variable, with what it lists TIED to the program's text (the seventh form; the later family's looks); each row that meets fmt, with fmt's text TOLD by the authors' own Lean function (tested against real Go, not proved from fmt's source: count such statements apart). THE CARD IS WHAT COUNTS. Prove the row's statement (the work); the ties are given (YtebkeppoicllmaaGreatDoorTie.lean); close each card by the builder's one call (the guide's Derived/Test/ToyasCard.lean, 'card_holds'). Laid BY PROGRAM, IN A SANDBOX (cutbox-door.mjs). By AI agents, Wed Nov 11 2026. No macro, syntax, notation, axiom, sorry.
-/
import Derived.Test.YtebkeppoicllmaaGreatDoorRows
import GoSem.ClaimSeven
namespace Go.Proofs.YtebkeppoicllmaaGreatDoor
namespace Rows

/-- THE TIED CARD OF 'mailroomlaw15.TrustJudges'. -/
def trustJudgesCard : Claim7 := { stood := { row := trustJudgesRow, standIns := [], harness := (true, "0017cde9d1b9866437f56938bf1130c0ff810e8071cfc64806b744710ed3f428"), looks := true }, kinds := [], alts := [], laidByText := true, laidKinds := [.data], laidTests := true, laidLooks := .later }
def TrustJudgesCardSaid : Prop := Claim7.holds Tryz.pinned (.plain (OpenSpec.ofChange trustJudgesSpec)) trustJudgesCard

/-- THE TIED CARD OF 'mailroomlaw23.NeedJudges'. -/
def needJudgesCard : Claim7 := { stood := { row := needJudgesRow, standIns := [], harness := (true, "0017cde9d1b9866437f56938bf1130c0ff810e8071cfc64806b744710ed3f428"), looks := true }, kinds := [], alts := [], laidByText := true, laidKinds := [.data, .funcs, .funcs], laidTests := true, laidLooks := .later }
def NeedJudgesCardSaid : Prop := Claim7.holds Tryz.pinned (.plain (OpenSpec.ofChange needJudgesSpec)) needJudgesCard

/-- THE TIED CARD OF 'mailroomlaw23.NeedTells'. -/
def needTellsCard : Claim7 := { stood := { row := needTellsRow, standIns := [], harness := (true, "0017cde9d1b9866437f56938bf1130c0ff810e8071cfc64806b744710ed3f428"), looks := true }, kinds := [], alts := [], laidByText := true, laidKinds := [.data, .funcs, .funcs], laidTests := true, laidLooks := .later }
def NeedTellsCardSaid : Prop := Claim7.holds Tryz.pinned (.plain (OpenSpec.ofChange needTellsSpec)) needTellsCard

/-- THE TIED CARD OF 'mailroomlaw17.PolicyID'. -/
def policyIDCard : Claim7 := { stood := { row := policyIDRow, standIns := [], harness := (true, "0017cde9d1b9866437f56938bf1130c0ff810e8071cfc64806b744710ed3f428"), looks := true }, kinds := [], alts := [], laidByText := true, laidKinds := [.data, .data, .data, .data, .sentinel, .sentinel, .pinned], laidTests := true, laidLooks := .later }
def PolicyIDCardSaid : Prop := Claim7.holds Tryz.pinned (.plain (OpenSpec.ofChange policyIDSpec)) policyIDCard

/-- THE TIED CARD OF 'mailroomlaw17.PolicyHosts'. -/
def policyHostsCard : Claim7 := { stood := { row := policyHostsRow, standIns := [], harness := (true, "0017cde9d1b9866437f56938bf1130c0ff810e8071cfc64806b744710ed3f428"), looks := true }, kinds := [], alts := [], laidByText := true, laidKinds := [.data, .data, .data, .data, .sentinel, .sentinel, .pinned], laidTests := true, laidLooks := .later }
def PolicyHostsCardSaid : Prop := Claim7.holds Tryz.pinned (.plain (OpenSpec.ofChange policyHostsSpec)) policyHostsCard

/-- THE SECOND FORM's CARD OF 'mailroomlaw15.TrustJudges'. -/
def trustJudgesUptoCard : Claim7 := { stood := { row := trustJudgesUptoRow, standIns := [], harness := (true, "0017cde9d1b9866437f56938bf1130c0ff810e8071cfc64806b744710ed3f428"), looks := true }, kinds := [], alts := [], laidByText := true, laidKinds := [.data], laidTests := true, laidLooks := .later }
def TrustJudgesUptoCardSaid : Prop := Claim7.holds Tryz.pinned (.plain (OpenSpec.upto trustJudgesSpec)) trustJudgesUptoCard

/-- THE SECOND FORM's CARD OF 'mailroomlaw23.NeedJudges'. -/
def needJudgesUptoCard : Claim7 := { stood := { row := needJudgesUptoRow, standIns := [], harness := (true, "0017cde9d1b9866437f56938bf1130c0ff810e8071cfc64806b744710ed3f428"), looks := true }, kinds := [], alts := [], laidByText := true, laidKinds := [.data, .funcs, .funcs], laidTests := true, laidLooks := .later }
def NeedJudgesUptoCardSaid : Prop := Claim7.holds Tryz.pinned (.plain (OpenSpec.upto needJudgesSpec)) needJudgesUptoCard

/-- THE SECOND FORM's CARD OF 'mailroomlaw23.NeedTells'. -/
def needTellsUptoCard : Claim7 := { stood := { row := needTellsUptoRow, standIns := [], harness := (true, "0017cde9d1b9866437f56938bf1130c0ff810e8071cfc64806b744710ed3f428"), looks := true }, kinds := [], alts := [], laidByText := true, laidKinds := [.data, .funcs, .funcs], laidTests := true, laidLooks := .later }
def NeedTellsUptoCardSaid : Prop := Claim7.holds Tryz.pinned (.plain (OpenSpec.upto needTellsSpec)) needTellsUptoCard

/-- THE SECOND FORM's CARD OF 'mailroomlaw17.PolicyID'. -/
def policyIDUptoCard : Claim7 := { stood := { row := policyIDUptoRow, standIns := [], harness := (true, "0017cde9d1b9866437f56938bf1130c0ff810e8071cfc64806b744710ed3f428"), looks := true }, kinds := [], alts := [], laidByText := true, laidKinds := [.data, .data, .data, .data, .sentinel, .sentinel, .pinned], laidTests := true, laidLooks := .later }
def PolicyIDUptoCardSaid : Prop := Claim7.holds Tryz.pinned (.plain (OpenSpec.upto policyIDSpec)) policyIDUptoCard

/-- THE SECOND FORM's CARD OF 'mailroomlaw17.PolicyHosts'. -/
def policyHostsUptoCard : Claim7 := { stood := { row := policyHostsUptoRow, standIns := [], harness := (true, "0017cde9d1b9866437f56938bf1130c0ff810e8071cfc64806b744710ed3f428"), looks := true }, kinds := [], alts := [], laidByText := true, laidKinds := [.data, .data, .data, .data, .sentinel, .sentinel, .pinned], laidTests := true, laidLooks := .later }
def PolicyHostsUptoCardSaid : Prop := Claim7.holds Tryz.pinned (.plain (OpenSpec.upto policyHostsSpec)) policyHostsUptoCard
end Rows
end Go.Proofs.YtebkeppoicllmaaGreatDoor
