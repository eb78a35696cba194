/-
  DERIVED. GIVEN WITH THE SEED: THE CARDS: each row of YtakfcajmfgnchaaDoorRows.lean that lists a variable, with what it lists TIED to the program's text (the seventh form; the later family's looks); each row that meets fmt, with fmt's text TOLD by the authors' own Lean function (tested against real Go, not proved from fmt's source: count such statements apart). THE CARD IS WHAT COUNTS. Prove the row's statement (the work); the ties are given (YtakfcajmfgnchaaDoorTie.lean); close each card by the builder's one call (the guide's Derived/Test/ToyasCard.lean, 'card_holds'). Laid BY PROGRAM, IN A SANDBOX (cutbox-door.mjs). By AI agents, Wed Nov 11 2026. No macro, syntax, notation, axiom, sorry.
-/
import Derived.Test.YtakfcajmfgnchaaDoorRows
import GoSem.ClaimSeven
namespace Go.Proofs.YtakfcajmfgnchaaDoor
namespace Rows

/-- THE TIED CARD OF 'mailroomlaw14.CertWithin'. -/
def certWithinCard : Claim7 := { stood := { row := certWithinRow, standIns := [], harness := (true, "a90950fdd24a7d6ca38cd5d5b87ced24586b1442321e755c5a6559e692744255"), looks := false }, kinds := [], alts := [], laidByText := true, laidKinds := [.data], laidTests := true, laidLooks := .later }
def CertWithinCardSaid : Prop := Claim7.holds Tryd.pinned (.plain (OpenSpec.ofChange certWithinSpec)) certWithinCard

/-- THE TIED CARD OF 'mailroomlaw15.TrustRight'. -/
def trustRightCard : Claim7 := { stood := { row := trustRightRow, standIns := [], harness := (true, "a90950fdd24a7d6ca38cd5d5b87ced24586b1442321e755c5a6559e692744255"), looks := false }, kinds := [], alts := [], laidByText := true, laidKinds := [.data], laidTests := true, laidLooks := .later }
def TrustRightCardSaid : Prop := Claim7.holds Tryd.pinned (.plain (OpenSpec.ofChange trustRightSpec)) trustRightCard

/-- THE TIED CARD OF 'mailroomlaw15.TrustLink'. -/
def trustLinkCard : Claim7 := { stood := { row := trustLinkRow, standIns := [], harness := (true, "a90950fdd24a7d6ca38cd5d5b87ced24586b1442321e755c5a6559e692744255"), looks := false }, kinds := [], alts := [], laidByText := true, laidKinds := [.data], laidTests := true, laidLooks := .later }
def TrustLinkCardSaid : Prop := Claim7.holds Tryd.pinned (.plain (OpenSpec.ofChange trustLinkSpec)) trustLinkCard

/-- THE TIED CARD OF 'mailroomlaw15.TrustTimes'. -/
def trustTimesCard : Claim7 := { stood := { row := trustTimesRow, standIns := [], harness := (true, "a90950fdd24a7d6ca38cd5d5b87ced24586b1442321e755c5a6559e692744255"), looks := false }, kinds := [], alts := [], laidByText := true, laidKinds := [.data], laidTests := true, laidLooks := .later }
def TrustTimesCardSaid : Prop := Claim7.holds Tryd.pinned (.plain (OpenSpec.ofChange trustTimesSpec)) trustTimesCard

/-- THE TIED CARD OF 'mailroomlaw15.TrustStar'. -/
def trustStarCard : Claim7 := { stood := { row := trustStarRow, standIns := [], harness := (true, "a90950fdd24a7d6ca38cd5d5b87ced24586b1442321e755c5a6559e692744255"), looks := false }, kinds := [], alts := [], laidByText := true, laidKinds := [.data], laidTests := true, laidLooks := .later }
def TrustStarCardSaid : Prop := Claim7.holds Tryd.pinned (.plain (OpenSpec.ofChange trustStarSpec)) trustStarCard

/-- THE TIED CARD OF 'mailroomlaw16.TlsaOwn'. -/
def tlsaOwnCard : Claim7 := { stood := { row := tlsaOwnRow, standIns := [], harness := (true, "a90950fdd24a7d6ca38cd5d5b87ced24586b1442321e755c5a6559e692744255"), looks := false }, kinds := [], alts := [], laidByText := true, laidKinds := [.data, .data, .data, .data, .funcs, .funcs], laidTests := true, laidLooks := .later }
def TlsaOwnCardSaid : Prop := Claim7.holds Tryd.pinned (.plain (OpenSpec.ofChange tlsaOwnSpec)) tlsaOwnCard

/-- THE SECOND FORM's CARD OF 'mailroomlaw14.CertWithin'. -/
def certWithinUptoCard : Claim7 := { stood := { row := certWithinUptoRow, standIns := [], harness := (true, "a90950fdd24a7d6ca38cd5d5b87ced24586b1442321e755c5a6559e692744255"), looks := false }, kinds := [], alts := [], laidByText := true, laidKinds := [.data], laidTests := true, laidLooks := .later }
def CertWithinUptoCardSaid : Prop := Claim7.holds Tryd.pinned (.plain (OpenSpec.upto certWithinSpec)) certWithinUptoCard

/-- THE SECOND FORM's CARD OF 'mailroomlaw15.TrustRight'. -/
def trustRightUptoCard : Claim7 := { stood := { row := trustRightUptoRow, standIns := [], harness := (true, "a90950fdd24a7d6ca38cd5d5b87ced24586b1442321e755c5a6559e692744255"), looks := false }, kinds := [], alts := [], laidByText := true, laidKinds := [.data], laidTests := true, laidLooks := .later }
def TrustRightUptoCardSaid : Prop := Claim7.holds Tryd.pinned (.plain (OpenSpec.upto trustRightSpec)) trustRightUptoCard

/-- THE SECOND FORM's CARD OF 'mailroomlaw15.TrustLink'. -/
def trustLinkUptoCard : Claim7 := { stood := { row := trustLinkUptoRow, standIns := [], harness := (true, "a90950fdd24a7d6ca38cd5d5b87ced24586b1442321e755c5a6559e692744255"), looks := false }, kinds := [], alts := [], laidByText := true, laidKinds := [.data], laidTests := true, laidLooks := .later }
def TrustLinkUptoCardSaid : Prop := Claim7.holds Tryd.pinned (.plain (OpenSpec.upto trustLinkSpec)) trustLinkUptoCard

/-- THE SECOND FORM's CARD OF 'mailroomlaw15.TrustTimes'. -/
def trustTimesUptoCard : Claim7 := { stood := { row := trustTimesUptoRow, standIns := [], harness := (true, "a90950fdd24a7d6ca38cd5d5b87ced24586b1442321e755c5a6559e692744255"), looks := false }, kinds := [], alts := [], laidByText := true, laidKinds := [.data], laidTests := true, laidLooks := .later }
def TrustTimesUptoCardSaid : Prop := Claim7.holds Tryd.pinned (.plain (OpenSpec.upto trustTimesSpec)) trustTimesUptoCard

/-- THE SECOND FORM's CARD OF 'mailroomlaw15.TrustStar'. -/
def trustStarUptoCard : Claim7 := { stood := { row := trustStarUptoRow, standIns := [], harness := (true, "a90950fdd24a7d6ca38cd5d5b87ced24586b1442321e755c5a6559e692744255"), looks := false }, kinds := [], alts := [], laidByText := true, laidKinds := [.data], laidTests := true, laidLooks := .later }
def TrustStarUptoCardSaid : Prop := Claim7.holds Tryd.pinned (.plain (OpenSpec.upto trustStarSpec)) trustStarUptoCard

/-- THE SECOND FORM's CARD OF 'mailroomlaw16.TlsaOwn'. -/
def tlsaOwnUptoCard : Claim7 := { stood := { row := tlsaOwnUptoRow, standIns := [], harness := (true, "a90950fdd24a7d6ca38cd5d5b87ced24586b1442321e755c5a6559e692744255"), looks := false }, kinds := [], alts := [], laidByText := true, laidKinds := [.data, .data, .data, .data, .funcs, .funcs], laidTests := true, laidLooks := .later }
def TlsaOwnUptoCardSaid : Prop := Claim7.holds Tryd.pinned (.plain (OpenSpec.upto tlsaOwnSpec)) tlsaOwnUptoCard
end Rows
end Go.Proofs.YtakfcajmfgnchaaDoor
