/-
  No cell of these rows narrows 'for every input' (looked for: loops, veiled, ifaces, maps, wideKeys, modest, calm, conditions, laid).
  DERIVED. THE GIVEN ROWS OF THIS SEAT. 8 by the template 'for every input the law returns true; each argument reads behind the call as it read before'; 0 by the template 'total and deterministic' (their statements: YtpjopdemhkcifaaTotals.lean).
  GIVEN WITH THE SEED: the statements are not yours to turn. If you find one false, say at which input.
  Laid BY PROGRAM, IN A SANDBOX (cutbox-rows.mjs): the forced cells as the released guide's own fill.sh prints them over the translation 986b3164b34f5dc7… (all of the seat's roots in one cut). By AI agents, Wed Nov 11 2026. No macro, syntax, notation, axiom, sorry.
-/
import Derived.Test.YtpjopdemhkcifaaChecked
import GoSem.Claim
import GoSem.ClaimJoined
import GoSem.ClaimMapViews
import Derived.JoinedTies
import Derived.KernelRfl
namespace Go.Proofs.Ytpjopdemhkcifaa
/- THE CELL 'sum', in the pinned program and in every row, IS THE sha256 OF THE DUMP (.gsa) THAT YtpjopdemhkcifaaProg.lean LOADS. Nothing in Lean hashes anything: it is a label: what it is worth is what the hold of that sum in a sandbox is worth. -/
noncomputable def Try.pinned : Pinned := { name := "ytpjopdemhkcifaa", sum := "986b3164b34f5dc7271074e347637918bfa3311b07f9b373d678ded5b9bcb416", checked := Try.checked }
namespace Rows
def none {H : Type} : Left H := { results := [], args := [] }

/-- 'mailroomlaw13.DerNumbers': WHATEVER THE INPUT: true; the input reads as it did. -/
def derNumbersSpec : ChangeSpec := { name := "derNumbers", fn := fun _ => fun
  | [d1, d2] => { results := [.lit (.bool true)], args := [d1, d2] }
  | _ => none }
def derNumbersRow : OpenClaim := { program := "ytpjopdemhkcifaa", sum := "986b3164b34f5dc7271074e347637918bfa3311b07f9b373d678ded5b9bcb416", func := "mailroom/mailroomlaw13.DerNumbers", spec := "derNumbers", apart := false }
def DerNumbersSaid : Prop := derNumbersRow.holds Try.pinned (OpenSpec.ofChange derNumbersSpec)

/-- ITS FALSE NEIGHBOUR: 'it returns false'. Refute it at one input. -/
def derNumbersWrong : ChangeSpec := { name := "derNumbers", fn := fun _ => fun
  | [d1, d2] => { results := [.lit (.bool false)], args := [d1, d2] }
  | _ => none }
def DerNumbersWrongFalsely : Prop := derNumbersRow.holds Try.pinned (OpenSpec.ofChange derNumbersWrong)

/-- 'mailroomlaw13.DerBack': WHATEVER THE INPUT: true; the input reads as it did. -/
def derBackSpec : ChangeSpec := { name := "derBack", fn := fun _ => fun
  | [d1, d2] => { results := [.lit (.bool true)], args := [d1, d2] }
  | _ => none }
def derBackRow : OpenClaim := { program := "ytpjopdemhkcifaa", sum := "986b3164b34f5dc7271074e347637918bfa3311b07f9b373d678ded5b9bcb416", func := "mailroom/mailroomlaw13.DerBack", spec := "derBack", apart := false }
def DerBackSaid : Prop := derBackRow.holds Try.pinned (OpenSpec.ofChange derBackSpec)

/-- ITS FALSE NEIGHBOUR: 'it returns false'. Refute it at one input. -/
def derBackWrong : ChangeSpec := { name := "derBack", fn := fun _ => fun
  | [d1, d2] => { results := [.lit (.bool false)], args := [d1, d2] }
  | _ => none }
def DerBackWrongFalsely : Prop := derBackRow.holds Try.pinned (OpenSpec.ofChange derBackWrong)

/-- 'mailroomlaw13.DerOne': WHATEVER THE INPUT: true; the input reads as it did. -/
def derOneSpec : ChangeSpec := { name := "derOne", fn := fun _ => fun
  | [d1, d2] => { results := [.lit (.bool true)], args := [d1, d2] }
  | _ => none }
def derOneRow : OpenClaim := { program := "ytpjopdemhkcifaa", sum := "986b3164b34f5dc7271074e347637918bfa3311b07f9b373d678ded5b9bcb416", func := "mailroom/mailroomlaw13.DerOne", spec := "derOne", apart := false }
def DerOneSaid : Prop := derOneRow.holds Try.pinned (OpenSpec.ofChange derOneSpec)

/-- ITS FALSE NEIGHBOUR: 'it returns false'. Refute it at one input. -/
def derOneWrong : ChangeSpec := { name := "derOne", fn := fun _ => fun
  | [d1, d2] => { results := [.lit (.bool false)], args := [d1, d2] }
  | _ => none }
def DerOneWrongFalsely : Prop := derOneRow.holds Try.pinned (OpenSpec.ofChange derOneWrong)

/-- 'mailroomlaw13.DerSigns': WHATEVER THE INPUT: true; the input reads as it did. -/
def derSignsSpec : ChangeSpec := { name := "derSigns", fn := fun _ => fun
  | [d1, d2, d3] => { results := [.lit (.bool true)], args := [d1, d2, d3] }
  | _ => none }
def derSignsRow : OpenClaim := { program := "ytpjopdemhkcifaa", sum := "986b3164b34f5dc7271074e347637918bfa3311b07f9b373d678ded5b9bcb416", func := "mailroom/mailroomlaw13.DerSigns", spec := "derSigns", apart := false }
def DerSignsSaid : Prop := derSignsRow.holds Try.pinned (OpenSpec.ofChange derSignsSpec)

/-- ITS FALSE NEIGHBOUR: 'it returns false'. Refute it at one input. -/
def derSignsWrong : ChangeSpec := { name := "derSigns", fn := fun _ => fun
  | [d1, d2, d3] => { results := [.lit (.bool false)], args := [d1, d2, d3] }
  | _ => none }
def DerSignsWrongFalsely : Prop := derSignsRow.holds Try.pinned (OpenSpec.ofChange derSignsWrong)

/-- 'mailroomlaw13.DerNames': WHATEVER THE INPUT: true; the input reads as it did. -/
def derNamesSpec : ChangeSpec := { name := "derNames", fn := fun _ => fun
  | [] => { results := [.lit (.bool true)], args := [] }
  | _ => none }
def derNamesRow : OpenClaim := { program := "ytpjopdemhkcifaa", sum := "986b3164b34f5dc7271074e347637918bfa3311b07f9b373d678ded5b9bcb416", func := "mailroom/mailroomlaw13.DerNames", spec := "derNames", unfollowed := true, recurses := true, apart := false }
def DerNamesSaid : Prop := derNamesRow.holds Try.pinned (OpenSpec.ofChange derNamesSpec)

/-- ITS FALSE NEIGHBOUR: 'it returns false'. Refute it at one input. -/
def derNamesWrong : ChangeSpec := { name := "derNames", fn := fun _ => fun
  | [] => { results := [.lit (.bool false)], args := [] }
  | _ => none }
def DerNamesWrongFalsely : Prop := derNamesRow.holds Try.pinned (OpenSpec.ofChange derNamesWrong)

/-- 'mailroomlaw13.DerRow': WHATEVER THE INPUT: true; the input reads as it did. -/
def derRowSpec : ChangeSpec := { name := "derRow", fn := fun _ => fun
  | [d1, d2] => { results := [.lit (.bool true)], args := [d1, d2] }
  | _ => none }
def derRowRow : OpenClaim := { program := "ytpjopdemhkcifaa", sum := "986b3164b34f5dc7271074e347637918bfa3311b07f9b373d678ded5b9bcb416", func := "mailroom/mailroomlaw13.DerRow", spec := "derRow", unfollowed := true, recurses := true, apart := false }
def DerRowSaid : Prop := derRowRow.holds Try.pinned (OpenSpec.ofChange derRowSpec)

/-- ITS FALSE NEIGHBOUR: 'it returns false'. Refute it at one input. -/
def derRowWrong : ChangeSpec := { name := "derRow", fn := fun _ => fun
  | [d1, d2] => { results := [.lit (.bool false)], args := [d1, d2] }
  | _ => none }
def DerRowWrongFalsely : Prop := derRowRow.holds Try.pinned (OpenSpec.ofChange derRowWrong)

/-- 'mailroomlaw14.CertCut': WHATEVER THE INPUT: true; the input reads as it did. -/
def certCutSpec : ChangeSpec := { name := "certCut", fn := fun _ => fun
  | [d1, d2, d3] => { results := [.lit (.bool true)], args := [d1, d2, d3] }
  | _ => none }
def certCutRow : OpenClaim := { program := "ytpjopdemhkcifaa", sum := "986b3164b34f5dc7271074e347637918bfa3311b07f9b373d678ded5b9bcb416", func := "mailroom/mailroomlaw14.CertCut", spec := "certCut", inPlace := ["internal/bytealg.IndexByteString", "internal/bytealg.IndexString"], unfollowed := true, recurses := true, named := ["internal/bytealg.MaxLen"], apart := false }
def CertCutSaid : Prop := certCutRow.holds Try.pinned (OpenSpec.ofChange certCutSpec)

/-- ITS FALSE NEIGHBOUR: 'it returns false'. Refute it at one input. -/
def certCutWrong : ChangeSpec := { name := "certCut", fn := fun _ => fun
  | [d1, d2, d3] => { results := [.lit (.bool false)], args := [d1, d2, d3] }
  | _ => none }
def CertCutWrongFalsely : Prop := certCutRow.holds Try.pinned (OpenSpec.ofChange certCutWrong)

/-- 'mailroomlaw14.CertBack': WHATEVER THE INPUT: true; the input reads as it did. -/
def certBackSpec : ChangeSpec := { name := "certBack", fn := fun _ => fun
  | [d1, d2, d3] => { results := [.lit (.bool true)], args := [d1, d2, d3] }
  | _ => none }
def certBackRow : OpenClaim := { program := "ytpjopdemhkcifaa", sum := "986b3164b34f5dc7271074e347637918bfa3311b07f9b373d678ded5b9bcb416", func := "mailroom/mailroomlaw14.CertBack", spec := "certBack", inPlace := ["internal/bytealg.IndexByteString", "internal/bytealg.IndexString"], unfollowed := true, recurses := true, named := ["internal/bytealg.MaxLen"], apart := false }
def CertBackSaid : Prop := certBackRow.holds Try.pinned (OpenSpec.ofChange certBackSpec)

/-- ITS FALSE NEIGHBOUR: 'it returns false'. Refute it at one input. -/
def certBackWrong : ChangeSpec := { name := "certBack", fn := fun _ => fun
  | [d1, d2, d3] => { results := [.lit (.bool false)], args := [d1, d2, d3] }
  | _ => none }
def CertBackWrongFalsely : Prop := certBackRow.holds Try.pinned (OpenSpec.ofChange certBackWrong)

/- THE SECOND FORM. 'bulk': how many values and letters a reading holds, each counted each time it is reached (what is shared counts as often as it is met; a slice's spare places count too). A statement '..UptoSaid' is the law's where the arguments, and the package variables that the reading takes, are together of bulk at most 1048576: NARROWER than '..Said'. Prove '..Said' where nothing that the law and all that it calls make is longer than what came in: it says more and counts as full. Else prove '..UptoSaid'. A law counts once. -/
mutual
def uptoBulk {H : Type} : DataW H → Nat
  | .lit (.string bytes) => bytes.length + 1
  | .lit _ => 1
  | .nil => 1
  | .ptr d => uptoBulk d + 1
  | .slice elems spare => uptoBulkAll elems + uptoBulkAll spare + 1
  | .agg parts => uptoBulkAll parts + 1
  | .iface _ d => uptoBulk d + 1
  | .map entries => uptoBulkEntries entries + 1
  | .held _ => 1
def uptoBulkAll {H : Type} : List (DataW H) → Nat
  | [] => 0
  | d :: r => uptoBulk d + uptoBulkAll r
def uptoBulkEntries {H : Type} : List (Lit × DataW H) → Nat
  | [] => 0
  | x :: r => uptoBulkEntry x + uptoBulkEntries r
def uptoBulkEntry {H : Type} : Lit × DataW H → Nat
  | (.string bytes, d) => bytes.length + uptoBulk d + 1
  | (_, d) => uptoBulk d + 1
 end
def uptoSmall : (H : Type) → List (DataW H) → Bool := fun _ ds => decide (uptoBulkAll ds ≤ 1048576)
def OpenSpec.upto (s : _root_.Go.ChangeSpec) : _root_.Go.OpenSpec := { _root_.Go.OpenSpec.ofChange s with cond := some uptoSmall }

/-- 'mailroomlaw13.DerNumbers', WHERE WHAT IT READS IS OF BULK AT MOST 1048576: true; the input reads as it did. -/
def derNumbersUptoRow : OpenClaim := { program := "ytpjopdemhkcifaa", sum := "986b3164b34f5dc7271074e347637918bfa3311b07f9b373d678ded5b9bcb416", func := "mailroom/mailroomlaw13.DerNumbers", spec := "derNumbers", apart := false, narrowed := true }
def DerNumbersUptoSaid : Prop := derNumbersUptoRow.holds Try.pinned (OpenSpec.upto derNumbersSpec)

/-- 'mailroomlaw13.DerBack', WHERE WHAT IT READS IS OF BULK AT MOST 1048576: true; the input reads as it did. -/
def derBackUptoRow : OpenClaim := { program := "ytpjopdemhkcifaa", sum := "986b3164b34f5dc7271074e347637918bfa3311b07f9b373d678ded5b9bcb416", func := "mailroom/mailroomlaw13.DerBack", spec := "derBack", apart := false, narrowed := true }
def DerBackUptoSaid : Prop := derBackUptoRow.holds Try.pinned (OpenSpec.upto derBackSpec)

/-- 'mailroomlaw13.DerOne', WHERE WHAT IT READS IS OF BULK AT MOST 1048576: true; the input reads as it did. -/
def derOneUptoRow : OpenClaim := { program := "ytpjopdemhkcifaa", sum := "986b3164b34f5dc7271074e347637918bfa3311b07f9b373d678ded5b9bcb416", func := "mailroom/mailroomlaw13.DerOne", spec := "derOne", apart := false, narrowed := true }
def DerOneUptoSaid : Prop := derOneUptoRow.holds Try.pinned (OpenSpec.upto derOneSpec)

/-- 'mailroomlaw13.DerSigns', WHERE WHAT IT READS IS OF BULK AT MOST 1048576: true; the input reads as it did. -/
def derSignsUptoRow : OpenClaim := { program := "ytpjopdemhkcifaa", sum := "986b3164b34f5dc7271074e347637918bfa3311b07f9b373d678ded5b9bcb416", func := "mailroom/mailroomlaw13.DerSigns", spec := "derSigns", apart := false, narrowed := true }
def DerSignsUptoSaid : Prop := derSignsUptoRow.holds Try.pinned (OpenSpec.upto derSignsSpec)

/-- 'mailroomlaw13.DerNames', WHERE WHAT IT READS IS OF BULK AT MOST 1048576: true; the input reads as it did. -/
def derNamesUptoRow : OpenClaim := { program := "ytpjopdemhkcifaa", sum := "986b3164b34f5dc7271074e347637918bfa3311b07f9b373d678ded5b9bcb416", func := "mailroom/mailroomlaw13.DerNames", spec := "derNames", unfollowed := true, recurses := true, apart := false, narrowed := true }
def DerNamesUptoSaid : Prop := derNamesUptoRow.holds Try.pinned (OpenSpec.upto derNamesSpec)

/-- 'mailroomlaw13.DerRow', WHERE WHAT IT READS IS OF BULK AT MOST 1048576: true; the input reads as it did. -/
def derRowUptoRow : OpenClaim := { program := "ytpjopdemhkcifaa", sum := "986b3164b34f5dc7271074e347637918bfa3311b07f9b373d678ded5b9bcb416", func := "mailroom/mailroomlaw13.DerRow", spec := "derRow", unfollowed := true, recurses := true, apart := false, narrowed := true }
def DerRowUptoSaid : Prop := derRowUptoRow.holds Try.pinned (OpenSpec.upto derRowSpec)

/-- 'mailroomlaw14.CertCut', WHERE WHAT IT READS IS OF BULK AT MOST 1048576: true; the input reads as it did. -/
def certCutUptoRow : OpenClaim := { program := "ytpjopdemhkcifaa", sum := "986b3164b34f5dc7271074e347637918bfa3311b07f9b373d678ded5b9bcb416", func := "mailroom/mailroomlaw14.CertCut", spec := "certCut", inPlace := ["internal/bytealg.IndexByteString", "internal/bytealg.IndexString"], unfollowed := true, recurses := true, named := ["internal/bytealg.MaxLen"], apart := false, narrowed := true }
def CertCutUptoSaid : Prop := certCutUptoRow.holds Try.pinned (OpenSpec.upto certCutSpec)

/-- 'mailroomlaw14.CertBack', WHERE WHAT IT READS IS OF BULK AT MOST 1048576: true; the input reads as it did. -/
def certBackUptoRow : OpenClaim := { program := "ytpjopdemhkcifaa", sum := "986b3164b34f5dc7271074e347637918bfa3311b07f9b373d678ded5b9bcb416", func := "mailroom/mailroomlaw14.CertBack", spec := "certBack", inPlace := ["internal/bytealg.IndexByteString", "internal/bytealg.IndexString"], unfollowed := true, recurses := true, named := ["internal/bytealg.MaxLen"], apart := false, narrowed := true }
def CertBackUptoSaid : Prop := certBackUptoRow.holds Try.pinned (OpenSpec.upto certBackSpec)

end Rows
end Go.Proofs.Ytpjopdemhkcifaa
