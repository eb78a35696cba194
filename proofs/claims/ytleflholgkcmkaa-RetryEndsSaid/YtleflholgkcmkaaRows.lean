/-
  No cell of these rows narrows 'for every input' (looked for: loops, veiled, ifaces, maps, wideKeys, modest, calm, conditions, laid).
  DERIVED. THE GIVEN ROWS OF THIS SEAT. 5 by the template 'for every input the law returns true; each argument reads behind the call as it read before'; 0 by the template 'total and deterministic' (their statements: YtleflholgkcmkaaTotals.lean).
  GIVEN WITH THE SEED: the statements are not yours to turn. If you find one false, say at which input.
  Laid BY PROGRAM, IN A SANDBOX (cutbox-rows.mjs): the forced cells as the released guide's own fill.sh prints them over the translation 0a1c86b7a0ddfb76… (all of the seat's roots in one cut). By AI agents, Wed Nov 11 2026. No macro, syntax, notation, axiom, sorry.
-/
import Derived.Test.YtleflholgkcmkaaChecked
import GoSem.Claim
import GoSem.ClaimJoined
import GoSem.ClaimMapViews
import Derived.JoinedTies
import Derived.KernelRfl
namespace Go.Proofs.Ytleflholgkcmkaa
/- THE CELL 'sum', in the pinned program and in every row, IS THE sha256 OF THE DUMP (.gsa) THAT YtleflholgkcmkaaProg.lean LOADS. Nothing in Lean hashes anything: it is a label: what it is worth is what the hold of that sum in a sandbox is worth. -/
noncomputable def Try.pinned : Pinned := { name := "ytleflholgkcmkaa", sum := "0a1c86b7a0ddfb762dc805b18f0ca03869a536d12d676be64ab18920d6ab81a0", checked := Try.checked }
namespace Rows
def none {H : Type} : Left H := { results := [], args := [] }

/-- 'mailroomlaw21.RetryLonger': WHATEVER THE INPUT: true; the input reads as it did. -/
def retryLongerSpec : ChangeSpec := { name := "retryLonger", fn := fun _ => fun
  | [d1, d2, d3, d4] => { results := [.lit (.bool true)], args := [d1, d2, d3, d4] }
  | _ => none }
def retryLongerRow : OpenClaim := { program := "ytleflholgkcmkaa", sum := "0a1c86b7a0ddfb762dc805b18f0ca03869a536d12d676be64ab18920d6ab81a0", func := "mailroom/mailroomlaw21.RetryLonger", spec := "retryLonger", unfollowed := true, recurses := true, apart := false }
def RetryLongerSaid : Prop := retryLongerRow.holds Try.pinned (OpenSpec.ofChange retryLongerSpec)

/-- ITS FALSE NEIGHBOUR: 'it returns false'. Refute it at one input. -/
def retryLongerWrong : ChangeSpec := { name := "retryLonger", fn := fun _ => fun
  | [d1, d2, d3, d4] => { results := [.lit (.bool false)], args := [d1, d2, d3, d4] }
  | _ => none }
def RetryLongerWrongFalsely : Prop := retryLongerRow.holds Try.pinned (OpenSpec.ofChange retryLongerWrong)

/-- 'mailroomlaw21.RetryNames': WHATEVER THE INPUT: true; the input reads as it did. -/
def retryNamesSpec : ChangeSpec := { name := "retryNames", fn := fun _ => fun
  | [] => { results := [.lit (.bool true)], args := [] }
  | _ => none }
def retryNamesRow : OpenClaim := { program := "ytleflholgkcmkaa", sum := "0a1c86b7a0ddfb762dc805b18f0ca03869a536d12d676be64ab18920d6ab81a0", func := "mailroom/mailroomlaw21.RetryNames", spec := "retryNames", unfollowed := true, recurses := true, apart := false }
def RetryNamesSaid : Prop := retryNamesRow.holds Try.pinned (OpenSpec.ofChange retryNamesSpec)

/-- ITS FALSE NEIGHBOUR: 'it returns false'. Refute it at one input. -/
def retryNamesWrong : ChangeSpec := { name := "retryNames", fn := fun _ => fun
  | [] => { results := [.lit (.bool false)], args := [] }
  | _ => none }
def RetryNamesWrongFalsely : Prop := retryNamesRow.holds Try.pinned (OpenSpec.ofChange retryNamesWrong)

/-- 'mailroomlaw21.RetryTells': WHATEVER THE INPUT: true; the input reads as it did. -/
def retryTellsSpec : ChangeSpec := { name := "retryTells", fn := fun _ => fun
  | [d1, d2, d3, d4, d5, d6, d7] => { results := [.lit (.bool true)], args := [d1, d2, d3, d4, d5, d6, d7] }
  | _ => none }
def retryTellsRow : OpenClaim := { program := "ytleflholgkcmkaa", sum := "0a1c86b7a0ddfb762dc805b18f0ca03869a536d12d676be64ab18920d6ab81a0", func := "mailroom/mailroomlaw21.RetryTells", spec := "retryTells", unfollowed := true, recurses := true, apart := false }
def RetryTellsSaid : Prop := retryTellsRow.holds Try.pinned (OpenSpec.ofChange retryTellsSpec)

/-- ITS FALSE NEIGHBOUR: 'it returns false'. Refute it at one input. -/
def retryTellsWrong : ChangeSpec := { name := "retryTells", fn := fun _ => fun
  | [d1, d2, d3, d4, d5, d6, d7] => { results := [.lit (.bool false)], args := [d1, d2, d3, d4, d5, d6, d7] }
  | _ => none }
def RetryTellsWrongFalsely : Prop := retryTellsRow.holds Try.pinned (OpenSpec.ofChange retryTellsWrong)

/-- 'mailroomlaw21.RetryAhead': WHATEVER THE INPUT: true; the input reads as it did. -/
def retryAheadSpec : ChangeSpec := { name := "retryAhead", fn := fun _ => fun
  | [d1, d2, d3, d4, d5, d6, d7] => { results := [.lit (.bool true)], args := [d1, d2, d3, d4, d5, d6, d7] }
  | _ => none }
def retryAheadRow : OpenClaim := { program := "ytleflholgkcmkaa", sum := "0a1c86b7a0ddfb762dc805b18f0ca03869a536d12d676be64ab18920d6ab81a0", func := "mailroom/mailroomlaw21.RetryAhead", spec := "retryAhead", unfollowed := true, recurses := true, apart := false }
def RetryAheadSaid : Prop := retryAheadRow.holds Try.pinned (OpenSpec.ofChange retryAheadSpec)

/-- ITS FALSE NEIGHBOUR: 'it returns false'. Refute it at one input. -/
def retryAheadWrong : ChangeSpec := { name := "retryAhead", fn := fun _ => fun
  | [d1, d2, d3, d4, d5, d6, d7] => { results := [.lit (.bool false)], args := [d1, d2, d3, d4, d5, d6, d7] }
  | _ => none }
def RetryAheadWrongFalsely : Prop := retryAheadRow.holds Try.pinned (OpenSpec.ofChange retryAheadWrong)

/-- 'mailroomlaw21.RetryEnds': WHATEVER THE INPUT: true; the input reads as it did. -/
def retryEndsSpec : ChangeSpec := { name := "retryEnds", fn := fun _ => fun
  | [d1, d2, d3, d4, d5, d6] => { results := [.lit (.bool true)], args := [d1, d2, d3, d4, d5, d6] }
  | _ => none }
def retryEndsRow : OpenClaim := { program := "ytleflholgkcmkaa", sum := "0a1c86b7a0ddfb762dc805b18f0ca03869a536d12d676be64ab18920d6ab81a0", func := "mailroom/mailroomlaw21.RetryEnds", spec := "retryEnds", unfollowed := true, recurses := true, apart := false }
def RetryEndsSaid : Prop := retryEndsRow.holds Try.pinned (OpenSpec.ofChange retryEndsSpec)

/-- ITS FALSE NEIGHBOUR: 'it returns false'. Refute it at one input. -/
def retryEndsWrong : ChangeSpec := { name := "retryEnds", fn := fun _ => fun
  | [d1, d2, d3, d4, d5, d6] => { results := [.lit (.bool false)], args := [d1, d2, d3, d4, d5, d6] }
  | _ => none }
def RetryEndsWrongFalsely : Prop := retryEndsRow.holds Try.pinned (OpenSpec.ofChange retryEndsWrong)

/- THE SECOND FORM. 'bulk': how many values and letters a reading holds, each counted each time it is reached (what is shared counts as often as it is met; a slice's spare places count too). A statement '..UptoSaid' is the law's where the arguments, and the package variables that the reading takes, are together of bulk at most 1048576: NARROWER than '..Said'. Prove '..Said' where nothing that the law and all that it calls make is longer than what came in: it says more and counts as full. Else prove '..UptoSaid'. A law counts once. -/
mutual
def uptoBulk {H : Type} : DataW H → Nat
  | .lit (.string bytes) => bytes.length + 1
  | .lit _ => 1
  | .nil => 1
  | .ptr d => uptoBulk d + 1
  | .slice elems spare => uptoBulkAll elems + uptoBulkAll spare + 1
  | .agg parts => uptoBulkAll parts + 1
  | .iface _ d => uptoBulk d + 1
  | .map entries => uptoBulkEntries entries + 1
  | .held _ => 1
def uptoBulkAll {H : Type} : List (DataW H) → Nat
  | [] => 0
  | d :: r => uptoBulk d + uptoBulkAll r
def uptoBulkEntries {H : Type} : List (Lit × DataW H) → Nat
  | [] => 0
  | x :: r => uptoBulkEntry x + uptoBulkEntries r
def uptoBulkEntry {H : Type} : Lit × DataW H → Nat
  | (.string bytes, d) => bytes.length + uptoBulk d + 1
  | (_, d) => uptoBulk d + 1
 end
def uptoSmall : (H : Type) → List (DataW H) → Bool := fun _ ds => decide (uptoBulkAll ds ≤ 1048576)
def OpenSpec.upto (s : _root_.Go.ChangeSpec) : _root_.Go.OpenSpec := { _root_.Go.OpenSpec.ofChange s with cond := some uptoSmall }

/-- 'mailroomlaw21.RetryLonger', WHERE WHAT IT READS IS OF BULK AT MOST 1048576: true; the input reads as it did. -/
def retryLongerUptoRow : OpenClaim := { program := "ytleflholgkcmkaa", sum := "0a1c86b7a0ddfb762dc805b18f0ca03869a536d12d676be64ab18920d6ab81a0", func := "mailroom/mailroomlaw21.RetryLonger", spec := "retryLonger", unfollowed := true, recurses := true, apart := false, narrowed := true }
def RetryLongerUptoSaid : Prop := retryLongerUptoRow.holds Try.pinned (OpenSpec.upto retryLongerSpec)

/-- 'mailroomlaw21.RetryNames', WHERE WHAT IT READS IS OF BULK AT MOST 1048576: true; the input reads as it did. -/
def retryNamesUptoRow : OpenClaim := { program := "ytleflholgkcmkaa", sum := "0a1c86b7a0ddfb762dc805b18f0ca03869a536d12d676be64ab18920d6ab81a0", func := "mailroom/mailroomlaw21.RetryNames", spec := "retryNames", unfollowed := true, recurses := true, apart := false, narrowed := true }
def RetryNamesUptoSaid : Prop := retryNamesUptoRow.holds Try.pinned (OpenSpec.upto retryNamesSpec)

/-- 'mailroomlaw21.RetryTells', WHERE WHAT IT READS IS OF BULK AT MOST 1048576: true; the input reads as it did. -/
def retryTellsUptoRow : OpenClaim := { program := "ytleflholgkcmkaa", sum := "0a1c86b7a0ddfb762dc805b18f0ca03869a536d12d676be64ab18920d6ab81a0", func := "mailroom/mailroomlaw21.RetryTells", spec := "retryTells", unfollowed := true, recurses := true, apart := false, narrowed := true }
def RetryTellsUptoSaid : Prop := retryTellsUptoRow.holds Try.pinned (OpenSpec.upto retryTellsSpec)

/-- 'mailroomlaw21.RetryAhead', WHERE WHAT IT READS IS OF BULK AT MOST 1048576: true; the input reads as it did. -/
def retryAheadUptoRow : OpenClaim := { program := "ytleflholgkcmkaa", sum := "0a1c86b7a0ddfb762dc805b18f0ca03869a536d12d676be64ab18920d6ab81a0", func := "mailroom/mailroomlaw21.RetryAhead", spec := "retryAhead", unfollowed := true, recurses := true, apart := false, narrowed := true }
def RetryAheadUptoSaid : Prop := retryAheadUptoRow.holds Try.pinned (OpenSpec.upto retryAheadSpec)

/-- 'mailroomlaw21.RetryEnds', WHERE WHAT IT READS IS OF BULK AT MOST 1048576: true; the input reads as it did. -/
def retryEndsUptoRow : OpenClaim := { program := "ytleflholgkcmkaa", sum := "0a1c86b7a0ddfb762dc805b18f0ca03869a536d12d676be64ab18920d6ab81a0", func := "mailroom/mailroomlaw21.RetryEnds", spec := "retryEnds", unfollowed := true, recurses := true, apart := false, narrowed := true }
def RetryEndsUptoSaid : Prop := retryEndsUptoRow.holds Try.pinned (OpenSpec.upto retryEndsSpec)

end Rows
end Go.Proofs.Ytleflholgkcmkaa
