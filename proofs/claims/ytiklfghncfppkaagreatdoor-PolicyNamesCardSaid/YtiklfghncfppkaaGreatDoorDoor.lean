/- The door of PolicyNames: its walk leans on none of the package variables. -/
import Derived.Test.YtiklfghncfppkaaGreatDoorBase
import Derived.ProofKit
import Derived.LaidMore
import Derived.OpenShut
import Derived.Stop.Joined
namespace Go.Proofs.YtiklfghncfppkaaGreatDoor
open Go Go.Vm Go.RowKit
theorem own : ownKnob Tryz.prog.godebug = none := by kernel_rfl
theorem laid_gok {l : List (String × DataW Unit)} {W : World} (_ : laidMetH Tryz.prog l W) : GOk W.heap.size W := GOk.none W (fun _ => rfl)
end Go.Proofs.YtiklfghncfppkaaGreatDoor
