/- The program of PolicyNames: what the machine is told of its package variables (nothing). -/
import Derived.Test.YtiklfghncfppkaaGreatDoorVmc
import Derived.Test.YtiklfghncfppkaaGreatDoorRows
import Derived.KernelRfl
namespace Go.Proofs.YtiklfghncfppkaaGreatDoor
open Go Go.Vm Go.RowKit
instance gl : Glob := ⟨8, fun _ => none, fun _ => (0, 0)⟩
theorem mixed : Tryz.prog.follows .mixedOrders = true := by kernel_rfl
end Go.Proofs.YtiklfghncfppkaaGreatDoor
