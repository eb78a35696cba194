/- RetryNames is reckoned by the kernel. -/
import Derived.Test.YtleflholgkcmkaaVm
import Derived.Test.YtleflholgkcmkaaProg
import Derived.KernelRfl
namespace Go.Proofs.Ytleflholgkcmkaa
open Go.Vm Go.RowKit
theorem mixed : Try.prog.follows .mixedOrders = true := by kernel_rfl
theorem retryNames_run : isTrue (E Try.prog noTable 100000 30 (.fn 4) [] []) = true := by kernel_rfl
theorem retryNames_walk (w : World) : Calls Try.prog 4 #[] w (fun e w' => e = .returned (.bool true) ∧ Below w.heap.size w w') := law_of_run mixed retryNames_run w
end Go.Proofs.Ytleflholgkcmkaa
