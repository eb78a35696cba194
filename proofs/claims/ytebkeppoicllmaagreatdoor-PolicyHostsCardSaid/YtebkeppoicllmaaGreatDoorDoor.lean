/- The door of PolicyHosts: its walk leans on none of the package variables. -/
import Derived.Test.YtebkeppoicllmaaGreatDoorBase
import Derived.ProofKit
import Derived.LaidMore
import Derived.OpenShut
import Derived.Stop.Joined
namespace Go.Proofs.YtebkeppoicllmaaGreatDoor
open Go Go.Vm Go.RowKit
set_option linter.unusedVariables false
set_option linter.unusedSectionVars false
variable [Φ:Frz]
theorem laid_gok{W:World}(hΦ:∀k o,Φ.φ k=some o→W.heap[k]?=some o)(h:laidMetH Tryz.prog Rows.policyHostsRow.laid W):GOk W.heap.size W:=by
 refine⟨fun k cs hk=>?_,fun k hk=>?_,fun k o hk=>⟨(Array.getElem?_eq_some_iff.1 (hΦ k o hk)).1,hΦ k o hk⟩⟩
 ·cases hk
 ·cases hk
end Go.Proofs.YtebkeppoicllmaaGreatDoor
