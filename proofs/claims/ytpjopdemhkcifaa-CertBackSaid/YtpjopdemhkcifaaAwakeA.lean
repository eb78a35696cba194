/- The examples of layer 13. -/
import Derived.Test.YtpjopdemhkcifaaFns
namespace Go.Proofs.Ytpjopdemhkcifaa
open Go Go.Vm Go.RowKit
set_option linter.unusedSectionVars false
variable [Φ : Frz]
theorem awake_run : isTrue (E Try.prog noTable 100000 30 (.fn 11) [] []) = true := by kernel_rfl
theorem closed_sat {P : Program} (hm : P.follows .mixedOrders = true) {g : FuncId} {lim n : Nat} (h : isTrue (E P noTable lim n (.fn g) [] []) = true) : FnSat P g [] [] (Is (.bool true, [])) := by
  obtain ⟨s, hE⟩ := isTrue_spec h
  exact FnSat.flatK rfl ((E_ok hm noTable_ok lim n (.fn g) [] [] _ hE).mono fun u s h => by cases h; rfl)
theorem awake_sat : FnSat Try.prog 11 [] [] (Is (.bool true, [])) := closed_sat mixed awake_run
def awF : List V → Option V
  | [] => some (.bool true)
  | _ => none
theorem awF_ok (args : List V) (v : V) (h : awF args = some v) : FnSat Try.prog 11 args [] (Is (v, [])) := by
  unfold awF at h
  split at h
  · cases h; exact awake_sat
  · cases h
end Go.Proofs.Ytpjopdemhkcifaa
