/- Whether certificates are linked: what it comes to. -/
import Derived.Test.YtakfcajmfgnchaaDoorHost
import Derived.Test.YtakfcajmfgnchaaDoorCert2
import Derived.Test.YtakfcajmfgnchaaDoorDig
namespace Go.Proofs.YtakfcajmfgnchaaDoor
open Go Go.Vm Go.RowKit
set_option linter.unusedVariables false
set_option maxRecDepth 100000
set_option linter.unusedSectionVars false
variable [Φ : Frz]
noncomputable def DG0 : Tab := ⟨addT (addP noT 11 spkiP) 33 sumT, noL, noLks 9⟩
theorem DG0_ok : TabOk3 Tryd.prog DG0 := ⟨addT_ok (addP_ok noT_ok spki_ok) sum_ok, noL_ok, noLks_ok 9⟩
theorem dig_tree (k : List UInt8) (R : V → Prop) : runW Tryd.prog DG0 9 10 12 [.str k] R =
  (
 bif spkiB k == [] then R (V.str []) else bif okL (spkiB k) then R (V.str (sumF (spkiB k))) else False) := by kernel_rfl
def digB (k : List UInt8) : List UInt8 := bif spkiB k == [] then [] else sumF (spkiB k)
def digP : List V → Option V
 | [.str k] => some (.str (digB k))
 | _ => none
theorem dig_ok (args : List V) (v : V) (h : digP args = some v) : FnSat Tryd.prog 12 args [] (Is (v, [])) := by
 unfold digP at h
 split at h
 ·rename_i k
  cases h
  refine pureW_of (lim := 9) (n := 10) mixed DG0_ok rfl rfl ?_
  rw [dig_tree]
  unfold digB
  refine bif_intro (fun h => ?_) (fun h => ?_)
  ·rw [h]; rfl
  ·rw [h]
   have hk : okL (spkiB k) = true := by
    refine decide_eq_true ?_
    unfold spkiB
    split
    ·simp
    ·split
     ·simp
     ·have h1 := putB_le 4 k
      have h2 := putB_le 48 (putB 4 k)
      omega
   rw [hk]; rfl
 ·cases h
structure LK where
 b : Bool
 x : Value
 n : Nat
 cs : List V
 i : Nat
structure IN where
 x : Value
 n : Nat
 cs : List V
 s : List UInt8
 i : Nat
end Go.Proofs.YtakfcajmfgnchaaDoor
