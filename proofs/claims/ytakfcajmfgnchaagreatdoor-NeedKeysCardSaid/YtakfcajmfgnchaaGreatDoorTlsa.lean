/- Records of keys: which are usable, whose they are: what it comes to. -/
import Derived.Test.YtakfcajmfgnchaaGreatDoorJudge
import Derived.Test.YtakfcajmfgnchaaGreatDoorVmc
namespace Go.Proofs.YtakfcajmfgnchaaGreatDoor
open Go Go.Vm Go.RowKit
set_option linter.unusedVariables false
set_option maxRecDepth 100000
set_option linter.unusedSectionVars false
variable [Φ : Frz]
theorem us_tree (u s m : Int) (d : List UInt8) (R : V → Prop) : runW Tryz.prog T3 9 10 24 [.agg [.int .u8 u, .int .u8 s, .int .u8 m, .str d]] R =
  (
 bif u != 2 then bif u != 3 then R (V.bool false) else bif decide (IntKind.i64.wrap s ≥ 2) then R (V.bool false) else bif decide (IntKind.i64.wrap m ≥ 2) then R (V.bool
 false) else bif !d == [] then bif decide ((↑d.length : Int) ≤ 512) then bif m == 0 then R (V.bool true) else R (V.bool ((↑d.length : Int) == 32)) else R (V.bool false)
 else R (V.bool false) else bif decide (IntKind.i64.wrap s ≥ 2) then R (V.bool false) else bif decide (IntKind.i64.wrap m ≥ 2) then R (V.bool false) else bif !d == [] then
 bif decide ((↑d.length : Int) ≤ 512) then bif m == 0 then R (V.bool true) else R (V.bool ((↑d.length : Int) == 32)) else R (V.bool false) else R (V.bool false)) := by kernel_rfl
def usB (u s m : Int) (d : List UInt8) : Bool := (u == 2 || u == 3) && (!decide (IntKind.i64.wrap s ≥ 2) && (!decide (IntKind.i64.wrap m ≥ 2) && (!(d == []) && (decide ((d.length : Int) ≤ 512) && (m == 0 || (d.length : Int) == 32)))))
def usP : List V → Option V
 | [.agg [.int .u8 u, .int .u8 s, .int .u8 m, .str d]] => some (.bool (usB u s m d))
 | _ => none
theorem us_ok (args : List V) (v : V) (h : usP args = some v) : FnSat Tryz.prog 24 args [] (Is (v, [])) := by
 unfold usP at h
 split at h
 ·rename_i u s m d
  cases h
  refine pureW_of (lim := 9) (n := 10) mixed T3_ok rfl rfl ?_
  rw [us_tree]
  unfold usB
  have e : ∀ n : Int, (u != n) = !(u == n) := fun n => rfl
  rw [e 2, e 3]
  cases u == 2 <;> cases u == 3 <;> cases decide (IntKind.i64.wrap s ≥ 2) <;> cases decide (IntKind.i64.wrap m ≥ 2) <;> cases d == [] <;> cases decide ((d.length : Int) ≤ 512) <;> cases m == 0 <;> rfl
 ·cases h
end Go.Proofs.YtakfcajmfgnchaaGreatDoor
