/- tlsa.Any, of whatever lists, as a table tells it. -/
import Derived.Test.YthcoeoibejgaiaaGreatDoorAnyF
namespace Go.Proofs.YthcoeoibejgaiaaGreatDoor
open Go Go.Vm Go.RowKit
set_option linter.unusedVariables false
set_option maxRecDepth 100000
set_option linter.unusedSectionVars false
variable [Φ : Frz]
def yOK (p q : V) (st : St) : Bool := match viewT st p, viewS st q with
 | some (b, l), some (c, r) => b && (c && (l.all inU && (Nat.ble l.length 9223372036854775807 && Nat.ble r.length 9223372036854775807)))
 | _, _ => false
def yV (p q : V) (h : List UInt8) (now : Int) (st : St) : Bool := match viewT st p, viewS st q with
 | some (_, l), some (_, r) => anyC (goodQ (l.take 4)) r h now
 | _, _ => false
def anyGV (OK : V → V → St → Bool) (AV : V → V → List UInt8 → Int → St → Bool) : List V → St → Option (List (Bool × (V × St)))
 | [p, q, .str h, .int .i64 now], st => some [(OK p q st, (.bool (AV p q h now st), st))]
 | _, _ => none
theorem anyGV_ok (args : List V) (s : St) (L : List (Bool × (V × St))) (o : V × St) (h : anyGV yOK yV args s = some L) (ho : pickO L = some o) : FnSat Tryz.prog 11 args s (Is o) := by
 unfold anyGV at h
 split at h
 ·rename_i p q hh now
  cases h
  obtain ⟨hb, rfl⟩ := pickO_one ho
  unfold yOK at hb
  split at hb
  ·rename_i b l c r hv hw
   have hL : yV p q hh now s = anyC (goodQ (l.take 4)) r hh now := by unfold yV; rw [hv, hw]
   rw [hL]
   refine anyG_ok [p, q, .str hh, .int .i64 now] s [(b && (c && (l.all inU && (Nat.ble l.length 9223372036854775807 && Nat.ble r.length 9223372036854775807))), (.bool (anyC (goodQ (l.take 4)) r hh now), s))] _ (by simp only [anyG, hv, hw]) ?_
   rw [hb]; rfl
  ·cases hb
 ·cases h
end Go.Proofs.YthcoeoibejgaiaaGreatDoor
