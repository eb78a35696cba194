/- Getting one thing, of texts however long; what is cut within one. -/
import Derived.Test.YtakfcajmfgnchaaGreatDoorDBack
namespace Go.Proofs.YtakfcajmfgnchaaGreatDoor
open Go Go.Vm Go.RowKit
set_option linter.unusedSectionVars false
variable [Φ : Frz]
set_option linter.unusedVariables false
set_option maxRecDepth 100000
def bG : List UInt8 → Int
 | [] => 8
 | t :: r => if t.toNat % 32 = 31 then 4 else if sizeE r = 0 then (if IntKind.i64.wrap (((r.length + 1 : Nat) : Int) - ((1 + bN r : Nat) : Int)) < b7 r then 8 else 0) else sizeE r
def aW (s : List UInt8) : Int := if bG s = 0 then ((s.getD 0 0).toNat : Int) else 0
def ae (s : List UInt8) : List UInt8 := if bG s = 0 then ((s.drop 1).drop (bN (s.drop 1))).take (b7 (s.drop 1)) else []
def dt (s : List UInt8) : List UInt8 := if bG s = 0 then ((s.drop 1).drop (bN (s.drop 1))).drop (b7 (s.drop 1)) else []
def getF2 : List V → Option V
 | [.str s] => some (.tuple [.agg [.int .u8 (aW s), .str (ae s)], .str (dt s), .int .i64 (bG s)])
 | _ => none
theorem get2_ok (args : List V) (v : V) (h : getF2 args = some v) : FnSat Tryz.prog 104 args [] (Is (v, [])) := by
 unfold getF2 at h
 split at h
 ·rename_i s
  cases h
  refine az (lim := 6) (n := 10) ay DT1_ok rfl rfl ?_
  rw [get_tree]
  cases s with
  | nil => rfl
  | cons t r =>
   have ht := t.toNat_lt
   have hz := size_small r
   have e0 : List.take ((t :: r).length - 1) (List.drop 1 (t :: r)) = r := by simp
   have e1 : IntKind.i64.wrap (1 + (bN r : Int)) = ((1 + bN r : Nat) : Int) := by rw [IntWalk.i64_in _ ⟨by omega, by omega⟩]; omega
   have e2 : IntKind.i64.wrap (((1 + bN r : Nat) : Int) + (b7 r : Int)) = ((1 + bN r + b7 r : Nat) : Int) := by rw [IntWalk.i64_in _ ⟨by omega, by omega⟩]; omega
   rw [e0]
   simp only [e1, e2, List.getD_cons_zero, and31 _ ht, Int.toNat_natCast, blt_dec, ble_dec, Bool.true_and, List.length_cons]
   have hne : ((t :: r) == []) = false := rfl
   rw [hne, cond_false]
   have q1 : decide (0 < r.length + 1) = true := decide_eq_true (by omega)
   have q2 : (decide (1 ≤ r.length + 1) && decide (r.length + 1 ≤ r.length + 1)) = true := by simp
   rw [q1, cond_true, q2, cond_true]
   refine ac (fun h => ?_) (fun h => ac (fun h1 => ?_) (fun h1 => ac (fun h2 => ?_) (fun h2 => ?_)))
   ·have : t.toNat % 32 = 31 := by simp at h; omega
    simp [aW, ae, dt, bG, this]
   ·have h0 : ¬ t.toNat % 32 = 31 := by simp at h; omega
    have h1 : ¬ sizeE r = 0 := by simpa using h1
    simp [aW, ae, dt, bG, h0, h1]
   ·have h0 : ¬ t.toNat % 32 = 31 := by simp at h; omega
    have h1 : sizeE r = 0 := by simpa using h1
    have h2 := of_decide_eq_true h2
    simp only [aW, ae, dt, bG, h0, h1, if_true, if_false]
    rw [if_pos h2]
    rfl
   ·have h0 : ¬ t.toNat % 32 = 31 := by simp at h; omega
    have h1 : sizeE r = 0 := by simpa using h1
    have h2 := of_decide_eq_false h2
    have h3 : bN r + b7 r ≤ r.length := by
     rw [IntKind.wrap_i64] at h2
     omega
    refine ad rfl (ad (decide_eq_true (by omega)) (ad (decide_eq_true (by omega)) (ad ?_ (ad (decide_eq_true (by omega)) (ad ?_ ?_)))))
    ·simp; omega
    ·simp; omega
    ·have f1 : ∀ k, List.drop (1 + k) (t :: r) = List.drop k r := fun k => by rw [Nat.add_comm]; rfl
     have e : bG (t :: r) = 0 := by simp only [bG, h0, h1, if_true, if_false]; rw [if_neg h2]
     simp only [aW, ae, dt, e, if_true, List.getD_cons_zero, List.drop_succ_cons, List.drop_zero, Nat.add_assoc, f1, List.drop_drop]
     congr 5
     ·congr 2
      congr 1
      omega
     ·congr 2
      rw [List.take_of_length_le (by simp; omega)]
 ·cases h
end Go.Proofs.YtakfcajmfgnchaaGreatDoor
