/- Getting one thing, of texts however long; what is cut within one. -/
import Derived.Test.YthcoeoibejgaiaaDoorDBack
namespace Go.Proofs.YthcoeoibejgaiaaDoor
open Go Go.Vm Go.RowKit
set_option linter.unusedSectionVars false
variable [Φ : Frz]
set_option linter.unusedVariables false
set_option maxRecDepth 100000
def getE2 : List UInt8 → Int
 | [] => 8
 | t :: r => if t.toNat % 32 = 31 then 4 else if sizeE r = 0 then (if IntKind.i64.wrap (((r.length + 1 : Nat) : Int) - ((1 + sizeU r : Nat) : Int)) < sizeN r then 8 else 0) else sizeE r
def getT2 (s : List UInt8) : Int := if getE2 s = 0 then ((s.getD 0 0).toNat : Int) else 0
def getX2 (s : List UInt8) : List UInt8 := if getE2 s = 0 then ((s.drop 1).drop (sizeU (s.drop 1))).take (sizeN (s.drop 1)) else []
def getR2 (s : List UInt8) : List UInt8 := if getE2 s = 0 then ((s.drop 1).drop (sizeU (s.drop 1))).drop (sizeN (s.drop 1)) else []
def getF2 : List V → Option V
 | [.str s] => some (.tuple [.agg [.int .u8 (getT2 s), .str (getX2 s)], .str (getR2 s), .int .i64 (getE2 s)])
 | _ => none
theorem get2_ok (args : List V) (v : V) (h : getF2 args = some v) : FnSat Tryd.prog 55 args [] (Is (v, [])) := by
 unfold getF2 at h
 split at h
 ·rename_i s
  cases h
  refine pureW_of (lim := 6) (n := 10) mixed DT1_ok rfl rfl ?_
  rw [get_tree]
  cases s with
  | nil => rfl
  | cons t r =>
   have ht := t.toNat_lt
   have hz := size_small r
   have e0 : List.take ((t :: r).length - 1) (List.drop 1 (t :: r)) = r := by simp
   have e1 : IntKind.i64.wrap (1 + (sizeU r : Int)) = ((1 + sizeU r : Nat) : Int) := by rw [IntWalk.i64_in _ ⟨by omega, by omega⟩]; omega
   have e2 : IntKind.i64.wrap (((1 + sizeU r : Nat) : Int) + (sizeN r : Int)) = ((1 + sizeU r + sizeN r : Nat) : Int) := by rw [IntWalk.i64_in _ ⟨by omega, by omega⟩]; omega
   rw [e0]
   simp only [e1, e2, List.getD_cons_zero, and31 _ ht, Int.toNat_natCast, blt_dec, ble_dec, Bool.true_and, List.length_cons]
   have hne : ((t :: r) == []) = false := rfl
   rw [hne, cond_false]
   have q1 : decide (0 < r.length + 1) = true := decide_eq_true (by omega)
   have q2 : (decide (1 ≤ r.length + 1) && decide (r.length + 1 ≤ r.length + 1)) = true := by simp
   rw [q1, cond_true, q2, cond_true]
   refine bif_intro (fun h => ?_) (fun h => bif_intro (fun h1 => ?_) (fun h1 => bif_intro (fun h2 => ?_) (fun h2 => ?_)))
   ·have : t.toNat % 32 = 31 := by simp at h; omega
    simp [getT2, getX2, getR2, getE2, this]
   ·have h0 : ¬ t.toNat % 32 = 31 := by simp at h; omega
    have h1 : ¬ sizeE r = 0 := by simpa using h1
    simp [getT2, getX2, getR2, getE2, h0, h1]
   ·have h0 : ¬ t.toNat % 32 = 31 := by simp at h; omega
    have h1 : sizeE r = 0 := by simpa using h1
    have h2 := of_decide_eq_true h2
    simp only [getT2, getX2, getR2, getE2, h0, h1, if_true, if_false]
    rw [if_pos h2]
    rfl
   ·have h0 : ¬ t.toNat % 32 = 31 := by simp at h; omega
    have h1 : sizeE r = 0 := by simpa using h1
    have h2 := of_decide_eq_false h2
    have h3 : sizeU r + sizeN r ≤ r.length := by
     rw [IntKind.wrap_i64] at h2
     omega
    refine must_intro rfl (must_intro (decide_eq_true (by omega)) (must_intro (decide_eq_true (by omega)) (must_intro ?_ (must_intro (decide_eq_true (by omega)) (must_intro ?_ ?_)))))
    ·simp; omega
    ·simp; omega
    ·have f1 : ∀ k, List.drop (1 + k) (t :: r) = List.drop k r := fun k => by rw [Nat.add_comm]; rfl
     have e : getE2 (t :: r) = 0 := by simp only [getE2, h0, h1, if_true, if_false]; rw [if_neg h2]
     simp only [getT2, getX2, getR2, e, if_true, List.getD_cons_zero, List.drop_succ_cons, List.drop_zero, Nat.add_assoc, f1, List.drop_drop]
     congr 5
     ·congr 2
      congr 1
      omega
     ·congr 2
      rw [List.take_of_length_le (by simp; omega)]
 ·cases h
end Go.Proofs.YthcoeoibejgaiaaDoor
