/- tlsa.Matches, of whatever chain, as a table tells it. -/
import Derived.Test.YthcoeoibejgaiaaDoorMatches
namespace Go.Proofs.YthcoeoibejgaiaaDoor
open Go Go.Vm Go.RowKit
set_option linter.unusedVariables false
set_option maxRecDepth 100000
set_option linter.unusedSectionVars false
variable [Φ : Frz]
def mvOK (p : V) (st : St) : Bool := match viewS st p with
 | some (b, l) => b && Nat.ble l.length 9223372036854775807
 | none => false
def mvV (u s m : Int) (d : List UInt8) (p : V) (h : List UInt8) (now : Int) (st : St) : Bool := match viewS st p with
 | some (_, l) => matB u s m d l h now
 | none => false
def matGV (OK : V → St → Bool) (MV : Int → Int → Int → List UInt8 → V → List UInt8 → Int → St → Bool) : List V → St → Option (List (Bool × (V × St)))
 | [.agg [.int .u8 u, .int .u8 s, .int .u8 m, .str d], p, .str h, .int .i64 now], st => some [(OK p st && (u8B s && u8B m), (.bool (MV u s m d p h now st), st))]
 | _, _ => none
theorem matGV_ok (args : List V) (s : St) (L : List (Bool × (V × St))) (o : V × St) (h : matGV mvOK mvV args s = some L) (ho : pickO L = some o) : FnSat Tryd.prog 6 args s (Is o) := by
 unfold matGV at h
 split at h
 ·rename_i u s1 m1 d p hh now
  cases h
  obtain ⟨hk, rfl⟩ := pickO_one ho
  rw [Bool.and_eq_true] at hk
  obtain ⟨hb, hu⟩ := hk
  unfold mvOK at hb
  split at hb
  ·rename_i b l hv
   rw [Bool.and_eq_true] at hb
   obtain ⟨rfl, h1⟩ := hb
   have hL : mvV u s1 m1 d p hh now s = matB u s1 m1 d l hh now := by unfold mvV; rw [hv]
   rw [hL]
   refine frz_sat rfl fun B W0 w m rargs hr ha => ?_
   obtain ⟨a, r1, q1, q2, rfl⟩ := realL_cons ha
   obtain ⟨a2, r2, q3, q4, rfl⟩ := realL_cons q2
   have e2 := viewS_ok hr hv q3
   have h1 := Nat.le_of_ble_eq_true h1
   have q5 : @real _ (Frz.of w) [] (.agg [.int .u8 u, .int .u8 s1, .int .u8 m1, .str d]) = some a := q1
   have := @mat_ok (Frz.of w) [.agg [.int .u8 u, .int .u8 s1, .int .u8 m1, .str d], lstS a2 l, .str hh, .int .i64 now] _ (.bool (matB u s1 m1 d l hh now), []) (by unfold lstS matT; rfl) (by
    rw [okS_mk h1, strs_strOf, hu]; rfl)
   exact ⟨[.agg [.int .u8 u, .int .u8 s1, .int .u8 m1, .str d], lstS a2 l, .str hh, .int .i64 now], @realL_mk _ (Frz.of w) [] _ _ _ _ q5 (@realL_mk _ (Frz.of w) [] _ _ _ _ e2 q4), this⟩
  ·cases hb
 ·cases h
end Go.Proofs.YthcoeoibejgaiaaDoor
