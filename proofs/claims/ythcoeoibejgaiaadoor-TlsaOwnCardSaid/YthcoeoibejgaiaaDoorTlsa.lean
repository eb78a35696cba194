/- Records of keys: which are usable, whose they are: what it comes to. -/
import Derived.Test.YthcoeoibejgaiaaDoorReadC
import Derived.Test.YthcoeoibejgaiaaDoorVmc
namespace Go.Proofs.YthcoeoibejgaiaaDoor
open Go Go.Vm Go.RowKit
set_option linter.unusedVariables false
set_option maxRecDepth 100000
set_option linter.unusedSectionVars false
variable [Φ : Frz]
theorem us_tree (u s m : Int) (d : List UInt8) (R : V → Prop) : runW Tryd.prog T3 9 10 14 [.agg [.int .u8 u, .int .u8 s, .int .u8 m, .str d]] R =
  (
 bif u != 2 then bif u != 3 then R (V.bool false) else bif decide (IntKind.i64.wrap s ≥ 2) then R (V.bool false) else bif decide (IntKind.i64.wrap m ≥ 2) then R (V.bool
 false) else bif !d == [] then bif decide ((↑d.length : Int) ≤ 512) then bif m == 0 then R (V.bool true) else R (V.bool ((↑d.length : Int) == 32)) else R (V.bool false)
 else R (V.bool false) else bif decide (IntKind.i64.wrap s ≥ 2) then R (V.bool false) else bif decide (IntKind.i64.wrap m ≥ 2) then R (V.bool false) else bif !d == [] then
 bif decide ((↑d.length : Int) ≤ 512) then bif m == 0 then R (V.bool true) else R (V.bool ((↑d.length : Int) == 32)) else R (V.bool false) else R (V.bool false)) := by kernel_rfl
noncomputable def TD5 : Tab := ⟨addP (addT (addT (addP noT 27 spkiP) 28 sumT) 19 decN) 13 digP, noL, noLks 9⟩
theorem TD5_ok : TabOk3 Tryd.prog TD5 := ⟨addP_ok (addT_ok (addT_ok (addP_ok noT_ok spki_ok) sum_ok) decN_ok) dig_ok, noL_ok, noLks_ok 9⟩
theorem data_tree (u s m : Int) (d c : List UInt8) (R : V → Prop) : runW Tryd.prog TD5 9 10 18 [.agg [.int .u8 u, .int .u8 s, .int .u8 m, .str d], .str c] R =
  (
 bif Nat.blt 512 c.length then R (V.tuple [V.str [], V.bool false]) else bif decE c != 0 then R (V.tuple [V.str [], V.bool false]) else bif decide (IntKind.i64.wrap s ≥ 2)
 then R (V.tuple [V.str [], V.bool false]) else bif decide (IntKind.i64.wrap m ≥ 2) then R (V.tuple [V.str [], V.bool false]) else bif decide (0 ≤ m) && decide (m < 2)
 then bif m == 0 then bif decide (0 ≤ s) && decide (s < 2) then bif s == 0 then R (V.tuple [V.str c, V.bool true]) else bif s == 1 then R (V.tuple [V.str (spkiB (dK c)),
 V.bool true]) else False else False else bif m == 1 then bif decide (0 ≤ s) && decide (s < 2) then bif s == 0 then bif okL c then R (V.tuple [V.str (sumF c), V.bool
 true]) else False else bif s == 1 then bif okL (spkiB (dK c)) then R (V.tuple [V.str (sumF (spkiB (dK c))), V.bool true]) else False else False else False else False else
 False) := by kernel_rfl
def usB (u s m : Int) (d : List UInt8) : Bool := (u == 2 || u == 3) && (!decide (IntKind.i64.wrap s ≥ 2) && (!decide (IntKind.i64.wrap m ≥ 2) && (!(d == []) && (decide ((d.length : Int) ≤ 512) && (m == 0 || (d.length : Int) == 32)))))
def usP : List V → Option V
 | [.agg [.int .u8 u, .int .u8 s, .int .u8 m, .str d]] => some (.bool (usB u s m d))
 | _ => none
theorem us_ok (args : List V) (v : V) (h : usP args = some v) : FnSat Tryd.prog 14 args [] (Is (v, [])) := by
 unfold usP at h
 split at h
 ·rename_i u s m d
  cases h
  refine pureW_of (lim := 9) (n := 10) mixed T3_ok rfl rfl ?_
  rw [us_tree]
  unfold usB
  have e : ∀ n : Int, (u != n) = !(u == n) := fun n => rfl
  rw [e 2, e 3]
  cases u == 2 <;> cases u == 3 <;> cases decide (IntKind.i64.wrap s ≥ 2) <;> cases decide (IntKind.i64.wrap m ≥ 2) <;> cases d == [] <;> cases decide ((d.length : Int) ≤ 512) <;> cases m == 0 <;> rfl
 ·cases h
def takeB (s : Int) (c : List UInt8) : List UInt8 := bif s == 0 then c else spkiB (dK c)
def dataB (s m : Int) (c : List UInt8) : List UInt8 := bif m == 0 then takeB s c else sumF (takeB s c)
def dataOk (s m : Int) (c : List UInt8) : Bool := (decE c == 0) && (!decide (IntKind.i64.wrap s ≥ 2) && !decide (IntKind.i64.wrap m ≥ 2))
def dataT : List V → Option (List (Bool × (V × St)))
 | [.agg [.int .u8 _, .int .u8 s, .int .u8 m, .str _], .str c] => some [(decide (0 ≤ s ∧ s ≤ 255 ∧ 0 ≤ m ∧ m ≤ 255), (.tuple [.str (bif dataOk s m c then dataB s m c else []), .bool (dataOk s m c)], []))]
 | _ => none
theorem spki_len (k : List UInt8) : (spkiB k).length ≤ 72 := by
 unfold spkiB
 split
 ·simp
 ·split
  ·simp
  ·have h1 := putB_le 4 k
   have h2 := putB_le 48 (putB 4 k)
   omega
theorem data_ok (args : List V) (l : List (Bool × (V × St))) (o : V × St) (h : dataT args = some l) (ho : pickO l = some o) : FnSat Tryd.prog 18 args [] (Is o) := by
 unfold dataT at h
 split at h
 ·rename_i u s m d c
  cases h
  obtain ⟨hk, rfl⟩ := pickO_one ho
  have hk := of_decide_eq_true hk
  refine pureW_of (lim := 9) (n := 10) mixed TD5_ok rfl rfl ?_
  rw [data_tree]
  have ws : IntKind.i64.wrap s = s := IntWalk.i64_in _ ⟨by omega, by omega⟩
  have wm : IntKind.i64.wrap m = m := IntWalk.i64_in _ ⟨by omega, by omega⟩
  have no : dataOk s m c = false → V.tuple [V.str [], V.bool false] = V.tuple [.str (bif dataOk s m c then dataB s m c else []), .bool (dataOk s m c)] := fun h => by rw [h]; rfl
  refine bif_intro (fun h1 => no (by unfold dataOk; rw [(by simpa using big_bad h1 : (decE c == 0) = false)]; rfl)) (fun h1 => ?_)
  refine bif_intro (fun h2 => no (by unfold dataOk; rw [(by simpa using h2 : (decE c == 0) = false)]; rfl)) (fun h2 => ?_)
  have h2 : (decE c == 0) = true := by simpa using h2
  refine bif_intro (fun h3 => no (by unfold dataOk; rw [h3]; simp)) (fun h3 => ?_)
  refine bif_intro (fun h4 => no (by unfold dataOk; rw [h4]; simp)) (fun h4 => ?_)
  have yes : dataOk s m c = true := by unfold dataOk; rw [h2, h3, h4]; rfl
  rw [ws] at h3
  rw [wm] at h4
  have h3 := of_decide_eq_false h3
  have h4 := of_decide_eq_false h4
  have kc : okL c = true := decide_eq_true (by
   have : ¬ 512 < c.length := fun hb => by have := Nat.ble_eq_true_of_le hb; exact absurd (show Nat.blt 512 c.length = true from this) (by rw [h1]; decide)
   omega)
  have kk : okL (spkiB (dK c)) = true := decide_eq_true (by have := spki_len (dK c); omega)
  rw [yes, kc, kk]
  refine must_intro (by rw [Bool.and_eq_true]; exact ⟨decide_eq_true (by omega), decide_eq_true (by omega)⟩) ?_
  have qs : (decide (0 ≤ s) && decide (s < 2)) = true := by rw [Bool.and_eq_true]; exact ⟨decide_eq_true (by omega), decide_eq_true (by omega)⟩
  rw [qs]
  unfold dataB takeB
  have s1 : (s == 0) = false → (s == 1) = true := fun h => beq_iff_eq.2 (by have : s ≠ 0 := (by simpa using h); omega)
  have m1 : (m == 0) = false → (m == 1) = true := fun h => beq_iff_eq.2 (by have : m ≠ 0 := (by simpa using h); omega)
  cases hm : m == 0 with
  | true =>
   cases hs : s == 0 with
   | true => rfl
   | false => rw [s1 hs]; rfl
  | false =>
   rw [m1 hm]
   cases hs : s == 0 with
   | true => rfl
   | false => rw [s1 hs]; rfl
 ·cases h
noncomputable def TD6 : Tab := ⟨addT (addP noT 14 usP) 18 dataT, noL, noLks 9⟩
theorem TD6_ok : TabOk3 Tryd.prog TD6 := ⟨addT_ok (addP_ok noT_ok us_ok) data_ok, noL_ok, noLks_ok 9⟩
theorem of_tree (u s m : Int) (d c : List UInt8) (R : V → Prop) : runW Tryd.prog TD6 9 10 7 [.agg [.int .u8 u, .int .u8 s, .int .u8 m, .str d], .str c] R =
  (
 bif decide (0 ≤ s ∧ s ≤ 255 ∧ 0 ≤ m ∧ m ≤ 255) then bif dataOk s m c then bif usB u s m d then R (V.bool ((bif dataOk s m c then dataB s m c else []) == d)) else R
 (V.bool false) else R (V.bool false) else False) := by kernel_rfl
def ofB (u s m : Int) (d c : List UInt8) : Bool := dataOk s m c && (usB u s m d && (dataB s m c == d))
def u8B (n : Int) : Bool := decide (0 ≤ n ∧ n ≤ 255)
def ofT : List V → Option (List (Bool × (V × St)))
 | [.agg [.int .u8 u, .int .u8 s, .int .u8 m, .str d], .str c] => some [(u8B s && u8B m, (.bool (ofB u s m d c), []))]
 | _ => none
theorem of_ok (args : List V) (l : List (Bool × (V × St))) (o : V × St) (h : ofT args = some l) (ho : pickO l = some o) : FnSat Tryd.prog 7 args [] (Is o) := by
 unfold ofT at h
 split at h
 ·rename_i u s m d c
  cases h
  obtain ⟨hk, rfl⟩ := pickO_one ho
  rw [Bool.and_eq_true] at hk
  have h1 := of_decide_eq_true hk.1
  have h2 := of_decide_eq_true hk.2
  refine pureW_of (lim := 9) (n := 10) mixed TD6_ok rfl rfl ?_
  rw [of_tree, decide_eq_true (show 0 ≤ s ∧ s ≤ 255 ∧ 0 ≤ m ∧ m ≤ 255 from ⟨h1.1, h1.2, h2.1, h2.2⟩), cond_true]
  unfold ofB
  cases dataOk s m c <;> cases usB u s m d <;> rfl
 ·cases h
end Go.Proofs.YthcoeoibejgaiaaDoor
