/- Names: whether a pattern matches one: what it comes to. -/
import Derived.Test.YthcoeoibejgaiaaDoorMay
namespace Go.Proofs.YthcoeoibejgaiaaDoor
open Go Go.Vm Go.RowKit
set_option linter.unusedVariables false
set_option maxRecDepth 100000
set_option linter.unusedSectionVars false
variable [Φ : Frz]
theorem cp_tree (s : List UInt8) (R : V → Prop) : runW Tryd.prog N0 9 20 22 [.str s, .str [42, 46]] R =
  (
 bif decide ((↑s.length : Int) ≥ 2) then bif true && Nat.ble 2 s.length then bif !List.take 2 (List.drop 0 s) == [42, 46] then R (V.tuple [V.str s, V.bool false]) else bif
 Nat.ble 2 s.length && s.length.ble s.length then R (V.tuple [V.str (List.take (s.length - 2) (List.drop 2 s)), V.bool true]) else False else False else R (V.tuple [V.str
 s, V.bool false])) := by kernel_rfl
def starP (s : List UInt8) : Bool := s.take 2 == [42, 46]
def cpP : List V → Option V
 | [.str s, .str [42, 46]] => some (.tuple [.str (bareP s), .bool (starP s)])
 | _ => none
theorem bare_star (s : List UInt8) : bareP s = bif starP s then s.drop 2 else s := by
 unfold bareP starP
 by_cases h : s.take 2 = [42, 46]
 ·rw [if_pos h, h]; rfl
 ·rw [if_neg h, (by simpa using h : (s.take 2 == [42, 46]) = false)]; rfl
theorem cp_ok (args : List V) (v : V) (h : cpP args = some v) : FnSat Tryd.prog 22 args [] (Is (v, [])) := by
 unfold cpP at h
 split at h
 ·rename_i s
  cases h
  refine pureW_of (lim := 9) (n := 20) mixed N0_ok rfl rfl ?_
  rw [cp_tree]
  have hb : bareP s = bif starP s then s.drop 2 else s := bare_star s
  refine bif_intro (fun h => ?_) (fun h => ?_)
  ·have h := of_decide_eq_true h
   refine must_intro (by rw [Bool.true_and]; exact Nat.ble_eq_true_of_le (by omega)) ?_
   rw [List.drop_zero]
   show bif !starP s then _ else _
   refine bif_intro (fun h2 => ?_) (fun h2 => ?_)
   ·rw [Bool.not_eq_true'] at h2
    rw [h2] at hb ⊢
    rw [hb]; rfl
   ·rw [Bool.not_eq_false'] at h2
    rw [h2] at hb ⊢
    refine must_intro (by rw [Bool.and_eq_true]; exact ⟨Nat.ble_eq_true_of_le (by omega), Nat.ble_eq_true_of_le (Nat.le_refl _)⟩) ?_
    rw [hb, List.take_of_length_le (by rw [List.length_drop]; omega)]; rfl
  ·have h := of_decide_eq_false h
   have h2 : starP s = false := by
    unfold starP
    cases hq : (s.take 2 == [42, 46]) with
    | false => rfl
    | true =>
     have := congrArg List.length (eq_of_beq hq)
     simp at this; omega
   rw [h2] at hb ⊢
   rw [hb]; rfl
 ·cases h
noncomputable def MP : Tab := ⟨addP (addT noT 62 cutP) 41 mayP, noL, noLks 9⟩
theorem MP_ok : TabOk3 Tryd.prog MP := ⟨addP_ok (addT_ok noT_ok cut_ok) may_ok, noL_ok, noLks_ok 9⟩
theorem par_tree (s : List UInt8) (R : V → Prop) : runW Tryd.prog MP 9 20 42 [.str s] R =
  (
 bif okLen s then bif !cutM s then R (V.tuple [V.str [], V.bool false]) else bif !mayN s then R (V.tuple [V.str [], V.bool false]) else R (V.tuple [V.str (cutR s), V.bool
 true]) else False) := by kernel_rfl
def parB (s : List UInt8) : Bool := cutM s && mayN s
def parP : List V → Option (List (Bool × (V × St)))
 | [.str s] => some [(okLen s, (.tuple [.str (bif parB s then cutR s else []), .bool (parB s)], []))]
 | _ => none
theorem par_ok (args : List V) (l : List (Bool × (V × St))) (o : V × St) (h : parP args = some l) (ho : pickO l = some o) : FnSat Tryd.prog 42 args [] (Is o) := by
 unfold parP at h
 split at h
 ·rename_i s
  cases h
  obtain ⟨hk, rfl⟩ := pickO_one ho
  refine pureW_of (lim := 9) (n := 20) mixed MP_ok rfl rfl ?_
  rw [par_tree, hk, cond_true]
  unfold parB
  cases cutM s <;> cases mayN s <;> rfl
 ·cases h
noncomputable def MQ : Tab := ⟨addP (addP (addT (addP noT 40 patP) 42 parP) 41 mayP) 22 cpP, noL, noLks 9⟩
theorem MQ_ok : TabOk3 Tryd.prog MQ := ⟨addP_ok (addP_ok (addT_ok (addP_ok noT_ok pat_ok) par_ok) may_ok) cp_ok, noL_ok, noLks_ok 9⟩
theorem match_tree (p s : List UInt8) (R : V → Prop) : runW Tryd.prog MQ 9 20 23 [.str p, .str s] R =
  (
 bif !patN p then R (V.bool false) else bif !mayN s then R (V.bool false) else bif starP p then bif okLen s then bif parB s then R (V.bool ((bif parB s then cutR s else
 []) == bareP p)) else R (V.bool false) else False else R (V.bool (p == s))) := by kernel_rfl
def matchN (p s : List UInt8) : Bool := patN p && (mayN s && (bif starP p then parB s && (cutR s == bareP p) else p == s))
def matchP : List V → Option V
 | [.str p, .str s] => some (.bool (matchN p s))
 | _ => none
theorem may_len {s : List UInt8} (h : mayN s = true) : s.length ≤ 253 := by
 unfold mayN at h
 rw [Bool.and_eq_true] at h
 exact of_decide_eq_true h.1
theorem match_ok (args : List V) (v : V) (h : matchP args = some v) : FnSat Tryd.prog 23 args [] (Is (v, [])) := by
 unfold matchP at h
 split at h
 ·rename_i p s
  cases h
  refine pureW_of (lim := 9) (n := 20) mixed MQ_ok rfl rfl ?_
  rw [match_tree]
  unfold matchN
  cases h1 : patN p with
  | false => rfl
  | true =>
  cases h2 : mayN s with
  | false => rfl
  | true =>
  cases h3 : starP p with
  | false => rfl
  | true =>
  have hk : okLen s = true := decide_eq_true (by have := may_len h2; omega)
  rw [hk]
  cases parB s <;> rfl
 ·cases h
end Go.Proofs.YthcoeoibejgaiaaDoor
