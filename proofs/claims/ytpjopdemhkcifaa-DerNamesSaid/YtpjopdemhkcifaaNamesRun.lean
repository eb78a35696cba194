/- DerNames: that it is true. -/
import Derived.Test.YtpjopdemhkcifaaNames
namespace Go.Proofs.Ytpjopdemhkcifaa
open Go Go.Vm Go.RowKit
set_option linter.unusedVariables false
theorem names_facts (n : Int) (h0 : 0 ≤ n) (h1 : n ≤ 65535) :
    ((putB 48 (manyB 7 n)).length + 1).ble 9223372036854775807 = true ∧ putE 48 (manyB 7 n) = 0 ∧ getE2 (putB 48 (manyB 7 n) ++ [122]) = 0 ∧ getT2 (putB 48 (manyB 7 n) ++ [122]) = 48 ∧
    getX2 (putB 48 (manyB 7 n) ++ [122]) = manyB 7 n ∧ getR2 (putB 48 (manyB 7 n) ++ [122]) = [122] ∧
    decide (0 ≤ IntKind.i64.wrap (((putB 48 (manyB 7 n)).length : Int) - 1)) = true ∧
    (true && (IntKind.i64.wrap (((putB 48 (manyB 7 n)).length : Int) - 1)).toNat.ble (putB 48 (manyB 7 n)).length) = true ∧
    getE2 (List.take ((IntKind.i64.wrap (((putB 48 (manyB 7 n)).length : Int) - 1)).toNat - 0) (List.drop 0 (putB 48 (manyB 7 n)))) = 8 := by
  have hl := manyB_len 7 n
  have hE : putE 48 (manyB 7 n) = 0 := by unfold putE; rw [if_neg (by omega), if_neg (by omega)]
  have hlen := putB_len 48 (manyB 7 n)
  obtain ⟨a1, a2, a3, a4⟩ := put_get (t := 48) (x := manyB 7 n) (s := [122]) rfl hE
  have ha : (putB 48 (manyB 7 n) ++ [122]).length ≤ 1099511627776 := by simp; omega
  obtain ⟨b1, b2, b3, b4⟩ := get2_eq ha
  have hpos : 1 ≤ (putB 48 (manyB 7 n)).length := by
    cases hp : putB 48 (manyB 7 n) with
    | nil => exact absurd hE (put_none.2 hp)
    | cons => simp
  have hw : IntKind.i64.wrap (((putB 48 (manyB 7 n)).length : Int) - 1) = (((putB 48 (manyB 7 n)).length - 1 : Nat) : Int) := by
    rw [IntWalk.i64_in _ ⟨by omega, by omega⟩]; omega
  have hc := put_cut (t := 48) (x := manyB 7 n) rfl hE ((putB 48 (manyB 7 n)).length - 1) (by omega)
  rw [hw, Int.toNat_natCast, Nat.sub_zero, List.drop_zero]
  refine ⟨Nat.ble_eq_true_of_le (by omega), hE, b1.trans a1, b2.trans a2, b3.trans a3, b4.trans a4, decide_eq_true (by omega), ?_, ?_⟩
  · rw [Bool.true_and]
    exact Nat.ble_eq_true_of_le (by omega)
  · rw [getE2_eq (by simp; omega)]; exact hc
theorem names_run : FnSat Try.prog 7 [] [] (Is (.bool true, [])) := by
  refine pureW_of (lim := 70) (n := 10) mixed TN_ok rfl rfl ?_
  rw [names_tree]
  have e2 : ∀ n, (manyB 7 n == manyB 7 n) = true := fun n => beq_self_eq_true _
  have f := names_facts 0 (by omega) (by omega)
  rw [f.1, f.2.1, f.2.2.1, f.2.2.2.1, f.2.2.2.2.1, f.2.2.2.2.2.1, f.2.2.2.2.2.2.1, f.2.2.2.2.2.2.2.1, f.2.2.2.2.2.2.2.2, e2]
  clear f
  have f := names_facts 1 (by omega) (by omega)
  rw [f.1, f.2.1, f.2.2.1, f.2.2.2.1, f.2.2.2.2.1, f.2.2.2.2.2.1, f.2.2.2.2.2.2.1, f.2.2.2.2.2.2.2.1, f.2.2.2.2.2.2.2.2, e2]
  clear f
  have f := names_facts 127 (by omega) (by omega)
  rw [f.1, f.2.1, f.2.2.1, f.2.2.2.1, f.2.2.2.2.1, f.2.2.2.2.2.1, f.2.2.2.2.2.2.1, f.2.2.2.2.2.2.2.1, f.2.2.2.2.2.2.2.2, e2]
  clear f
  have f := names_facts 128 (by omega) (by omega)
  rw [f.1, f.2.1, f.2.2.1, f.2.2.2.1, f.2.2.2.2.1, f.2.2.2.2.2.1, f.2.2.2.2.2.2.1, f.2.2.2.2.2.2.2.1, f.2.2.2.2.2.2.2.2, e2]
  clear f
  have f := names_facts 255 (by omega) (by omega)
  rw [f.1, f.2.1, f.2.2.1, f.2.2.2.1, f.2.2.2.2.1, f.2.2.2.2.2.1, f.2.2.2.2.2.2.1, f.2.2.2.2.2.2.2.1, f.2.2.2.2.2.2.2.2, e2]
  clear f
  have f := names_facts 256 (by omega) (by omega)
  rw [f.1, f.2.1, f.2.2.1, f.2.2.2.1, f.2.2.2.2.1, f.2.2.2.2.2.1, f.2.2.2.2.2.2.1, f.2.2.2.2.2.2.2.1, f.2.2.2.2.2.2.2.2, e2]
  clear f
  have f := names_facts 65535 (by omega) (by omega)
  rw [f.1, f.2.1, f.2.2.1, f.2.2.2.1, f.2.2.2.2.1, f.2.2.2.2.2.1, f.2.2.2.2.2.2.1, f.2.2.2.2.2.2.2.1, f.2.2.2.2.2.2.2.2, e2]
  clear f
  have e1 : putE 4 (manyB 0 65536) = 40 := by
    have := manyB_len 0 65536
    unfold putE
    rw [if_neg (by omega), if_pos (by omega)]
  rw [e1]
  refine Eq.mpr (?_ : _ = (V.bool true = V.bool true)) rfl
  kernel_rfl
theorem derNames_walk (w : World) : Calls Try.prog 7 #[] w (fun e w' => e = .returned (.bool true) ∧ Below w.heap.size w w') :=
  law_of_sat (args := []) (rargs := []) (names_run.mono fun u s h => by cases h; rfl) rfl w
end Go.Proofs.Ytpjopdemhkcifaa
