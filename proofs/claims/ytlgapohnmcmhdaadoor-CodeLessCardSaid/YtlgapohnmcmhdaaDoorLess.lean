/- CodeLess: what it comes to. -/
import Derived.Test.YtlgapohnmcmhdaaDoorWorks
import Derived.Test.YtlgapohnmcmhdaaDoorShelfI
import Derived.Test.YtlgapohnmcmhdaaDoorMath
namespace Go.Proofs.YtlgapohnmcmhdaaDoor
open Go Go.Vm Go.RowKit
set_option linter.unusedVariables false
noncomputable def TL : Tab := ⟨addP (addT noT 31 itoaF) 10 worksF, noL, noLks 9⟩
theorem TL_ok : TabOk3 Tryd.prog TL := ⟨addP_ok (addT_ok noT_ok itoa_ok) works_ok, noL_ok, noLks_ok 9⟩
theorem less_tree (n m : Int) (R : V → Prop) : runW Tryd.prog TL 9 10 8 [.int .i64 n, .int .i64 m] R =
   (
    bif decide (n < 0) then R (V.bool true)
    else
      bif decide (m < 0) then R (V.bool true)
      else
        bif isI64 n then
          bif isI64 m then
            bif decide ((↑(Lib.itoa n).length : Int) < (↑(Lib.itoa m).length : Int)) then
              R (V.bool (true == decide (n < m)))
            else
              bif (↑(Lib.itoa n).length : Int) == (↑(Lib.itoa m).length : Int) then
                R (V.bool (Op.bytesLess (Lib.itoa n) (Lib.itoa m) == decide (n < m)))
              else R (V.bool (false == decide (n < m)))
          else False
        else False) := by kernel_rfl
theorem isI64_of {n : Int} (h : (Lit.int .i64 n).wf = true) : isI64 n = true := h
theorem less_sat (n m : Int) (hn : isI64 n = true) (hm : isI64 m = true) : FnSat Tryd.prog 8 [.int .i64 n, .int .i64 m] [] (fun v _ => v = .bool true) := by
  refine runW_ok (lim := 9) (n := 10) mixed TL_ok ?_
  rw [less_tree, hn, hm, cond_true, cond_true]
  refine bif_intro (fun h => rfl) (fun h1 => bif_intro (fun h => rfl) (fun h2 => ?_))
  have h1 : 0 ≤ n := Int.not_lt.1 (of_decide_eq_false h1)
  have h2 : 0 ≤ m := Int.not_lt.1 (of_decide_eq_false h2)
  have h := lessD_itoa h1 h2
  rw [← h]
  unfold lessD
  refine bif_intro (fun h3 => ?_) (fun h3 => bif_intro (fun h4 => ?_) (fun h4 => ?_))
  · have h3 := of_decide_eq_true h3
    have e : Nat.blt (Lib.itoa n).length (Lib.itoa m).length = true := Nat.ble_eq_true_of_le (by omega)
    rw [e]; rfl
  · have h4 : (Lib.itoa n).length = (Lib.itoa m).length := by have := eq_of_beq h4; omega
    have e : Nat.blt (Lib.itoa n).length (Lib.itoa m).length = false := by
      cases h : Nat.blt (Lib.itoa n).length (Lib.itoa m).length with
      | false => rfl
      | true => have := Nat.le_of_ble_eq_true h; omega
    have e2 : Nat.beq (Lib.itoa n).length (Lib.itoa m).length = true := by rw [h4]; exact Nat.beq_refl _
    rw [e, e2, Bool.true_and, Bool.false_or, beq_self_eq_true]
  · have e : Nat.blt (Lib.itoa n).length (Lib.itoa m).length = false := by
      cases h : Nat.blt (Lib.itoa n).length (Lib.itoa m).length with
      | false => rfl
      | true => have := Nat.le_of_ble_eq_true h; have := of_decide_eq_false h3; omega
    have e2 : Nat.beq (Lib.itoa n).length (Lib.itoa m).length = false := by
      cases h : Nat.beq (Lib.itoa n).length (Lib.itoa m).length with
      | false => rfl
      | true => have := Nat.eq_of_beq_eq_true h; rw [this] at h4; simp at h4
    rw [e, e2]; rfl
theorem codeLess_walk (n m : Int) (hn : (Lit.int .i64 n).wf = true) (hm : (Lit.int .i64 m).wf = true) (w : World) (hg : GOk w.heap.size w) : Calls Tryd.prog 8 #[.int .i64 n, .int .i64 m] w (fun e w' => e = .returned (.bool true) ∧ Below w.heap.size w w') :=
  law_of_sat (less_sat n m (isI64_of hn) (isI64_of hm)) rfl w hg
end Go.Proofs.YtlgapohnmcmhdaaDoor
