/- Is a text more than a statement goes over? -/
import Derived.Test.YtlgapohnmcmhdaaDoorTrim
namespace Go.Proofs.YtlgapohnmcmhdaaDoor
open Go Go.Vm Go.RowKit
set_option linter.unusedVariables false
theorem long_tree (s : List UInt8) (c z : Nat) (R : V → St → Prop) : lookT 9 (rounds 9) [.slice 0 0 1 false c z] [.ro false [.str s]] R =
   (
    R (V.bool (decide (IntKind.i64.wrap (0 + if 9000 < (↑s.length : Int) then 9000 else (↑s.length : Int)) ≥ 9000)))
      [Blk.ro false [V.str s]]) := by kernel_rfl
def longB (s : List UInt8) : Bool := decide (9000 ≤ (s.length : Int))
theorem longB_eq (m : Int) (h0 : 0 ≤ m) : decide (IntKind.i64.wrap (0 + if 9000 < m then 9000 else m) ≥ 9000) = decide (9000 ≤ m) := by
  by_cases h1 : 9000 < m
  · rw [if_pos h1, IntWalk.i64_in _ ⟨by omega, by omega⟩]; exact decide_eq_decide.2 (by omega)
  · rw [if_neg h1, IntWalk.i64_in _ ⟨by omega, by omega⟩]; exact decide_eq_decide.2 (by omega)
def longG : List V → St → Option (List (Bool × (V × St)))
  | [.slice 0 0 1 false _ _], [.ro false [.str s]] => some [(true, (.bool (longB s), []))]
  | _, _ => none
theorem str_fits (s : List UInt8) : ∀ b ∈ [Blk.ro false [.str s]], flatL b.cs = true := by simp [Blk.cs, flatL, V.flat]
theorem longG_ok (args : List V) (s : St) (l : List (Bool × (V × St))) (v : V) (n : St) (h : longG args s = some l) (ho : pickO l = some (v, n)) : (∀ b ∈ s, flatL b.cs = true) ∧ FnSat Tryd.prog 9 args s (fun u st => Fits 0 [v] n [some u] st) := by
  unfold longG at h
  split at h
  · rename_i c z s
    cases h
    cases ho
    refine ⟨str_fits s, lookT_ok (lk := rounds 9) (fnRoundsW 9 _ _) ?_⟩
    rw [long_tree, longB_eq _ (by omega)]
    exact ⟨[], [.bool (longB s)], rfl, rfl, FitsM.of trivial, by simp, fun i hi => by omega⟩
  · cases h
end Go.Proofs.YtlgapohnmcmhdaaDoor
