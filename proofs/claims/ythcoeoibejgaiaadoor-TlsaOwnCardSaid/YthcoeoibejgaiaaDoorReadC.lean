/- The certificates that are read of a chain. -/
import Derived.Test.YthcoeoibejgaiaaDoorRead
namespace Go.Proofs.YthcoeoibejgaiaaDoor
open Go Go.Vm Go.RowKit
set_option linter.unusedVariables false
set_option maxRecDepth 100000
set_option linter.unusedSectionVars false
variable [Φ : Frz]
theorem dL_small (s : List UInt8) : (dL s).length ≤ 64 := by
 have key : ∀ c, decC s = some c → c.l.length ≤ 64 := by
  intro c hc
  unfold decC at hc
  cases h1 : onlyB s 48 with
  | false => rw [h1] at hc; cases hc
  | true =>
   cases h2 : (allE (getX2 s) != 0) with
   | true => rw [h1, h2] at hc; cases hc
   | false =>
    rw [h1, h2, cond_true, cond_false] at hc
    unfold decT at hc
    split at hc
    ·rename_i x0 x1 x2 x3 x4 x5 _
     have hb : ∀ {α : Type} {b : Bool} {x y : Option α} {z : α}, (bif b then x else y) = some z → (b = true ∧ x = some z) ∨ (b = false ∧ y = some z) := by
      intro α b x y z h
      cases b
      ·exact .inr ⟨rfl, h⟩
      ·exact .inl ⟨rfl, h⟩
     rcases hb hc with ⟨_, hc⟩ | ⟨_, hc⟩
     ·rcases hb hc with ⟨_, hc⟩ | ⟨_, hc⟩
      ·rcases hb hc with ⟨_, hc⟩ | ⟨_, hc⟩
       ·cases hc
       ·rcases hb hc with ⟨_, hc⟩ | ⟨_, hc⟩
        ·rcases hb hc with ⟨_, hc⟩ | ⟨_, hc⟩
         ·cases hc
          rw [List.length_map]
          exact all_small x2.2
         ·cases hc
        ·cases hc
      ·cases hc
     ·cases hc
    ·cases hc
 unfold dL dCd decR
 cases decide ((s.length : Int) > 512) with
 | true => simp
 | false =>
  rw [cond_false]
  cases hc : decC s with
  | none => simp
  | some c => exact key c hc
def crOf (s : List UInt8) : CR := ⟨dK s, dG s, dL s, dF s, dU s, dCa s⟩
def readC (l : List (List UInt8)) : List CR := (readS l).map crOf
theorem goodP_get : ∀ (l : List (List UInt8)) (i : Nat), i < (goodP l).length → (goodP l)[i]? = l[i]?
 | [], i, h => by simp [goodP] at h
 | s :: r, i, h => by
  rw [goodP] at h ⊢
  cases hs : (decE s == 0) with
  | false => rw [hs] at h; simp at h
  | true =>
   rw [hs, cond_true] at h
   rw [cond_true]
   cases i with
   | zero => rfl
   | succ i => simpa using goodP_get r i (by simpa using h)
theorem readS_get {l : List (List UInt8)} {i : Nat} (h : i < rdN l) : (readS l)[i]? = some (rdG l i) := by
 have h1 := rdN_le l
 unfold readS
 rw [goodP_get _ _ h]
 exact rd_at (by omega)
theorem readC_of {l : List (List UInt8)} {j : Nat} (h : rdN l = j) : readC l = (List.range j).map fun i => crOf (rdG l i) := by
 apply List.ext_getElem?
 intro i
 unfold readC
 rw [List.getElem?_map, List.getElem?_map]
 rcases Nat.lt_or_ge i j with hi | hi
 ·rw [readS_get (by omega), List.getElem?_range hi]; rfl
 ·rw [List.getElem?_eq_none (l := readS l) (by show rdN l ≤ i; omega), List.getElem?_eq_none (by simp; omega)]; rfl
end Go.Proofs.YthcoeoibejgaiaaDoor
