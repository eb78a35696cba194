/- need.Adequate: of whatever lists. -/
import Derived.Test.YtakfcajmfgnchaaGreatDoorAsked
namespace Go.Proofs.YtakfcajmfgnchaaGreatDoor
open Go Go.Vm Go.RowKit
set_option linter.unusedVariables false
set_option maxRecDepth 100000
set_option linter.unusedSectionVars false
theorem realL_one {Φ Ψ : Frz} {m m' : List MB} {p : V} {b : List V} {f : Value → V} (hf : ∀ y, @real _ Φ m p = some y → @real _ Ψ m' (f y) = some y) (hb : plainL b = true) : ∀ (a : List V) (xs : List Value), plainL a = true → @realL _ Φ m (a ++ p :: b) = some xs → ∃ y, @realL _ Ψ m' (a ++ f y :: b) = some xs
 | [], xs, _, h => by
  obtain ⟨y, r, q1, q2, rfl⟩ := @realL_cons _ Φ m _ _ _ h
  exact ⟨y, @realL_mk _ Ψ m' _ _ _ _ (hf y q1) (realL_plain _ _ hb q2)⟩
 | v :: a, xs, ha, h => by
  obtain ⟨z, r, q1, q2, rfl⟩ := @realL_cons _ Φ m _ _ _ h
  simp only [plainL, Bool.and_eq_true] at ha
  obtain ⟨y, hy⟩ := realL_one hf hb a r ha.2 q2
  exact ⟨y, @realL_mk _ Ψ m' _ _ _ _ (real_plain _ _ ha.1 q1) hy⟩
theorem agg_one {Φ Ψ : Frz} {m m' : List MB} {p : V} {b : List V} {f : Value → V} (hf : ∀ y, @real _ Φ m p = some y → @real _ Ψ m' (f y) = some y) (a : List V) (ha : plainL a = true) (hb : plainL b = true) {x : Value} (h : @real _ Φ m (.agg (a ++ p :: b)) = some x) : ∃ y, @real _ Ψ m' (.agg (a ++ f y :: b)) = some x := by
 obtain ⟨xs, h0, rfl⟩ := @real_agg _ Φ m _ _ h
 obtain ⟨y, hy⟩ := realL_one hf hb a xs ha h0
 exact ⟨y, by simp only [real, hy]⟩
variable [Φ : Frz]
end Go.Proofs.YtakfcajmfgnchaaGreatDoor
