/- tlsa.Any: what it comes to. -/
import Derived.Test.YtakfcajmfgnchaaGreatDoorAnyC
namespace Go.Proofs.YtakfcajmfgnchaaGreatDoor
open Go Go.Vm Go.RowKit
set_option linter.unusedVariables false
set_option maxRecDepth 100000
set_option linter.unusedSectionVars false
variable [Φ : Frz]
theorem shA (k : Nat) : ∀ a b : List V, shiftL k (a ++ b) = shiftL k a ++ shiftL k b
 | [], b => rfl
 | v :: r, b => by simp only [List.cons_append, shiftL, shA k r b]
theorem shT (k : Nat) : ∀ l : List TL, shiftL k (tls l) = tls l
 | [] => rfl
 | r :: l => by simp only [tls, shiftL, V.shift, shT k l]
theorem shZ (k : Nat) : ∀ q : List TL, shiftL k (zerosQ q) = zerosQ q
 | [] => rfl
 | r :: l => by
  rw [zerosQ]
  cases usB r.u r.s r.m r.d with
  | true => exact shZ k l
  | false => simp only [cond_false, shiftL, V.shift, shZ k l]
theorem view_tls {st : St} {b : Nat} {l : List TL} {z : List V} (hb : (∃ t sz, st[b]? = some (.row (tls l ++ z) t sz)) ∨ ∃ o, st[b]? = some (.ro o (tls l ++ z))) (ex : Bool) (c zz : Nat) : viewT st (.slice b 0 l.length ex c zz) = some (true, l) := by
 have ht : List.take (l.length * 4) (tls l ++ z) = tls l := by
  rw [List.take_append_of_le_length (by rw [tls_len]; omega)]; exact List.take_of_length_le (by rw [tls_len]; omega)
 have hle : (0 + l.length * 4).ble (tls l ++ z).length = true := Nat.ble_eq_true_of_le (by rw [List.length_append, tls_len]; omega)
 have hv : viewC st 4 (.slice b 0 l.length ex c zz) = some (true, (l.length, tls l)) := by
  rcases hb with ⟨t, sz, hb⟩ | ⟨o, hb⟩ <;> simp only [viewC, hb, hle, List.drop_zero, ht]
 unfold viewT
 rw [hv]
 simp only [isTl_tls, tlD_tls, Nat.beq_refl, Bool.and_self]
theorem good_len : ∀ q : List TL, (goodQ q).length ≤ q.length
 | [] => Nat.le_refl _
 | r :: l => by
  have := good_len l
  rw [goodQ]
  cases usB r.u r.s r.m r.d with
  | true => simpa using this
  | false => rw [cond_false, List.length_cons]; omega
theorem nil_zero {m : List MB} {x y : Value} {n : Nat} {cs : List V} (h : real m (.lst x n cs) = some y) (hn : nilX (sliceX x 0 (k4 n) 4) = true) : n = 0 := by
 obtain ⟨xs, _, _, hk⟩ := real_lst h
 rcases hk with ⟨a, cap, rfl, rfl, _⟩ | ⟨b, off, cap, arr, t, fz, rfl, h1, h2, _⟩
 ·rfl
 ·exfalso
  unfold sliceX nilX at hn
  simp only at hn
  rw [if_neg (by omega)] at hn
  cases hn
end Go.Proofs.YtakfcajmfgnchaaGreatDoor
