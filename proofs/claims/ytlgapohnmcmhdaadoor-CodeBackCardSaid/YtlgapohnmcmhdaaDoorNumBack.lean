/- The text of a number is a number's text, and that number's; texts without small letters are kept by great letters. -/
import Derived.Test.YtlgapohnmcmhdaaDoorNumMath
import Derived.Lib.MapLaws
import Derived.Lib.TrimAscii
namespace Go.Vm
open Go.Lib
theorem digit_toNat {a : Nat} (h : a < 10) : (UInt8.ofNat (48 + a)).toNat = 48 + a := by rw [UInt8.toNat_ofNat']; omega
theorem dec_all (u : Nat) : (decDigits u).all isD = true := by
  induction u using Nat.strongRecOn with
  | _ u ih =>
    rw [decDigits]
    split
    · rename_i h
      rw [List.all_cons, List.all_nil, Bool.and_true]
      exact (isD_iff _).2 (by rw [digit_toNat h]; omega)
    · rename_i h
      rw [List.all_append, ih (u / 10) (by omega), List.all_cons, List.all_nil, Bool.and_true, Bool.true_and]
      exact (isD_iff _).2 (by rw [digit_toNat (Nat.mod_lt _ (by omega))]; omega)
theorem numF_dec (u : Nat) : numF 0 (decDigits u) = u := by
  induction u using Nat.strongRecOn with
  | _ u ih =>
    rw [decDigits]
    split
    · rename_i h
      rw [numF_cons, numF_nil]
      unfold stepD digV
      rw [digit_toNat h]; omega
    · rename_i h
      rw [numF_append, ih (u / 10) (by omega), numF_cons, numF_nil]
      unfold stepD digV
      rw [digit_toNat (Nat.mod_lt _ (by omega))]; omega
theorem dec_head (u : Nat) (h1 : 1 ≤ u) : ∃ c r, decDigits u = c :: r ∧ c.toNat ≠ 48 := by
  induction u using Nat.strongRecOn with
  | _ u ih =>
    rw [decDigits]
    split
    · rename_i h
      exact ⟨_, _, rfl, by rw [digit_toNat h]; omega⟩
    · rename_i h
      obtain ⟨c, r, e, hc⟩ := ih (u / 10) (by omega) (by omega)
      exact ⟨c, r ++ [UInt8.ofNat (48 + u % 10)], by rw [e]; rfl, hc⟩
theorem okNum_dec (u : Nat) : okNum (decDigits u) = true := by
  unfold okNum
  rw [dec_all, Bool.and_true]
  by_cases h : u < 10
  · rw [decDigits, dif_pos h]; rfl
  · obtain ⟨c, r, e, hc⟩ := dec_head u (by omega)
    rw [e]
    have e1 : Nat.beq (c :: r).length 0 = false := rfl
    have e2 : Nat.beq ((c :: r).getD 0 0).toNat 48 = false := by
      show Nat.beq c.toNat 48 = false
      cases hb : Nat.beq c.toNat 48 with
      | false => rfl
      | true => exact absurd (Nat.eq_of_beq_eq_true hb) hc
    rw [e1, e2, Bool.and_false]; rfl
theorem num_itoa {n most : Int} (h0 : 0 ≤ n) (h1 : n ≤ most) : numV (itoa n) most = n ∧ numE (itoa n) most = 0 := by
  have e : itoa n = decDigits n.toNat := by unfold itoa; rw [if_neg (by omega)]
  have hn : ((numF 0 (decDigits n.toNat) : Nat) : Int) = n := by rw [numF_dec]; omega
  unfold numV numE
  rw [e, okNum_dec, hn, decide_eq_true h1]
  exact ⟨rfl, rfl⟩
/-! ### great letters -/
def isUp (b : UInt8) : Bool := Nat.blt b.toNat 97
theorem mapD_up (f : Int → Int) (hf : ∀ c : Nat, c < 97 → f c = c) : ∀ l : List UInt8, l.all isUp = true → mapD f l = l
  | [], _ => mapD_nil f
  | b :: r, h => by
    rw [List.all_cons, Bool.and_eq_true] at h
    have hb : b.toNat < 97 := Nat.le_of_ble_eq_true h.1
    have hd := decodeL_ascii b r (by omega)
    rw [mapD_same f (b :: r) (by simp) (by rw [hd]; exact hf _ hb) (by rw [hd]; intro ⟨_, h2⟩; simp_all), hd]
    show [b] ++ mapD f r = b :: r
    rw [mapD_up f hf r h.2]; rfl
theorem dec_up (u : Nat) : (decDigits u).all isUp = true := by
  rw [List.all_eq_true]
  intro b hb
  have := (isD_iff b).1 (List.all_eq_true.1 (dec_all u) b hb)
  exact Nat.ble_eq_true_of_le (by omega)
end Go.Vm
