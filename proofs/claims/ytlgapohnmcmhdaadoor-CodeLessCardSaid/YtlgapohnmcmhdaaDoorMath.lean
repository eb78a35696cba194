/- Numbers stand as their decimal texts do: the shorter one, or of two as long the one that is less byte by byte, is less. -/
import Derived.Lib.ItoaNum
import Derived.Test.YtlgapohnmcmhdaaDoorVmc
namespace Go.Vm
open Go.Lib
def lessD (a b : List UInt8) : Bool := Nat.blt a.length b.length || (Nat.beq a.length b.length && Go.Op.bytesLess a b)
theorem bytesLess_self : ∀ a : List UInt8, Go.Op.bytesLess a a = false
  | [] => rfl
  | a :: r => by
    have h : ¬ a < a := by simp
    simp [Go.Op.bytesLess, bytesLess_self r, h]
theorem bytesLess_snoc : ∀ (p q : List UInt8) (x y : UInt8), p.length = q.length → Go.Op.bytesLess (p ++ [x]) (q ++ [y]) = (Go.Op.bytesLess p q || (decide (p = q) && decide (x < y)))
  | [], [], x, y, _ => by simp [Go.Op.bytesLess]
  | a :: p, b :: q, x, y, h => by
    have ih := bytesLess_snoc p q x y (by simpa using h)
    simp only [List.cons_append, Go.Op.bytesLess, ih]
    by_cases h1 : a < b
    · simp [h1]
    · by_cases h2 : a = b
      · subst h2; simp [h1]
      · have h3 : (a == b) = false := by simpa using h2
        simp [h1, h2, h3]
  | [], b :: q, x, y, h => by simp at h
  | a :: p, [], x, y, h => by simp at h
theorem digit_lt {a b : Nat} (ha : a < 10) (hb : b < 10) : (UInt8.ofNat (48 + a) < UInt8.ofNat (48 + b)) ↔ a < b := by
  rw [UInt8.lt_iff_toNat_lt, UInt8.toNat_ofNat', UInt8.toNat_ofNat']
  omega
theorem decDigits_ne (u : Nat) : 1 ≤ (decDigits u).length := by
  rw [decDigits]
  split
  · simp
  · simp
theorem lessD_dec : ∀ (k n m : Nat), n < k → m < k → lessD (decDigits n) (decDigits m) = decide (n < m) := by
  intro k
  induction k with
  | zero => intro n m h; omega
  | succ k ih =>
    intro n m hn hm
    have l1 := decDigits_ne (n / 10)
    have l2 := decDigits_ne (m / 10)
    by_cases h1 : n < 10
    · by_cases h2 : m < 10
      · rw [decDigits_one h1, decDigits_one h2]
        have := digit_lt h1 h2
        have e : Nat.blt 1 1 = false := rfl
        simp only [lessD, Go.Op.bytesLess, List.length_cons, List.length_nil, Nat.zero_add, e, Nat.beq_refl, Bool.false_or, Bool.true_and, Bool.and_false, Bool.or_false]
        exact decide_eq_decide.2 this
      · rw [decDigits_one h1, decDigits, dif_neg h2]
        have e : Nat.blt 1 ((decDigits (m / 10)).length + 1) = true := Nat.ble_eq_true_of_le (by omega)
        simp only [lessD, List.length_cons, List.length_nil, List.length_append, Nat.zero_add, e, Bool.true_or]
        exact (decide_eq_true (by omega)).symm
    · by_cases h2 : m < 10
      · rw [decDigits_one h2, decDigits, dif_neg h1]
        have e : Nat.blt ((decDigits (n / 10)).length + 1) 1 = false := by
          cases h : Nat.blt ((decDigits (n / 10)).length + 1) 1 with
          | false => rfl
          | true => have := Nat.le_of_ble_eq_true h; omega
        have e2 : Nat.beq ((decDigits (n / 10)).length + 1) 1 = false := by
          cases h : Nat.beq ((decDigits (n / 10)).length + 1) 1 with
          | false => rfl
          | true => have := Nat.eq_of_beq_eq_true h; omega
        simp only [lessD, List.length_cons, List.length_nil, List.length_append, Nat.zero_add, e, e2, Bool.false_or, Bool.false_and]
        exact (decide_eq_false (by omega)).symm
      · have i1 := ih (n / 10) (m / 10) (by omega) (by omega)
        have i2 := ih (m / 10) (n / 10) (by omega) (by omega)
        rw [decDigits, dif_neg h1]
        rw [show decDigits m = decDigits (m / 10) ++ [UInt8.ofNat (48 + m % 10)] by rw [decDigits, dif_neg h2]]
        generalize decDigits (n / 10) = p at i1 i2 l1
        generalize decDigits (m / 10) = q at i1 i2 l2
        by_cases hl : p.length = q.length
        · have e : Nat.blt q.length q.length = false := by
            cases h : Nat.blt q.length q.length with
            | false => rfl
            | true => have := Nat.le_of_ble_eq_true h; omega
          have e' : Nat.blt (q.length + 1) (q.length + 1) = false := by
            cases h : Nat.blt (q.length + 1) (q.length + 1) with
            | false => rfl
            | true => have := Nat.le_of_ble_eq_true h; omega
          simp only [lessD, List.length_append, List.length_cons, List.length_nil, hl, e, e', Nat.zero_add, Nat.beq_refl, Bool.false_or, Bool.true_and, bytesLess_snoc p q _ _ hl] at i1 i2 ⊢
          rw [i1]
          have hd := digit_lt (Nat.mod_lt n (by omega : 10 > 0)) (Nat.mod_lt m (by omega : 10 > 0))
          by_cases hpq : p = q
          · subst hpq
            rw [bytesLess_self] at i1 i2
            have j1 : ¬ n / 10 < m / 10 := by simpa using i1.symm
            have j2 : ¬ m / 10 < n / 10 := by simpa using i2.symm
            simp only [decide_true, Bool.true_and, hd, decide_eq_false j1, Bool.false_or]
            exact decide_eq_decide.2 ⟨fun h => by omega, fun h => by omega⟩
          · have hne : n / 10 ≠ m / 10 := by
              intro e
              apply hpq
              have a1 : Go.Op.bytesLess p q = false := by rw [i1]; exact decide_eq_false (by omega)
              have a2 : Go.Op.bytesLess q p = false := by rw [i2]; exact decide_eq_false (by omega)
              exact tri p q hl a1 a2
            simp only [decide_eq_false hpq, Bool.false_and, Bool.or_false]
            exact decide_eq_decide.2 ⟨fun h => by omega, fun h => by omega⟩
        · have eb : Nat.beq p.length q.length = false := by
            cases h : Nat.beq p.length q.length with
            | false => rfl
            | true => exact absurd (Nat.eq_of_beq_eq_true h) hl
          have eb' : Nat.beq (p.length + 1) (q.length + 1) = false := eb
          have eb2 : Nat.beq q.length p.length = false := by
            cases h : Nat.beq q.length p.length with
            | false => rfl
            | true => exact absurd (Nat.eq_of_beq_eq_true h).symm hl
          have et : Nat.blt (p.length + 1) (q.length + 1) = Nat.blt p.length q.length := rfl
          simp only [lessD, List.length_append, List.length_cons, List.length_nil, Nat.zero_add, eb, eb', eb2, et, Bool.false_and, Bool.or_false] at i1 i2 ⊢
          rw [i1]
          have : Nat.blt p.length q.length = true ∨ Nat.blt q.length p.length = true := by
            rcases Nat.lt_or_gt_of_ne hl with h | h
            · exact .inl (Nat.ble_eq_true_of_le h)
            · exact .inr (Nat.ble_eq_true_of_le h)
          rcases this with h | h
          · rw [i1] at h; have := of_decide_eq_true h; exact decide_eq_decide.2 ⟨fun h => by omega, fun h => by omega⟩
          · rw [i2] at h; have := of_decide_eq_true h; exact decide_eq_decide.2 ⟨fun h => by omega, fun h => by omega⟩
where
  tri : ∀ (p q : List UInt8), p.length = q.length → Go.Op.bytesLess p q = false → Go.Op.bytesLess q p = false → p = q
    | [], [], _, _, _ => rfl
    | a :: p, b :: q, h, h1, h2 => by
      simp only [Go.Op.bytesLess, Bool.or_eq_false_iff, decide_eq_false_iff_not, Bool.and_eq_false_iff] at h1 h2
      have hab : a = b := by
        have := h1.1; have := h2.1
        simp only [UInt8.lt_iff_toNat_lt] at *
        exact UInt8.toNat_inj.1 (by omega)
      subst hab
      rw [tri p q (by simpa using h) (by simpa using h1.2) (by simpa using h2.2)]
    | [], b :: q, h, _, _ => by simp at h
    | a :: p, [], h, _, _ => by simp at h
theorem lessD_itoa {n m : Int} (hn : 0 ≤ n) (hm : 0 ≤ m) : lessD (itoa n) (itoa m) = decide (n < m) := by
  unfold itoa
  rw [if_neg (by omega), if_neg (by omega), lessD_dec (n.toNat + m.toNat + 1) _ _ (by omega) (by omega)]
  exact decide_eq_decide.2 ⟨fun h => by omega, fun h => by omega⟩
end Go.Vm
