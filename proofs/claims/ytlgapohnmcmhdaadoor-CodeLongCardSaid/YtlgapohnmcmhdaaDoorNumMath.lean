/- The numbers of decimal texts: what strconv.Atoi's function comes to at digits alone; what is cut off at either end. -/
import Derived.Lib.ItoaNum
import Derived.Lib.AtoiAll
import Derived.Test.YtlgapohnmcmhdaaDoorVmc
namespace Go.Vm
open Go.Lib
def isD (b : UInt8) : Bool := Nat.ble 48 b.toNat && Nat.ble b.toNat 57
theorem isD_iff (b : UInt8) : isD b = true ↔ 48 ≤ b.toNat ∧ b.toNat ≤ 57 := by
  unfold isD
  rw [Bool.and_eq_true]
  exact ⟨fun h => ⟨Nat.le_of_ble_eq_true h.1, Nat.le_of_ble_eq_true h.2⟩, fun h => ⟨Nat.ble_eq_true_of_le h.1, Nat.ble_eq_true_of_le h.2⟩⟩
def digV (b : UInt8) : Nat := b.toNat - 48
def stepD (a : Nat) (c : UInt8) : Nat := a * 10 + digV c
def numF (acc : Nat) (l : List UInt8) : Nat := l.foldl stepD acc
theorem numF_nil (acc : Nat) : numF acc [] = acc := by unfold numF; exact List.foldl_nil ..
theorem numF_cons (acc : Nat) (c : UInt8) (r : List UInt8) : numF acc (c :: r) = numF (stepD acc c) r := by unfold numF; exact List.foldl_cons ..
theorem numF_le : ∀ (l : List UInt8) (acc : Nat), acc ≤ numF acc l
  | [], acc => by rw [numF_nil]; exact Nat.le_refl _
  | c :: r, acc => by
    have := numF_le r (stepD acc c)
    have e : stepD acc c = acc * 10 + digV c := rfl
    rw [numF_cons]; omega
theorem numF_append : ∀ (l r : List UInt8) (acc : Nat), numF acc (l ++ r) = numF (numF acc l) r
  | [], r, acc => by rw [numF_nil, List.nil_append]
  | c :: l, r, acc => by rw [List.cons_append, numF_cons, numF_cons]; exact numF_append l r _
theorem parse_dig : ∀ (l : List UInt8) (acc : Nat), l.all isD = true → acc < 18446744073709551616 → parseUint10 acc l = if numF acc l < 18446744073709551616 then .ok (numF acc l) else .range
  | [], acc, _, h => by rw [numF_nil, if_pos h]; rfl
  | c :: r, acc, hd, h => by
    simp only [List.all_cons, Bool.and_eq_true] at hd
    have hc := (isD_iff c).1 hd.1
    rw [numF_cons]
    simp only [parseUint10]
    rw [if_pos hc]
    have hle := numF_le r (stepD acc c)
    have hdv : stepD acc c = acc * 10 + (c.toNat - 48) := rfl
    by_cases h1 : 1844674407370955162 ≤ acc
    · rw [if_pos h1, if_neg (by omega)]
    · rw [if_neg h1]
      by_cases h2 : 18446744073709551616 ≤ acc * 10 + (c.toNat - 48)
      · rw [if_pos h2, if_neg (by omega)]
      · rw [if_neg h2]
        rw [hdv]; exact parse_dig r _ hd.2 (by omega)
theorem atoi_dig {s : List UInt8} (hs : s ≠ []) (hd : s.all isD = true) : atoiAll s = if numF 0 s < 9223372036854775808 then .ok (numF 0 s : Int) else .range := by
  cases s with
  | nil => exact absurd rfl hs
  | cons c r =>
    have hc := (isD_iff c).1 (by simp only [List.all_cons, Bool.and_eq_true] at hd; exact hd.1)
    have h1 : ¬ (c.toNat = 43 ∨ c.toNat = 45) := by omega
    have h2 : ¬ c.toNat = 45 := by omega
    unfold atoiAll
    simp only [if_neg h1, parseMag, if_neg hs, parse_dig (c :: r) 0 hd (by omega)]
    by_cases h3 : numF 0 (c :: r) < 18446744073709551616
    · rw [if_pos h3]
      simp only [h2, not_false_eq_true, true_and, false_and, if_false]
      by_cases h4 : numF 0 (c :: r) < 9223372036854775808
      · rw [if_neg (by omega), if_pos h4]
      · rw [if_pos (by omega), if_neg h4]
    · rw [if_neg h3, if_neg (by omega)]
/-! ### what is cut off -/
def trimL (p : UInt8 → Bool) : List UInt8 → List UInt8
  | [] => []
  | c :: r => bif p c then trimL p r else c :: r
def trimR (p : UInt8 → Bool) (s : List UInt8) : List UInt8 := (trimL p s.reverse).reverse
theorem trimL_nil {p : UInt8 → Bool} : ∀ {s : List UInt8}, trimL p s = [] ↔ s.all p = true
  | [] => by simp [trimL]
  | c :: r => by
    cases h : p c with
    | true => simp [trimL, h, trimL_nil (s := r)]
    | false => simp [trimL, h]
theorem trimL_all {p : UInt8 → Bool} : ∀ {s : List UInt8}, (trimL p s).all p = s.all p
  | [] => by simp [trimL]
  | c :: r => by
    cases h : p c with
    | true => simp [trimL, h, trimL_all (s := r)]
    | false => simp [trimL, h]
theorem trimR_all {p : UInt8 → Bool} {s : List UInt8} : (trimR p s).all p = s.all p := by
  unfold trimR
  rw [List.all_reverse, trimL_all, List.all_reverse]
theorem trim_nil {p : UInt8 → Bool} {s : List UInt8} : trimL p (trimR p s) = [] ↔ s.all p = true := by rw [trimL_nil, trimR_all]
theorem trimR_snoc {p : UInt8 → Bool} {s : List UInt8} (h : s ≠ []) : trimR p s = bif p (s.getD (s.length - 1) 0) then trimR p (s.take (s.length - 1)) else s := by
  have e : s = s.take (s.length - 1) ++ [s.getD (s.length - 1) 0] := by
    have hl : 0 < s.length := List.length_pos_iff.2 h
    rw [List.getD_eq_getElem?_getD, List.getElem?_eq_getElem (by omega : s.length - 1 < s.length), Option.getD_some]
    rw [List.take_append_getElem (by omega), Nat.sub_add_cancel hl, List.take_length]
  cases hp : p (s.getD (s.length - 1) 0) with
  | true =>
    rw [cond_true]
    conv => lhs; rw [e]
    unfold trimR
    rw [List.reverse_append, List.reverse_singleton, List.singleton_append, trimL, hp, cond_true]
  | false =>
    rw [cond_false]
    conv => lhs; rw [e]
    unfold trimR
    rw [List.reverse_append, List.reverse_singleton, List.singleton_append, trimL, hp, cond_false]
    conv => rhs; rw [e]
    simp
/-! ### what a number's text comes to -/
/-- Is it a number's text: digits alone, no 0 ahead of others? -/
def okNum (s : List UInt8) : Bool := !(Nat.beq s.length 0) && (!(Nat.ble 2 s.length && Nat.beq (s.getD 0 0).toNat 48) && s.all isD)
/-- The number, and the error. -/
def numV (s : List UInt8) (most : Int) : Int := bif okNum s && decide ((numF 0 s : Int) ≤ most) then (numF 0 s : Int) else 0
def numE (s : List UInt8) (most : Int) : Int := bif okNum s then bif decide ((numF 0 s : Int) ≤ most) then 0 else 40 else 4
/-! ### the text of a number, digit by digit from its end -/
def showD (u : Nat) (acc : List UInt8) : List UInt8 := bif Nat.ble u 9 then acc else decDigits (u / 10) ++ acc
theorem showD_step {u : Nat} (h : 9 < u) (acc : List UInt8) : showD (u / 10) ([UInt8.ofNat (48 + u / 10 % 10)] ++ acc) = showD u acc := by
  have e : Nat.ble u 9 = false := by
    cases h' : Nat.ble u 9 with
    | false => rfl
    | true => have := Nat.le_of_ble_eq_true h'; omega
  unfold showD
  rw [e, cond_false]
  cases h' : Nat.ble (u / 10) 9 with
  | true =>
    have := Nat.le_of_ble_eq_true h'
    rw [cond_true, decDigits, dif_pos (by omega), Nat.mod_eq_of_lt (by omega)]
  | false =>
    have : ¬ u / 10 < 10 := fun h => by
      have : Nat.ble (u / 10) 9 = true := Nat.ble_eq_true_of_le (by omega)
      rw [this] at h'; cases h'
    rw [cond_false]
    conv => rhs; rw [decDigits, dif_neg this]
    simp
theorem showD_top (u : Nat) : showD u [UInt8.ofNat (48 + u % 10)] = decDigits u := by
  unfold showD
  cases h' : Nat.ble u 9 with
  | true =>
    have := Nat.le_of_ble_eq_true h'
    rw [cond_true, decDigits, dif_pos (by omega), Nat.mod_eq_of_lt (by omega)]
  | false =>
    have : ¬ u < 10 := fun h => by
      have : Nat.ble u 9 = true := Nat.ble_eq_true_of_le (by omega)
      rw [this] at h'; cases h'
    rw [cond_false]
    conv => rhs; rw [decDigits, dif_neg this]
end Go.Vm
