/- A text that is a number's is that number's text. -/
import Derived.Test.YtlgapohnmcmhdaaDoorNumBack
namespace Go.Vm
open Go.Lib
theorem isD_of {c : UInt8} (h : isD c = true) : UInt8.ofNat (48 + digV c) = c := by
  have := (isD_iff c).1 h
  unfold digV
  have e : 48 + (c.toNat - 48) = c.toNat := by omega
  rw [e, UInt8.ofNat_toNat]
theorem dec_num : ∀ (n : Nat) (t : List UInt8), t.length = n + 1 → t.all isD = true → (t.getD 0 0).toNat ≠ 48 → 1 ≤ numF 0 t ∧ decDigits (numF 0 t) = t := by
  intro n
  induction n with
  | zero =>
    intro t hl hd hz
    match t, hl with
    | [c], _ =>
      have hc : isD c = true := by simpa using hd
      have h2 := (isD_iff c).1 hc
      have hz : c.toNat ≠ 48 := hz
      have e : numF 0 [c] = digV c := by rw [numF_cons, numF_nil]; unfold stepD; omega
      have hv : digV c < 10 := by unfold digV; omega
      rw [e, decDigits, dif_pos hv, isD_of hc]
      exact ⟨by unfold digV; omega, rfl⟩
  | succ n ih =>
    intro t hl hd hz
    have hne : t ≠ [] := by intro h; subst h; cases hl
    obtain ⟨r, c, rfl⟩ : ∃ r c, t = r ++ [c] := ⟨t.dropLast, t.getLast hne, (List.dropLast_concat_getLast hne).symm⟩
    rw [List.length_append, List.length_singleton] at hl
    rw [List.all_append, Bool.and_eq_true] at hd
    have hc : isD c = true := by simpa using hd.2
    have h2 := (isD_iff c).1 hc
    have hz' : (r.getD 0 0).toNat ≠ 48 := by
      cases r with
      | nil => simp at hl
      | cons x y => exact hz
    obtain ⟨i1, i2⟩ := ih r (by omega) hd.1 hz'
    have e : numF 0 (r ++ [c]) = numF 0 r * 10 + digV c := by rw [numF_append, numF_cons, numF_nil]; rfl
    have hv : digV c < 10 := by unfold digV; omega
    refine ⟨by omega, ?_⟩
    rw [e, decDigits, dif_neg (by omega)]
    have e1 : (numF 0 r * 10 + digV c) / 10 = numF 0 r := by omega
    have e2 : (numF 0 r * 10 + digV c) % 10 = digV c := by omega
    rw [e1, e2, i2, isD_of hc]
theorem itoa_num {t : List UInt8} (h : okNum t = true) : itoa (numF 0 t : Int) = t := by
  unfold okNum at h
  rw [Bool.and_eq_true, Bool.and_eq_true] at h
  obtain ⟨h1, h2, h3⟩ := h
  have hn : ((numF 0 t : Nat) : Int).toNat = numF 0 t := by omega
  unfold itoa
  rw [if_neg (by omega), hn]
  by_cases hz : (t.getD 0 0).toNat = 48
  · -- 0 alone
    have hl : t.length = 1 := by
      have a : t.length ≠ 0 := by
        intro h0
        rw [h0] at h1
        cases h1
      by_cases h : 2 ≤ t.length
      · rw [Nat.ble_eq_true_of_le h, hz] at h2; cases h2
      · omega
    match t, hl with
    | [c], _ =>
      have hc : isD c = true := by simpa using h3
      have hz : c.toNat = 48 := hz
      have e : numF 0 [c] = digV c := by rw [numF_cons, numF_nil]; unfold stepD; omega
      have hv : digV c < 10 := by unfold digV; omega
      rw [e, decDigits, dif_pos hv, isD_of hc]
  · have hl : t.length ≠ 0 := by
      intro h0
      rw [h0] at h1
      cases h1
    exact (dec_num (t.length - 1) t (by omega) h3 hz).2
theorem itoa_numV {t : List UInt8} {most : Int} (h : numE t most = 0) : itoa (numV t most) = t := by
  unfold numE at h
  unfold numV
  cases ho : okNum t with
  | false => rw [ho] at h; cases h
  | true =>
    rw [ho] at h
    cases hm : decide ((numF 0 t : Int) ≤ most) with
    | false => rw [hm] at h; cases h
    | true => exact itoa_num ho
end Go.Vm
