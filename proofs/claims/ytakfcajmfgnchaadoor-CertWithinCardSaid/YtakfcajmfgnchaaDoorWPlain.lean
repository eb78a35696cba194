/- CertWithin: the plain law. -/
import Derived.Test.YtakfcajmfgnchaaDoorLink
namespace Go.Proofs.YtakfcajmfgnchaaDoor
open Go Go.Vm Go.RowKit
set_option linter.unusedVariables false
set_option maxRecDepth 100000
set_option linter.unusedSectionVars false
variable [Φ : Frz]
/-- Whether a text stands in another one. -/
def withinL (s : List UInt8) : List UInt8 → Bool
  | [] => s == []
  | c :: r => bif decide (s.length ≤ (c :: r).length) then ((c :: r).take s.length == s || withinL s r) else false
theorem within_short : ∀ {s t : List UInt8}, ¬ s.length ≤ t.length → withinL s t = false
  | s, [], h => by
    cases s with
    | nil => simp at h
    | cons _ _ => rfl
  | s, c :: r, h => by rw [withinL, decide_eq_false h]; rfl
theorem within_here {s t : List UInt8} (h : t.take s.length = s) : withinL s t = true := by
  have hl : s.length ≤ t.length := by
    have := congrArg List.length h
    rw [List.length_take] at this; omega
  cases t with
  | nil =>
    have : s = [] := List.eq_nil_of_length_eq_zero (by simpa using hl)
    subst this; rfl
  | cons c r => rw [withinL, decide_eq_true hl, cond_true, h, beq_self_eq_true]; rfl
theorem within_mid (s rest : List UInt8) : ∀ pre : List UInt8, withinL s (pre ++ (s ++ rest)) = true
  | [] => within_here (by rw [List.nil_append]; exact List.take_left' rfl)
  | c :: r => by
    rw [List.cons_append, withinL, decide_eq_true (by simp; omega), cond_true, within_mid s rest r, Bool.or_true]
theorem putB_eq {t : Int} {x : List UInt8} (ht : ¬ t % 32 = 31) (hx : x.length ≤ 65535) : putB t x = UInt8.ofNat t.toNat :: (lenB x.length ++ x) := by
  unfold putB; rw [if_neg ht, if_neg (by omega)]
theorem lenB_one {n : Nat} (h : n < 128) : (lenB n).length = 1 := by
  unfold lenB; (repeat' split) <;> simp <;> omega
theorem lenB_pos (n : Nat) : 1 ≤ (lenB n).length := by
  unfold lenB; (repeat' split) <;> simp
theorem lenB_mono {a b : Nat} (h : a ≤ b) : (lenB a).length ≤ (lenB b).length := by
  unfold lenB; (repeat' split) <;> simp <;> omega
theorem spki_eq {k : List UInt8} (h0 : 1 ≤ k.length) (h1 : k.length ≤ 64) : spkiB k = putB 48 (putB 4 k) := by
  unfold spkiB; rw [if_neg (fun e => by subst e; simp at h0), if_neg (by omega)]
theorem p4_len {k : List UInt8} (h1 : k.length ≤ 64) : (putB 4 k).length = k.length + 2 := by
  rw [putB_eq (by decide) (by omega), List.length_cons, List.length_append, lenB_one (by omega)]; omega
theorem spki_len4 {k : List UInt8} (h0 : 1 ≤ k.length) (h1 : k.length ≤ 64) : (spkiB k).length = k.length + 4 := by
  have := p4_len h1
  rw [spki_eq h0 h1, putB_eq (by decide) (by omega), List.length_cons, List.length_append, lenB_one (by omega)]; omega
theorem spki_none {k : List UInt8} (h : ¬ (1 ≤ k.length ∧ k.length ≤ 64)) : spkiB k = [] := by
  unfold spkiB
  by_cases h0 : k = []
  · rw [if_pos h0]
  · have : 1 ≤ k.length := by
      cases k with
      | nil => exact absurd rfl h0
      | cons _ _ => simp
    rw [if_neg h0, if_pos (by omega)]
theorem putB_inj {t : Int} {x y : List UInt8} (ht : ¬ t % 32 = 31) (hx : x.length ≤ 65535) (hl : x.length = y.length) (h : putB t x = putB t y) : x = y := by
  rw [putB_eq ht hx, putB_eq ht (by omega), hl] at h
  injection h with _ h
  exact List.append_cancel_left h
theorem spki_inj {k k' : List UInt8} (h0 : 1 ≤ k.length) (h1 : k.length ≤ 64) (h : spkiB k = spkiB k') : k = k' := by
  have hl := spki_len4 h0 h1
  by_cases h2 : 1 ≤ k'.length ∧ k'.length ≤ 64
  · have hl' := spki_len4 h2.1 h2.2
    rw [h] at hl
    have e : k.length = k'.length := by omega
    rw [spki_eq h0 h1, spki_eq h2.1 h2.2] at h
    have p1 := p4_len h1
    have p2 := p4_len h2.2
    exact putB_inj (by decide) (by omega) e (putB_inj (by decide) (by omega) (by omega) h)
  · rw [h, spki_none h2] at hl; simp at hl
theorem spki_same {k k' : List UInt8} (h0 : 1 ≤ k.length) (h1 : k.length ≤ 64) : (spkiB k == spkiB k') = (k == k') := by
  rw [Bool.eq_iff_iff, beq_iff_eq, beq_iff_eq]
  exact ⟨spki_inj h0 h1, fun e => by rw [e]⟩
theorem dig_len {k : List UInt8} (h0 : 1 ≤ k.length) (h1 : k.length ≤ 64) : (digB k).length = 32 := by
  unfold digB
  have : (spkiB k == []) = false := by
    cases hq : (spkiB k == []) with
    | false => rfl
    | true => have := congrArg List.length (eq_of_beq hq); rw [spki_len4 h0 h1] at this; simp at this
  rw [this]; exact sumF_len _
theorem enc_zero {k g : List UInt8} {l : List (List UInt8)} {f u : Int} {ca : Bool} (h : encE k g l f u ca = 0) : encOk k g l f u = true ∧ encB k g l f u ca = putB 48 (encIn k g l f u ca) ∧ (putB 48 (encIn k g l f u ca)).length ≤ 512 := by
  unfold encE at h
  unfold encB
  cases ho : encOk k g l f u with
  | false => rw [ho] at h; simp at h
  | true =>
    rw [ho, cond_true] at h
    cases hd : decide (((putB 48 (encIn k g l f u ca)).length : Int) > 512) with
    | true => rw [hd] at h; simp at h
    | false =>
      have := of_decide_eq_false hd
      exact ⟨rfl, rfl, by omega⟩
theorem names_len : ∀ l : List (List UInt8), l.all patN = true → (l.map nameB).flatten.length ≤ l.length * 259
  | [], _ => by simp
  | s :: r, h => by
    simp only [List.all_cons, Bool.and_eq_true] at h
    have h1 := pat_len h.1
    have h2 := names_len r h.2
    have h3 := putB_le 130 s
    simp only [List.map_cons, List.flatten_cons, List.length_append, List.length_cons, nameB]
    omega
theorem encOk_all {k g : List UInt8} {l : List (List UInt8)} {f u : Int} (h : encOk k g l f u = true) : (1 ≤ k.length ∧ k.length ≤ 64) ∧ g.length = 32 ∧ l.all patN = true ∧ l.length ≤ 64 := by
  unfold encOk mayC at h
  simp only [Bool.and_eq_true, decide_eq_true_eq, beq_iff_eq] at h
  obtain ⟨⟨h1, h2⟩, h3⟩ := h
  exact ⟨⟨by omega, by omega⟩, by omega, h2, by omega⟩
/-- How long the parts are. -/
theorem encIn_len {k g : List UInt8} {l : List (List UInt8)} {f u : Int} {ca : Bool} (h : encOk k g l f u = true) : (l.map nameB).flatten.length ≤ 16576 ∧ (encIn k g l f u ca).length ≤ 17000 ∧
    (encIn k g l f u ca).length = (spkiB k).length + (putB 4 g).length + (putB 48 (l.map nameB).flatten).length + (putB 2 (intL f)).length + (putB 2 (intL u)).length + (putB 1 (boolS ca)).length := by
  obtain ⟨⟨h1, h2⟩, h3, h4, h5⟩ := encOk_all h
  have q0 := spki_len4 h1 h2
  have q3 := putB_le 4 g
  have q4 := putB_le 2 (intL f)
  have q5 := putB_le 2 (intL u)
  have q6 := putB_le 1 (boolS ca)
  have q7 := putB_le 48 (l.map nameB).flatten
  have hf8 := intL_le f
  have hu8 := intL_le u
  have hca : (boolS ca).length ≤ 1 := by cases ca <;> exact Nat.le_refl _
  have hn := names_len l h4
  have hn2 : l.length * 259 ≤ 64 * 259 := Nat.mul_le_mul_right _ h5
  have e : (encIn k g l f u ca).length = (spkiB k).length + (putB 4 g).length + (putB 48 (l.map nameB).flatten).length + (putB 2 (intL f)).length + (putB 2 (intL u)).length + (putB 1 (boolS ca)).length := by
    unfold encIn
    simp only [List.flatten_cons, List.flatten_nil, List.append_nil, List.length_append]
    omega
  exact ⟨by omega, by omega, e⟩
theorem enc_within {k g : List UInt8} {l : List (List UInt8)} {f u : Int} {ca : Bool} (h : encE k g l f u ca = 0) : withinL (spkiB k) (encB k g l f u ca) = true := by
  obtain ⟨h1, h2, h3⟩ := enc_zero h
  obtain ⟨_, h4, _⟩ := encIn_len (ca := ca) h1
  rw [h2, putB_eq (by decide) (by omega)]
  have e : encIn k g l f u ca = spkiB k ++ [putB 4 g, putB 48 (l.map nameB).flatten, putB 2 (intL f), putB 2 (intL u), putB 1 (boolS ca)].flatten := by
    unfold encIn; rw [List.flatten_cons]
  generalize hn : lenB (encIn k g l f u ca).length = L
  rw [e]
  exact within_mid _ _ (UInt8.ofNat (48 : Int).toNat :: L)
theorem enc_longer {k g : List UInt8} {l : List (List UInt8)} {f u : Int} {ca : Bool} {s : List UInt8} (h : encE k g l f u ca = 0) (h' : encE k g (l ++ [s]) f u ca = 0) : (encB k g l f u ca).length + s.length + 2 ≤ (encB k g (l ++ [s]) f u ca).length := by
  obtain ⟨h1, h2, _⟩ := enc_zero h
  obtain ⟨h1', h2', _⟩ := enc_zero h'
  obtain ⟨a1, a2, a3⟩ := encIn_len (ca := ca) h1
  obtain ⟨b1, b2, b3⟩ := encIn_len (ca := ca) h1'
  obtain ⟨_, _, h4', _⟩ := encOk_all h1'
  have hs : s.length ≤ 255 := pat_len (List.all_eq_true.1 h4' s (by simp))
  have hN : ((l ++ [s]).map nameB).flatten.length = (l.map nameB).flatten.length + (nameB s).length := by
    rw [List.map_append, List.flatten_append, List.length_append]
    simp
  have hb : s.length + 2 ≤ (nameB s).length := by
    have := lenB_pos s.length
    unfold nameB
    rw [putB_eq (by decide) (by omega), List.length_cons, List.length_append]; omega
  have p1 : (putB 48 (l.map nameB).flatten).length = 1 + ((lenB (l.map nameB).flatten.length).length + (l.map nameB).flatten.length) := by
    rw [putB_eq (by decide) (by omega), List.length_cons, List.length_append]; omega
  have p2 : (putB 48 ((l ++ [s]).map nameB).flatten).length = 1 + ((lenB ((l ++ [s]).map nameB).flatten.length).length + ((l ++ [s]).map nameB).flatten.length) := by
    rw [putB_eq (by decide) (by omega), List.length_cons, List.length_append]; omega
  have m1 := lenB_mono (show (l.map nameB).flatten.length ≤ ((l ++ [s]).map nameB).flatten.length by omega)
  have m2 := lenB_mono (show (encIn k g l f u ca).length ≤ (encIn k g (l ++ [s]) f u ca).length by omega)
  rw [h2, h2', putB_eq (by decide) (by omega), putB_eq (by decide) (by omega)]
  simp only [List.length_cons, List.length_append]
  omega
end Go.Proofs.YtakfcajmfgnchaaDoor
