/- Certificates: what was encoded is decoded as it was; what is decoded, encoded, is the bytes: plain law. -/
import Derived.Test.YtpjopdemhkcifaaCert6
namespace Go.Proofs.Ytpjopdemhkcifaa
open Go Go.Vm Go.RowKit
set_option linter.unusedVariables false
set_option linter.unusedSectionVars false
set_option maxRecDepth 100000
variable [Φ : Frz]
def catI : List IT → List UInt8
  | [] => []
  | x :: r => putB x.1 x.2 ++ catI r
def goodI (x : IT) : Prop := okTag x.1 = true ∧ putE x.1 x.2 = 0
theorem get_cat {x : IT} (h : goodI x) (s : List UInt8) (hl : (putB x.1 x.2 ++ s).length ≤ 1099511627776) : getE2 (putB x.1 x.2 ++ s) = 0 ∧ getT2 (putB x.1 x.2 ++ s) = x.1 ∧ getX2 (putB x.1 x.2 ++ s) = x.2 ∧ getR2 (putB x.1 x.2 ++ s) = s := by
  obtain ⟨a, b, c, d⟩ := put_get (s := s) h.1 h.2
  obtain ⟨e1, e2, e3, e4⟩ := get2_eq hl
  rw [e1, e2, e3, e4]
  exact ⟨a, b, c, d⟩
theorem put_ne {x : IT} (h : goodI x) (s : List UInt8) : putB x.1 x.2 ++ s ≠ [] := by
  intro e
  have := (List.append_eq_nil_iff.1 e).1
  exact (put_none.2 this) h.2
theorem alF_catI : ∀ (L acc : List IT) (k : Nat), (∀ x ∈ L, goodI x) → (catI L).length ≤ k → (catI L).length ≤ 1099511627776 → acc.length + L.length ≤ 64 → alF k (catI L) acc = (acc ++ L, 0)
  | [], acc, k, _, _, _, _ => by
    cases k with
    | zero => simp [catI, alF]
    | succ k => simp [catI, alF]
  | x :: r, acc, k, hg, hk, hb, hn => by
    have h1 := hg x (by simp)
    have hne := put_ne h1 (catI r)
    simp only [catI] at hk hb ⊢
    obtain ⟨e1, e2, e3, e4⟩ := get_cat h1 (catI r) hb
    cases k with
    | zero => exact absurd (List.eq_nil_of_length_eq_zero (by omega)) hne
    | succ k =>
      have hlt := getR2_lt hne
      rw [e4] at hlt
      rw [alF, if_neg hne, if_pos e1, e2, e3, e4]
      simp only [List.length_cons] at hn
      rw [if_neg (by omega)]
      rw [alF_catI r (acc ++ [(x.1, x.2)]) k (fun y hy => hg y (by simp [hy])) (by omega) (by omega) (by rw [List.length_append]; simp; omega)]
      simp
theorem all_catI {L : List IT} (hg : ∀ x ∈ L, goodI x) (hb : (catI L).length ≤ 1099511627776) (hn : L.length ≤ 64) : allI (catI L) = L ∧ allE (catI L) = 0 := by
  have := alF_catI L [] (catI L).length hg (Nat.le_refl _) hb (by simpa using hn)
  unfold allI allE
  rw [this]; exact ⟨rfl, rfl⟩
theorem get_good {s : List UInt8} (h : getE2 s = 0) (hl : s.length ≤ 1099511627776) : goodI (getT2 s, getX2 s) ∧ putB (getT2 s) (getX2 s) ++ getR2 s = s := by
  obtain ⟨e1, e2, e3, e4⟩ := get2_eq hl
  rw [e1] at h
  obtain ⟨a, b, c⟩ := get_put h
  rw [e2, e3, e4]
  exact ⟨⟨a, b⟩, c⟩
theorem getR2_len (s : List UInt8) : (getR2 s).length ≤ s.length := by
  unfold getR2
  split
  · simp only [List.length_drop]; omega
  · exact Nat.zero_le _
theorem getX2_len (s : List UInt8) : (getX2 s).length ≤ s.length := by
  unfold getX2
  split
  · simp only [List.length_take, List.length_drop]; omega
  · exact Nat.zero_le _
theorem alF_inv : ∀ (k : Nat) (s : List UInt8) (acc L : List IT), s.length ≤ k → s.length ≤ 1099511627776 → alF k s acc = (L, 0) → ∃ M, L = acc ++ M ∧ s = catI M ∧ ∀ x ∈ M, goodI x
  | 0, s, acc, L, hk, _, h => by
    have : s = [] := List.eq_nil_of_length_eq_zero (by omega)
    rw [alF] at h
    cases h
    exact ⟨[], by simp, this, by simp⟩
  | k + 1, s, acc, L, hk, hb, h => by
    rw [alF] at h
    by_cases hs : s = []
    · rw [if_pos hs] at h
      cases h
      exact ⟨[], by simp, hs, by simp⟩
    · rw [if_neg hs] at h
      by_cases h0 : getE2 s = 0
      · rw [if_pos h0] at h
        by_cases ha : acc.length = 64
        · rw [if_pos ha] at h; simp at h
        · rw [if_neg ha] at h
          have hlt := getR2_lt hs
          obtain ⟨M, m1, m2, m3⟩ := alF_inv k (getR2 s) _ L (by omega) (by omega) h
          obtain ⟨g1, g2⟩ := get_good h0 hb
          refine ⟨(getT2 s, getX2 s) :: M, by rw [m1]; simp, ?_, fun x hx => ?_⟩
          · simp only [catI]; rw [← m2, g2]
          · rcases List.mem_cons.1 hx with rfl | hx
            · exact g1
            · exact m3 x hx
      · rw [if_neg h0] at h
        injection h with _ h
        exact absurd h h0
theorem all_inv {s : List UInt8} (hb : s.length ≤ 1099511627776) (h : allE s = 0) : s = catI (allI s) ∧ ∀ x ∈ allI s, goodI x := by
  obtain ⟨M, m1, m2, m3⟩ := alF_inv s.length s [] (allI s) (Nat.le_refl _) hb (by rw [all_eq s, h])
  rw [List.nil_append] at m1
  rw [m1]; exact ⟨m2, m3⟩
theorem only_put {t : Int} {x : List UInt8} (h : goodI (t, x)) (hl : (putB t x).length ≤ 1099511627776) : onlyB (putB t x) t = true ∧ getX2 (putB t x) = x := by
  have := get_cat h [] (by simpa using hl)
  simp only [List.append_nil] at this
  obtain ⟨a, b, c, d⟩ := this
  unfold onlyB
  rw [a, b, c, d]
  exact ⟨by simp, rfl⟩
theorem only_inv {s : List UInt8} {t : Int} (hb : s.length ≤ 1099511627776) (h : onlyB s t = true) : s = putB t (getX2 s) ∧ goodI (t, getX2 s) := by
  unfold onlyB at h
  simp only [Bool.and_eq_true] at h
  have h1 : getE2 s = 0 := by simpa using h.1
  have h2 : getR2 s = [] := by simpa using h.2.1
  have h3 : getT2 s = t := by simpa using h.2.2
  obtain ⟨g1, g2⟩ := get_good h1 hb
  rw [h2, List.append_nil, h3] at g2
  rw [h3] at g1
  exact ⟨g2.symm, g1⟩
theorem sizeE_nn (s : List UInt8) : 0 ≤ sizeE s := by
  unfold sizeE sizeA
  (repeat' split) <;> simp
theorem getE2_nn (s : List UInt8) : 0 ≤ getE2 s := by
  cases s with
  | nil => simp [getE2]
  | cons t r =>
    have := sizeE_nn r
    simp only [getE2]
    (repeat' split) <;> omega
theorem alF_nn : ∀ (k : Nat) (s : List UInt8) (acc : List IT), 0 ≤ (alF k s acc).2
  | 0, s, acc => by rw [alF]; exact Int.le_refl 0
  | k + 1, s, acc => by
    rw [alF]
    split
    · exact Int.le_refl 0
    · split
      · split
        · simp
        · exact alF_nn k _ _
      · exact getE2_nn s
theorem allE_nn (s : List UInt8) : 0 ≤ allE s := alF_nn _ _ _
theorem readE_nn (s : List UInt8) : 0 ≤ readE s := by
  unfold readE
  (repeat' split) <;> simp
theorem rbE_nn (s : List UInt8) : 0 ≤ rbE s := by
  unfold rbE
  split <;> simp
theorem m2_le (x y : Int) : x ≤ m2 x y ∧ y ≤ m2 x y := by
  unfold m2; split <;> omega
theorem m2_zero : m2 0 0 = 0 := by unfold m2; simp
theorem tags_ok : okTag 48 = true ∧ okTag 4 = true ∧ okTag 130 = true ∧ okTag 2 = true ∧ okTag 1 = true := by decide
theorem good_of {t : Int} {x : List UInt8} (ht : okTag t = true) (h1 : ¬ t % 32 = 31) (h2 : x.length ≤ 65535) : goodI (t, x) := by
  refine ⟨ht, ?_⟩
  unfold putE
  rw [if_neg h1, if_neg (by simp only; omega)]
theorem names_cat : ∀ l : List (List UInt8), (l.map nameB).flatten = catI (l.map fun s => ((130 : Int), s))
  | [] => rfl
  | s :: r => by simp only [List.map_cons, List.flatten_cons, catI, names_cat r]; rfl
theorem cat_names : ∀ L : List IT, L.all (fun y => y.1 == 130) = true → catI L = ((L.map (·.2)).map nameB).flatten
  | [], _ => rfl
  | x :: r, h => by
    simp only [List.all_cons, Bool.and_eq_true] at h
    have h1 : x.1 = 130 := by simpa using h.1
    simp only [catI, List.map_cons, List.flatten_cons, cat_names r h.2, nameB, h1]
theorem mayC_spec {k g : List UInt8} {f u : Int} (h : mayC k g f u = true) : k ≠ [] ∧ k.length ≤ 64 ∧ g.length = 32 ∧ 0 ≤ f ∧ f ≤ 1099511627776 ∧ 0 ≤ u ∧ u ≤ 1099511627776 := by
  unfold mayC at h
  simp only [Bool.and_eq_true, decide_eq_true_eq, beq_iff_eq] at h
  refine ⟨fun e => by subst e; simp at h, by omega, by omega, by omega, by omega, by omega, by omega⟩
theorem spki_may {k : List UInt8} (h0 : k ≠ []) (h1 : k.length ≤ 64) : spkiB k = putB 48 (putB 4 k) := by
  unfold spkiB; rw [if_neg h0, if_neg (by omega)]
/-- The six things of a certificate. -/
def sixI (k g : List UInt8) (l : List (List UInt8)) (f u : Int) (ca : Bool) : List IT := [(48, putB 4 k), (4, g), (48, (l.map nameB).flatten), (2, intL f), (2, intL u), (1, boolS ca)]
theorem encIn_cat {k g : List UInt8} {l : List (List UInt8)} {f u : Int} {ca : Bool} (h0 : k ≠ []) (h1 : k.length ≤ 64) : encIn k g l f u ca = catI (sixI k g l f u ca) := by
  unfold encIn sixI
  rw [spki_may h0 h1]
  simp only [catI, List.flatten_cons, List.flatten_nil, List.append_nil]
theorem bool_back (ca : Bool) : (boolS ca == [255]) = ca ∧ rbE (boolS ca) = 0 := by cases ca <;> exact ⟨rfl, rfl⟩
theorem enc_ok {k g : List UInt8} {l : List (List UInt8)} {f u : Int} {ca : Bool} (h : encE k g l f u ca = 0) : encOk k g l f u = true ∧ encB k g l f u ca = putB 48 (encIn k g l f u ca) ∧ (encB k g l f u ca).length ≤ 512 := by
  unfold encE at h
  cases ho : encOk k g l f u with
  | false => rw [ho] at h; simp at h
  | true =>
    rw [ho, cond_true] at h
    cases hd : decide (((putB 48 (encIn k g l f u ca)).length : Int) > 512) with
    | true => rw [hd] at h; simp at h
    | false =>
      have := of_decide_eq_false hd
      refine ⟨rfl, ?_, ?_⟩
      · unfold encB; rw [ho, hd]; rfl
      · unfold encB; rw [ho, hd]
        simp only [cond_true, cond_false]; omega
theorem encOk_spec {k g : List UInt8} {l : List (List UInt8)} {f u : Int} (h : encOk k g l f u = true) : mayC k g f u = true ∧ l.all patN = true ∧ l.length ≤ 64 := by
  unfold encOk at h
  simp only [Bool.and_eq_true, decide_eq_true_eq] at h
  exact ⟨h.1.1, h.1.2, by omega⟩
theorem six_good {k g : List UInt8} {l : List (List UInt8)} {f u : Int} {ca : Bool} (h : encOk k g l f u = true) (hb : (encIn k g l f u ca).length ≤ 65535) : (∀ x ∈ sixI k g l f u ca, goodI x) ∧ (∀ x ∈ l.map (fun s => ((130 : Int), s)), goodI x) := by
  obtain ⟨h1, h2, h3⟩ := encOk_spec h
  obtain ⟨c1, c2, c3, c4, c5, c6, c7⟩ := mayC_spec h1
  obtain ⟨t1, t2, t3, t4, t5⟩ := tags_ok
  have p4 := putB_le 4 k
  have hf8 := intL_le f
  have hu8 := intL_le u
  have hca : (boolS ca).length ≤ 1 := by cases ca <;> exact Nat.le_refl _
  have hN : (l.map nameB).flatten.length ≤ 65535 := by
    have := flat_len (l.map nameB) 300 (fun s hs => by
      obtain ⟨t, ht, rfl⟩ := List.mem_map.1 hs
      have := pat_len (List.all_eq_true.1 h2 t ht)
      have b := putB_le 130 t
      unfold nameB; omega)
    rw [List.length_map] at this
    have : l.length * 300 ≤ 64 * 300 := Nat.mul_le_mul_right _ h3
    omega
  constructor
  · intro x hx
    simp only [sixI, List.mem_cons, List.not_mem_nil, or_false] at hx
    rcases hx with rfl | rfl | rfl | rfl | rfl | rfl
    · exact good_of t1 (by decide) (by omega)
    · exact good_of t2 (by decide) (by omega)
    · exact good_of t1 (by decide) hN
    · exact good_of t4 (by decide) (by omega)
    · exact good_of t4 (by decide) (by omega)
    · exact good_of t5 (by decide) (by omega)
  · intro x hx
    obtain ⟨s, hs, rfl⟩ := List.mem_map.1 hx
    have := pat_len (List.all_eq_true.1 h2 s hs)
    exact good_of t3 (by decide) (by omega)
theorem putB_ge {t : Int} {x : List UInt8} (h : putE t x = 0) : x.length ≤ (putB t x).length := by
  unfold putE at h
  unfold putB
  by_cases h1 : t % 32 = 31
  · rw [if_pos h1] at h; simp at h
  · rw [if_neg h1] at h ⊢
    by_cases h2 : x.length > 65535
    · rw [if_pos h2] at h; simp at h
    · rw [if_neg h2]; simp; omega
theorem enc_len {k g : List UInt8} {l : List (List UInt8)} {f u : Int} {ca : Bool} (h : encE k g l f u ca = 0) : (encIn k g l f u ca).length ≤ 512 := by
  obtain ⟨h1, h2, h3⟩ := enc_ok h
  obtain ⟨m1, m2, m3⟩ := encOk_spec h1
  rw [h2] at h3
  by_cases hp : putE 48 (encIn k g l f u ca) = 0
  · have := putB_ge hp; omega
  · exfalso
    have hx : (encIn k g l f u ca).length > 65535 := by
      unfold putE at hp
      rw [if_neg (by decide)] at hp
      by_cases h2 : (encIn k g l f u ca).length > 65535
      · exact h2
      · rw [if_neg h2] at hp; exact absurd rfl hp
    obtain ⟨c1, c2, c3, c4, c5, c6, c7⟩ := mayC_spec m1
    have hsp := spki_may c1 c2
    have q1 := putB_le 4 k
    have q2 := putB_le 48 (putB 4 k)
    have q3 := putB_le 4 g
    have q4 := putB_le 2 (intL f)
    have q5 := putB_le 2 (intL u)
    have q6 := putB_le 1 (boolS ca)
    have q7 := putB_le 48 (l.map nameB).flatten
    have hf8 := intL_le f
    have hu8 := intL_le u
    have hca : (boolS ca).length ≤ 1 := by cases ca <;> exact Nat.le_refl _
    have := flat_len (l.map nameB) 300 (fun s hs => by
      obtain ⟨t, ht, rfl⟩ := List.mem_map.1 hs
      have := pat_len (List.all_eq_true.1 m2 t ht)
      have b := putB_le 130 t
      unfold nameB; omega)
    rw [List.length_map] at this
    have : l.length * 300 ≤ 64 * 300 := Nat.mul_le_mul_right _ m3
    unfold encIn at hx
    rw [hsp] at hx
    simp only [List.flatten_cons, List.flatten_nil, List.length_append, List.length_nil] at hx
    omega
/-- What was encoded is decoded as it was. -/
theorem enc_dec {k g : List UInt8} {l : List (List UInt8)} {f u : Int} {ca : Bool} (h : encE k g l f u ca = 0) : decR (encB k g l f u ca) = some ⟨k, g, l, f, u, ca⟩ := by
  obtain ⟨h1, h2, h3⟩ := enc_ok h
  obtain ⟨m1, m2, m3⟩ := encOk_spec h1
  obtain ⟨c1, c2, c3, c4, c5, c6, c7⟩ := mayC_spec m1
  have hin := enc_len h
  obtain ⟨g1, g2⟩ := six_good (ca := ca) h1 (by omega)
  have hgE : goodI (48, encIn k g l f u ca) := good_of tags_ok.1 (by decide) (by omega)
  rw [h2] at h3 ⊢
  obtain ⟨o1, o2⟩ := only_put hgE (by omega)
  have hcat := encIn_cat (g := g) (l := l) (f := f) (u := u) (ca := ca) c1 c2
  obtain ⟨a1, a2⟩ := all_catI g1 (by rw [← hcat]; omega) (by simp [sixI])
  have hk : goodI (4, k) := good_of tags_ok.2.1 (by decide) (by omega)
  obtain ⟨k1, k2⟩ := only_put hk (by have := putB_le 4 k; omega)
  have hnl : (l.map nameB).flatten.length ≤ 512 := by
    have : (l.map nameB).flatten.length ≤ (encIn k g l f u ca).length := by
      have hg3 : (l.map nameB).flatten.length ≤ (putB 48 (l.map nameB).flatten).length := putB_ge (g1 (48, (l.map nameB).flatten) (by simp [sixI])).2
      unfold encIn
      simp only [List.flatten_cons, List.flatten_nil, List.length_append, List.length_nil]
      omega
    omega
  obtain ⟨n1, n2⟩ := all_catI g2 (by rw [← names_cat]; omega) (by rw [List.length_map]; exact m3)
  obtain ⟨r1, r2⟩ := read_int (n := f) (by omega) (by omega)
  obtain ⟨r3, r4⟩ := read_int (n := u) (by omega) (by omega)
  obtain ⟨b1, b2⟩ := bool_back ca
  have hmap : (l.map fun s => ((130 : Int), s)).map (·.2) = l := by rw [List.map_map]; simp [Function.comp_def]
  have hall : (l.map fun s => ((130 : Int), s)).all (fun y => y.1 == 130) = true := by rw [List.all_eq_true]; intro y hy; obtain ⟨s, _, rfl⟩ := List.mem_map.1 hy; rfl
  unfold decR
  rw [decide_eq_false (by omega), cond_false]
  unfold decC
  rw [o1, o2, hcat, a1, a2]
  have e0 : ((0 : Int) != 0) = false := rfl
  rw [e0, cond_true, cond_false]
  unfold sixI decT
  simp only
  rw [k1, k2, names_cat, n1, n2, r1, r3, b2, m2_zero, m2_zero, m2_zero, e0, hall, hmap, r2, r4, m1, m2, b1]
  rfl
theorem bif_e {α : Type} {b : Bool} {x y : Option α} {z : Option α} (h : (bif b then x else y) = z) : (b = true ∧ x = z) ∨ (b = false ∧ y = z) := by
  cases b with
  | true => exact .inl ⟨rfl, h⟩
  | false => exact .inr ⟨rfl, h⟩
/-- What is decoded, encoded, is the bytes. -/
theorem dec_enc {s : List UInt8} {c : CD} (h : decR s = some c) : encE c.k c.g c.l c.f c.u c.ca = 0 ∧ encB c.k c.g c.l c.f c.u c.ca = s ∧ (mayC c.k c.g c.f c.u && c.l.all patN) = true ∧ s.length ≤ 512 ∧ c.l.length ≤ 64 := by
  unfold decR at h
  cases hl : decide ((s.length : Int) > 512) with
  | true => rw [hl] at h; cases h
  | false =>
  rw [hl, cond_false] at h
  have hl := of_decide_eq_false hl
  have hs : s.length ≤ 512 := by omega
  unfold decC at h
  cases ho : onlyB s 48 with
  | false => rw [ho] at h; cases h
  | true =>
  rw [ho, cond_true] at h
  cases hE : (allE (getX2 s) != 0) with
  | true => rw [hE] at h; cases h
  | false =>
  rw [hE, cond_false] at h
  have hE : allE (getX2 s) = 0 := by simpa using hE
  obtain ⟨o1, o2⟩ := only_inv (by omega) ho
  have hx := getX2_len s
  obtain ⟨i1, i2⟩ := all_inv (by omega) hE
  unfold decT at h
  split at h
  · rename_i x0 x1 x2 x3 x4 x5 hI
    rw [hI] at i1 i2
    rcases bif_e h with ⟨t, h⟩ | ⟨_, h⟩
    rotate_left
    · cases h
    simp only [Bool.and_eq_true, beq_iff_eq] at t
    rcases bif_e h with ⟨hk, h⟩ | ⟨_, h⟩
    rotate_left
    · cases h
    rcases bif_e h with ⟨_, h⟩ | ⟨hm, h⟩
    · cases h
    rcases bif_e h with ⟨ha, h⟩ | ⟨_, h⟩
    rotate_left
    · cases h
    rcases bif_e h with ⟨hmay, h⟩ | ⟨_, h⟩
    rotate_left
    · cases h
    injection h with h
    subst h
    have hm : m2 (m2 (m2 (allE x2.2) (readE x3.2)) (readE x4.2)) (rbE x5.2) = 0 := by simpa using hm
    have l1 := m2_le (m2 (m2 (allE x2.2) (readE x3.2)) (readE x4.2)) (rbE x5.2)
    have l2 := m2_le (m2 (allE x2.2) (readE x3.2)) (readE x4.2)
    have l3 := m2_le (allE x2.2) (readE x3.2)
    have n1 := allE_nn x2.2
    have n2 := readE_nn x3.2
    have n3 := readE_nn x4.2
    have n4 := rbE_nn x5.2
    have z1 : allE x2.2 = 0 := by omega
    have z2 : readE x3.2 = 0 := by omega
    have z3 : readE x4.2 = 0 := by omega
    have z4 : rbE x5.2 = 0 := by omega
    have hlen : (getX2 s).length ≤ 512 := by omega
    rw [i1] at hlen
    have g0 := putB_ge (i2 x0 (by simp)).2
    have g2 := putB_ge (i2 x2 (by simp)).2
    simp only [catI, List.length_append] at hlen
    obtain ⟨k1, k2⟩ := only_inv (s := x0.2) (by omega) hk
    obtain ⟨j1, j2⟩ := all_inv (s := x2.2) (by omega) z1
    rw [Bool.and_eq_true] at hmay
    obtain ⟨c1, c2, c3, c4, c5, c6, c7⟩ := mayC_spec hmay.1
    have hca : boolS (x5.2 == [255]) = x5.2 := by
      unfold rbE at z4
      by_cases hq : x5.2 = [255] ∨ x5.2 = [0]
      · rcases hq with hq | hq <;> rw [hq] <;> rfl
      · rw [if_neg hq] at z4; simp at z4
    have hin : encIn (getX2 x0.2) x1.2 ((allI x2.2).map (·.2)) (readN x3.2) (readN x4.2) (x5.2 == [255]) = getX2 s := by
      rw [encIn_cat c1 c2, i1]
      unfold sixI
      rw [← k1, ← cat_names _ ha, ← j1, read_back z2, read_back z3, hca]
      simp only [catI]
      rw [t.1, t.2.1, t.2.2.1, t.2.2.2.1, t.2.2.2.2.1, t.2.2.2.2.2]
    have hok : encOk (getX2 x0.2) x1.2 ((allI x2.2).map (·.2)) (readN x3.2) (readN x4.2) = true := by
      unfold encOk
      rw [hmay.1, hmay.2, Bool.true_and]
      have := all_small x2.2
      exact decide_eq_true (by rw [List.length_map]; omega)
    have hlen2 : decide (((putB 48 (getX2 s)).length : Int) > 512) = false := by rw [← o1]; exact decide_eq_false (by omega)
    refine ⟨?_, ?_, ?_, hs, ?_⟩
    · unfold encE; rw [hok, hin, hlen2]; rfl
    · unfold encB; rw [hok, hin, hlen2]
      show putB 48 (getX2 s) = s
      exact o1.symm
    · simp only [hmay.1, hmay.2]; rfl
    · simp only [List.length_map]; exact all_small x2.2
  · cases h
/-- No proper beginning of one's bytes are one's. -/
theorem enc_cut {k g : List UInt8} {l : List (List UInt8)} {f u : Int} {ca : Bool} (h : encE k g l f u ca = 0) {j : Nat} (hj : j < (encB k g l f u ca).length) : decE ((encB k g l f u ca).take j) = 4 := by
  obtain ⟨h1, h2, h3⟩ := enc_ok h
  have hin := enc_len h
  have hgE : goodI (48, encIn k g l f u ca) := good_of tags_ok.1 (by decide) (by omega)
  rw [h2] at hj h3 ⊢
  have hc := put_cut hgE.1 hgE.2 j hj
  have hlen : ((putB 48 (encIn k g l f u ca)).take j).length ≤ 512 := by rw [List.length_take]; omega
  have hE : getE2 ((putB 48 (encIn k g l f u ca)).take j) = 8 := by rw [(get2_eq (by omega)).1]; exact hc
  unfold decE decC onlyB
  rw [decide_eq_false (by omega), hE]
  rfl
/-- Nor these with something behind. -/
theorem enc_more {k g : List UInt8} {l : List (List UInt8)} {f u : Int} {ca : Bool} (h : encE k g l f u ca = 0) {more : List UInt8} (hm : more ≠ []) (hl : more.length ≤ 300) : decE (encB k g l f u ca ++ more) ≠ 0 := by
  obtain ⟨h1, h2, h3⟩ := enc_ok h
  have hin := enc_len h
  have hgE : goodI (48, encIn k g l f u ca) := good_of tags_ok.1 (by decide) (by omega)
  rw [h2] at h3 ⊢
  have := get_cat hgE more (by rw [List.length_append]; simp only; omega)
  have hR : (getR2 (putB 48 (encIn k g l f u ca) ++ more) == []) = false := by
    rw [this.2.2.2]
    cases more with
    | nil => exact absurd rfl hm
    | cons a r => rfl
  unfold decE decC onlyB
  rw [hR]
  cases decide (((putB 48 (encIn k g l f u ca) ++ more).length : Int) > 512) with
  | true => simp
  | false => simp
end Go.Proofs.Ytpjopdemhkcifaa
