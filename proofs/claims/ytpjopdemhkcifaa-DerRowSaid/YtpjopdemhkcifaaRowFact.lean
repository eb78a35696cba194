/- DerRow: what All comes to, of things one behind the other, and of a beginning of them. -/
import Derived.Test.YtpjopdemhkcifaaRowLaw
namespace Go.Proofs.Ytpjopdemhkcifaa
open Go Go.Vm Go.RowKit
set_option linter.unusedVariables false
theorem cellsI_inj : ∀ {a b : List IT}, cellsI a = cellsI b → a = b
  | [], [], _ => rfl
  | [], y :: r, h => by simp [cellsI] at h
  | x :: r, [], h => by simp [cellsI] at h
  | (x1, x2) :: r, (y1, y2) :: q, h => by
    simp only [cellsI, List.cons.injEq, V.int.injEq, V.str.injEq, true_and] at h
    rw [h.1, h.2.1, cellsI_inj h.2.2]
theorem cellsI_shift (k : Nat) : ∀ a : List IT, shiftL k (cellsI a) = cellsI a
  | [] => rfl
  | x :: r => by simp only [cellsI, shiftL, V.shift, cellsI_shift k r]
theorem goodX_pos {x : IT} (h : goodX x) : 0 < (putB x.1 x.2).length := by
  have h1 := h.1
  cases hp : putB x.1 x.2 with
  | nil => exact absurd (put_none.2 hp) (by simp [h1])
  | cons a r => simp
/-- One thing ahead is told. -/
theorem alF_put {x : IT} (hg : goodX x) (ht : okTag x.1 = true) (s : List UInt8) (hs : (putB x.1 x.2 ++ s).length ≤ 1099511627776) (acc : List IT) :
    alF (putB x.1 x.2 ++ s).length (putB x.1 x.2 ++ s) acc = if acc.length = 64 then ([], 40) else alF s.length s (acc ++ [x]) := by
  have hp := goodX_pos hg
  have hn : putB x.1 x.2 ++ s ≠ [] := by
    intro e; rw [List.append_eq_nil_iff] at e; rw [e.1] at hp; simp at hp
  have g := put_get (s := s) ht hg.1
  have q := get2_eq hs
  have h0 : getE2 (putB x.1 x.2 ++ s) = 0 := q.1.trans g.1
  split
  · rename_i h; exact alF_full hn h0 h
  · rename_i h
    rw [alF_step hn h0 h, q.2.1, q.2.2.1, q.2.2.2, g.2.1, g.2.2.1, g.2.2.2]
theorem alF_cat : ∀ (L acc : List IT), (∀ x ∈ L, goodX x) → (∀ x ∈ L, okTag x.1 = true) → (catP L).length ≤ 1099511627776 → acc.length ≤ 64 →
    alF (catP L).length (catP L) acc = if acc.length + L.length ≤ 64 then (acc ++ L, 0) else ([], 40)
  | [], acc, _, _, _, ha => by
    rw [if_pos (by simpa using ha)]
    simp [catP, alF]
  | x :: r, acc, hg, ht, hl, ha => by
    simp only [catP] at hl ⊢
    rw [alF_put (hg x List.mem_cons_self) (ht x List.mem_cons_self) _ hl]
    have hl2 : (catP r).length ≤ 1099511627776 := by rw [List.length_append] at hl; omega
    split
    · rename_i h
      rw [if_neg (by simp only [List.length_cons]; omega)]
    · rename_i h
      rw [alF_cat r (acc ++ [x]) (fun y hy => hg y (List.mem_cons_of_mem _ hy)) (fun y hy => ht y (List.mem_cons_of_mem _ hy)) hl2 (by simp only [List.length_append, List.length_cons, List.length_nil]; omega)]
      simp only [List.length_append, List.length_cons, List.length_nil, List.append_assoc, List.singleton_append]
      congr 1
      apply propext
      omega
/-- An end of a thing, or the beginning. -/
def wholeP : List IT → Nat → Prop
  | [], m => m = 0
  | x :: r, m => m = 0 ∨ ((putB x.1 x.2).length ≤ m ∧ wholeP r (m - (putB x.1 x.2).length))
theorem wholeP_zero : ∀ L, wholeP L 0
  | [] => rfl
  | x :: r => Or.inl rfl
theorem alF_cut : ∀ (L acc : List IT) (m : Nat), (∀ x ∈ L, goodX x) → (∀ x ∈ L, okTag x.1 = true) → (catP L).length ≤ 1099511627776 → acc.length + L.length ≤ 64 → m ≤ (catP L).length →
    (wholeP L m → (alF ((catP L).take m).length ((catP L).take m) acc).2 = 0) ∧ (¬ wholeP L m → (alF ((catP L).take m).length ((catP L).take m) acc).2 = 8)
  | [], acc, m, _, _, _, ha, hm => by
    simp only [catP, List.length_nil] at hm
    refine ⟨fun _ => by simp [catP, alF], fun h => absurd (show wholeP [] m from by simp only [wholeP]; omega) h⟩
  | x :: r, acc, m, hg, ht, hl, ha, hm => by
    simp only [catP] at hl hm ⊢
    have gx := hg x List.mem_cons_self
    have tx := ht x List.mem_cons_self
    have hp := goodX_pos gx
    have hl2 : (catP r).length ≤ 1099511627776 := by rw [List.length_append] at hl; omega
    have hl3 : (putB x.1 x.2).length ≤ 1099511627776 := by rw [List.length_append] at hl; omega
    simp only [List.length_cons] at ha
    by_cases hz : m = 0
    · subst hz
      refine ⟨fun _ => by simp [alF], fun h => absurd (wholeP_zero _) h⟩
    · by_cases hlt : m < (putB x.1 x.2).length
      · have e : (putB x.1 x.2 ++ catP r).take m = (putB x.1 x.2).take m := List.take_append_of_le_length (by omega)
        have hn : (putB x.1 x.2).take m ≠ [] := by
          intro e
          have := congrArg List.length e
          rw [List.length_take, List.length_nil] at this
          omega
        have h8 : getE2 ((putB x.1 x.2).take m) = 8 := by
          rw [(get2_eq (s := (putB x.1 x.2).take m) (by rw [List.length_take]; omega)).1]
          exact put_cut tx gx.1 m hlt
        rw [e, alF_err hn (by rw [h8]; omega), h8]
        refine ⟨fun h => ?_, fun _ => rfl⟩
        simp only [wholeP] at h
        rcases h with h | h
        · exact absurd h hz
        · exact absurd h.1 (by omega)
      · have e : (putB x.1 x.2 ++ catP r).take m = putB x.1 x.2 ++ (catP r).take (m - (putB x.1 x.2).length) := by
          rw [List.take_append, List.take_of_length_le (by omega)]
        rw [e, alF_put gx tx _ (by rw [List.length_append] at hl ⊢; rw [List.length_take]; omega), if_neg (by omega)]
        have ih := alF_cut r (acc ++ [x]) (m - (putB x.1 x.2).length) (fun y hy => hg y (List.mem_cons_of_mem _ hy)) (fun y hy => ht y (List.mem_cons_of_mem _ hy)) hl2 (by simp only [List.length_append, List.length_cons, List.length_nil]; omega) (by rw [List.length_append] at hm; omega)
        refine ⟨fun h => ih.1 ?_, fun h => ih.2 fun h2 => h ?_⟩
        · simp only [wholeP] at h
          rcases h with h | h
          · exact absurd h hz
          · exact h.2
        · exact Or.inr ⟨by omega, h2⟩
theorem wholeP_iff : ∀ (L : List IT) (m : Nat), wholeP L m ↔ (m = 0 ∨ ∃ j, j < L.length ∧ (catP (L.take (j + 1))).length = m)
  | [], m => by simp [wholeP]
  | x :: r, m => by
    simp only [wholeP, wholeP_iff r]
    constructor
    · rintro (h | ⟨h, h2 | ⟨j, hj, h2⟩⟩)
      · exact Or.inl h
      · refine Or.inr ⟨0, by simp, ?_⟩
        simp only [Nat.zero_add, List.take_succ_cons, List.take_zero, catP, List.append_nil]
        omega
      · refine Or.inr ⟨j + 1, by simpa using hj, ?_⟩
        rw [List.take_succ_cons]
        simp only [catP, List.length_append]
        omega
    · rintro (h | ⟨j, hj, h⟩)
      · exact Or.inl h
      · refine Or.inr ?_
        cases j with
        | zero =>
          simp only [Nat.zero_add, List.take_succ_cons, List.take_zero, catP, List.append_nil] at h
          exact ⟨by omega, Or.inl (by omega)⟩
        | succ j =>
          rw [List.take_succ_cons] at h
          simp only [catP, List.length_append] at h
          refine ⟨by omega, Or.inr ⟨j, by simpa using hj, by omega⟩⟩
theorem any_iff (L : List IT) (m : Nat) : anyE (m : Int) (endsI L L.length) ((m : Int) == 0) 0 = true ↔ wholeP L m := by
  rw [wholeP_iff]
  unfold anyE
  rw [Bool.or_eq_true, List.drop_zero, List.any_eq_true]
  constructor
  · rintro (h | ⟨v, hv, h⟩)
    · exact Or.inl (by have := beq_iff_eq.1 h; omega)
    · unfold endsI at hv
      rw [List.mem_map] at hv
      obtain ⟨j, hj, rfl⟩ := hv
      have h := beq_iff_eq.1 h
      simp only [intOfV] at h
      exact Or.inr ⟨j, List.mem_range.1 hj, by omega⟩
  · rintro (h | ⟨j, hj, h⟩)
    · exact Or.inl (by rw [h]; rfl)
    · refine Or.inr ⟨.int .i64 ((catP (L.take (j + 1))).length : Int), ?_, ?_⟩
      · unfold endsI
        rw [List.mem_map]
        exact ⟨j, List.mem_range.2 hj, rfl⟩
      · simp only [intOfV, h]
        exact beq_self_eq_true _
/-- What is known of things one behind the other. -/
structure CatOk (L : List IT) : Prop where
  good : ∀ x ∈ L, goodX x
  tags : ∀ x ∈ L, okTag x.1 = true
  few : L.length ≤ 80
theorem CatOk.len {L : List IT} (h : CatOk L) : (catP L).length ≤ 160320 := by
  have := catP_len L h.good
  have := h.few
  omega
theorem CatOk.len2 {L : List IT} (h : CatOk L) : (catP L).length ≤ 1099511627776 := Nat.le_trans h.len (by decide)
theorem CatOk.all {L : List IT} (h : CatOk L) (hn : L.length ≤ 64) : allI (catP L) = L ∧ allE (catP L) = 0 := by
  have e := alF_cat L [] h.good h.tags h.len2 (by simp)
  rw [if_pos (by simpa using hn)] at e
  unfold allI allE
  rw [e]
  exact ⟨rfl, rfl⟩
theorem CatOk.many {L : List IT} (h : CatOk L) (hn : ¬ L.length ≤ 64) : allI (catP L) = [] ∧ allE (catP L) = 40 := by
  have e := alF_cat L [] h.good h.tags h.len2 (by simp)
  rw [if_neg (by simpa using hn)] at e
  unfold allI allE
  rw [e]
  exact ⟨rfl, rfl⟩
theorem CatOk.cut {L : List IT} (h : CatOk L) (hn : L.length ≤ 64) {m : Nat} (hm : m ≤ (catP L).length) :
    (wholeP L m → allE ((catP L).take m) = 0) ∧ (¬ wholeP L m → allE ((catP L).take m) = 8) :=
  alF_cut L [] m h.good h.tags h.len2 (by simpa using hn) hm
end Go.Proofs.Ytpjopdemhkcifaa
