/- DerRow: every way through the law's tree ends in true. -/
import Derived.Test.YtpjopdemhkcifaaRowTree
import Derived.Test.YtpjopdemhkcifaaRowFact
namespace Go.Proofs.Ytpjopdemhkcifaa
open Go Go.Vm Go.RowKit
set_option linter.unusedVariables false
theorem rl_leaf {R : V → Prop} (hR : R (.bool true)) {e : Int} {W : Bool} (h1 : W = true → e = 0) (h2 : W = false → e = 8) :
    (bif (e == 0) == W then bif W then R (V.bool true) else R (V.bool (e == 8)) else R (V.bool false)) := by
  cases W with
  | true => rw [h1 rfl]; exact hR
  | false => rw [h2 rfl]; exact hR
theorem rl_same {A : Prop} (h : A) (b : Bool) : (bif b then A else A) := by cases b <;> exact h
theorem rl_at (at_ : Int) {k : Nat} (hk : k ≤ 160320) :
    (!IntKind.u64.wrap (IntKind.i64.wrap ((k : Int) + 1)) == 0) = true ∧ ∃ m : Nat, m ≤ k ∧ IntKind.i64.wrap ((IntKind.u64.wrap at_).tmod (IntKind.u64.wrap (IntKind.i64.wrap ((k : Int) + 1)))) = (m : Int) := by
  have e1 : IntKind.i64.wrap ((k : Int) + 1) = (k : Int) + 1 := IntWalk.i64_in _ ⟨by omega, by omega⟩
  have e2 : IntKind.u64.wrap ((k : Int) + 1) = (k : Int) + 1 := IntWalk.u64_in _ ⟨by omega, by omega⟩
  rw [e1, e2]
  have hu : 0 ≤ IntKind.u64.wrap at_ := by rw [IntKind.wrap_u64]; omega
  have h1 := Int.tmod_nonneg ((k : Int) + 1) hu
  have h2 := Int.tmod_lt_of_pos (IntKind.u64.wrap at_) (b := (k : Int) + 1) (by omega)
  refine ⟨?_, ((IntKind.u64.wrap at_).tmod ((k : Int) + 1)).toNat, by omega, ?_⟩
  · cases h : ((k : Int) + 1 == 0) with
    | false => rfl
    | true => have := beq_iff_eq.1 h; omega
  · rw [IntWalk.i64_in _ ⟨by omega, by omega⟩]; omega
/-- What the law says of the beginning of m bytes. -/
theorem CatOk.leaf {L : List IT} (h : CatOk L) (hn : L.length ≤ 64) {m : Nat} (hm : m ≤ (catP L).length) {R : V → Prop} (hR : R (.bool true)) {W : Bool} (hW : W = true ↔ wholeP L m) :
    (bif (allE ((catP L).take m) == 0) == W then bif W then R (V.bool true) else R (V.bool (allE ((catP L).take m) == 8)) else R (V.bool false)) :=
  rl_leaf hR (fun hw => (h.cut hn hm).1 (hW.1 hw)) fun hw => (h.cut hn hm).2 fun hp => by rw [hW.2 hp] at hw; cases hw
theorem row_fin {la : List V} {n : Nat} {at_ : Int} {s : List UInt8} {o : List V} {L : List IT} (hla : la = cellsI L) (hn : n = L.length) (few : L.length ≤ 80) (h : rwEnd ⟨la, n, at_, [], [], 0⟩ s o) :
    s = catP L ∧ o = endsI L L.length ∧ CatOk L := by
  obtain ⟨L2, h1, h2, h3, h4, h5, h6⟩ := h
  have h1 : la = cellsI L2 := h1
  have e : L2 = L := cellsI_inj (h1.symm.trans hla)
  subst e
  exact ⟨h3, h4, h5, h6, few⟩
theorem okIT_cells {L : List IT} (h : L.length ≤ 80) : okIT (cellsI L) L.length = true := okIT_spec.2 ⟨L, rfl, rfl, ⟨by omega⟩⟩
theorem beq_zero {n : Nat} (h : n ≠ 0) : Nat.beq n 0 = false := by
  cases n with
  | zero => exact absurd rfl h
  | succ n => rfl
/-- The law, of a row of things. -/
theorem row_close (L : List IT) (tags : ∀ x ∈ L, okTag x.1 = true) (at_ : Int) (R : V → Prop) (hR : R (.bool true)) : FnSat Try.prog 8 [.slice 0 0 L.length false 0 0, .int .i64 at_] [.ro false (cellsI L)] (fun v _ => R v) := by
  refine lawK_ok ?_
  rw [row_tree]
  refine bif_intro (fun _ => hR) (fun h80 => ?_)
  have few : L.length ≤ 80 := by have := of_decide_eq_false h80; omega
  clear h80
  have hpre : rwPre ⟨cellsI L, L.length, at_, [], [], 0⟩ = true := rwPre_spec.2 ⟨L, ⟨rfl, rfl, Nat.zero_le _, rfl, rfl, (by intro y hy; simp at hy), tags, few⟩⟩
  refine ⟨rw_fits0 L L.length at_ false [] 0, ?_⟩
  rw [hpre, cond_true]
  refine ⟨fun _ _ => hR, fun _ _ _ => hR, ?_, ?_⟩
  · intro s h
    have hs := row_fin rfl rfl few h
    have q1 : s = catP L := hs.1
    have q2 := hs.2.1
    have ok := hs.2.2
    clear h hs
    have hl : L = [] := by
      have := congrArg List.length q2
      rw [endsI_len] at this
      exact List.eq_nil_of_length_eq_zero this.symm
    subst q1 hl
    have a := ok.all (by simp)
    have e1 : allN (catP []) = 0 := by unfold allN; rw [a.1]; rfl
    have ha := rl_at at_ (k := (catP []).length) (by simp [catP])
    have hm := Classical.choose_spec ha.2
    generalize Classical.choose ha.2 = m at hm
    rw [hm.2, ha.1, e1, a.2, okIT_cells (L := []) (by simp)]
    have c0 : decide ((([] : List IT).length : Int) > 64) = false := rfl
    have c1 : decide ((0 : Int) ≤ (m : Int)) = true := decide_eq_true (by omega)
    have c2 : Nat.ble m (catP []).length = true := Nat.ble_eq_true_of_le hm.1
    simp only [Int.toNat_natCast, Nat.sub_zero, List.drop_zero]
    rw [c0, c1, c2]
    have c3 : Nat.beq 0 0 = true := rfl
    have c4 : ((0 : Int) != 0) = false := rfl
    have c5 : Nat.beq ([] : List IT).length 0 = true := rfl
    rw [c3, c4, c5]
    simp only [Bool.and_true, cond_true, cond_false]
    refine rl_same ?_ _
    refine ok.leaf (by simp) hm.1 hR ?_
    simp only [wholeP]
    rw [beq_iff_eq]
    omega
  · intro s o h hne
    have hs := row_fin rfl rfl few h
    have q1 : s = catP L := hs.1
    have q2 : o = endsI L L.length := hs.2.1
    have ok := hs.2.2
    clear h hs
    have hl : L.length ≠ 0 := by
      intro e; apply hne; rw [q2]
      exact List.eq_nil_of_length_eq_zero ((endsI_len _ _).trans e)
    subst q1 q2
    by_cases hn : L.length ≤ 64
    · have a := ok.all hn
      have e1 : allN (catP L) = L.length := by unfold allN; rw [a.1]
      have e2 : allC (catP L) = cellsI L := by unfold allC; rw [a.1]
      have ha := rl_at at_ (k := (catP L).length) ok.len
      have hm := Classical.choose_spec ha.2
      generalize Classical.choose ha.2 = m at hm
      rw [hm.2, ha.1, e1, e2, a.2]
      simp only [cellsI_shift, okIT_cells few, beq_zero hl]
      have c0 : decide ((L.length : Int) > 64) = false := decide_eq_false (by omega)
      have c1 : decide ((0 : Int) ≤ (m : Int)) = true := decide_eq_true (by omega)
      have c2 : Nat.ble m (catP L).length = true := Nat.ble_eq_true_of_le hm.1
      have c3 : eqIT (cellsI L) (cellsI L) L.length L.length = true := eqIT_spec.2 ⟨rfl, rfl, okIT_cells few⟩
      have c4 : ((0 : Int) != 0) = false := rfl
      simp only [Int.toNat_natCast, Nat.sub_zero, List.drop_zero]
      have c5 : enPre ⟨cellsI L, (m : Int), catP L, endsI L L.length, ((m : Int) == 0), 0⟩ = true := enPre_spec.2 ⟨L, L.length, ⟨rfl, rfl, few, Nat.zero_le _⟩⟩
      rw [c0, c1, c2, c3, c4, c5]
      simp only [Bool.and_true, Bool.and_false, cond_true, cond_false]
      refine ⟨en_fits L L.length _ _ _ _ _ _, ?_⟩
      refine rl_same ?_ _
      exact ok.leaf hn hm.1 hR (any_iff L m)
    · have a := ok.many hn
      have e1 : allN (catP L) = 0 := by unfold allN; rw [a.1]; rfl
      rw [e1, a.2]
      have c0 : decide ((L.length : Int) > 64) = true := decide_eq_true (by omega)
      rw [c0]
      exact hR
theorem row_close_nil (at_ : Int) (R : V → Prop) (hR : R (.bool true)) : FnSat Try.prog 8 [.nilSlice, .int .i64 at_] [] (fun v _ => R v) := by
  refine lawK_ok ?_
  rw [row_nil]
  have ok : CatOk [] := ⟨by simp, by simp, by simp⟩
  have a := ok.all (by simp)
  have e1 : allN [] = 0 := by
    have := a.1
    unfold allN; rw [show allI [] = [] from this]; rfl
  have e2 : allE [] = 0 := a.2
  have e3 : IntKind.i64.wrap ((IntKind.u64.wrap at_).tmod 1) = 0 := by rw [Int.tmod_one]; rfl
  rw [e1, e2, e3]
  have e4 : List.take ((0 : Int).toNat - 0) ([] : List UInt8) = [] := rfl
  rw [e4, e1, e2]
  exact hR
end Go.Proofs.Ytpjopdemhkcifaa
