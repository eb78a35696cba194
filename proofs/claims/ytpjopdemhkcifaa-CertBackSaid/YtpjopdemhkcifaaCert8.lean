/- CertCut: the law returns true. -/
import Derived.Test.YtpjopdemhkcifaaCert7
namespace Go.Proofs.Ytpjopdemhkcifaa
open Go Go.Vm Go.RowKit
set_option linter.unusedVariables false
set_option linter.unusedSectionVars false
set_option maxRecDepth 100000
variable [Φ : Frz]
theorem enc_none {k g : List UInt8} {l : List (List UInt8)} {f u : Int} {ca : Bool} (h : encE k g l f u ca ≠ 0) : encB k g l f u ca = [] := by
  unfold encE at h
  unfold encB
  cases ho : encOk k g l f u with
  | false => rfl
  | true =>
    rw [ho, cond_true] at h
    rw [cond_true]
    cases hd : decide (((putB 48 (encIn k g l f u ca)).length : Int) > 512) with
    | true => rfl
    | false => rw [hd] at h; exact absurd rfl h
theorem putB_pos (t : Int) (x : List UInt8) (h : putE t x = 0) : 0 < (putB t x).length := by
  rcases Nat.eq_zero_or_pos (putB t x).length with h0 | h0
  · exact absurd h (put_none.2 (List.eq_nil_of_length_eq_zero h0))
  · exact h0
theorem cut_close (k g : List UInt8) (x : Value) (l : List (List UInt8)) (f u : Int) (ca : Bool) (at_ : Int) (more : List UInt8) (hl : l.length ≤ 9223372036854775807) :
    FnSat Try.prog 9 [.agg [.str k, .str g, lstS x l, .int .i64 f, .int .i64 u, .bool ca], .int .i64 at_, .str more] [] (fun v _ => v = .bool true) := by
  refine runW_ok (lim := 9) (n := 10) mixed H0_ok ?_
  unfold lstS
  rw [cut_law, okS_mk hl]
  have e0 : (strs l).length.beq (l.length * 1) = true := by rw [strs_len, Nat.mul_one]; exact Nat.beq_refl _
  have e1 : (strs l).length.beq l.length = true := by rw [strs_len]; exact Nat.beq_refl _
  have e2 : l.length.ble 9223372036854775807 = true := Nat.ble_eq_true_of_le hl
  simp only [e0, e1, strs_isStr, strs_strOf, e2, Bool.and_self, cond_true]
  refine bif_intro (fun h => trivial) (fun h => ?_)
  refine bif_intro (fun h => trivial) (fun hm => ?_)
  have hm := of_decide_eq_false hm
  refine bif_intro (fun h => ?_) (fun h => ?_)
  · rw [enc_none (by simpa using h)]; rfl
  have hE : encE k g l f u ca = 0 := by simpa using h
  obtain ⟨h1, h2, h3⟩ := enc_ok hE
  have hin := enc_len hE
  have hpos : 0 < (encB k g l f u ca).length := by
    rw [h2]
    exact putB_pos _ _ (good_of (t := 48) (x := encIn k g l f u ca) tags_ok.1 (by decide) (by omega)).2
  have hw : IntKind.u64.wrap ((encB k g l f u ca).length : Int) = ((encB k g l f u ca).length : Int) := IntWalk.u64_in _ ⟨by omega, by omega⟩
  rw [hw]
  have hu0 : 0 ≤ IntKind.u64.wrap at_ := by rw [IntKind.wrap_u64]; omega
  obtain ⟨j, hj⟩ : ∃ j : Nat, IntKind.u64.wrap at_ = j := ⟨(IntKind.u64.wrap at_).toNat, by omega⟩
  have hmod : (IntKind.u64.wrap at_).tmod ((encB k g l f u ca).length : Int) = ((j % (encB k g l f u ca).length : Nat) : Int) := by
    rw [hj, Int.tmod_eq_emod_of_nonneg (by omega)]; rfl
  have hlt : j % (encB k g l f u ca).length < (encB k g l f u ca).length := Nat.mod_lt _ hpos
  have hi : IntKind.i64.wrap ((j % (encB k g l f u ca).length : Nat) : Int) = ((j % (encB k g l f u ca).length : Nat) : Int) := IntWalk.i64_in _ ⟨by omega, by omega⟩
  simp only [hmod, hi, Int.toNat_natCast, Nat.sub_zero, List.drop_zero]
  have hcut := enc_cut hE hlt
  have c1 : (!((encB k g l f u ca).length : Int) == 0) = true := by
    rw [Bool.not_eq_true']
    cases hq : (((encB k g l f u ca).length : Int) == 0) with
    | false => rfl
    | true => have := beq_iff_eq.1 hq; omega
  have c2 : decide ((0 : Int) ≤ ((j % (encB k g l f u ca).length : Nat) : Int)) = true := decide_eq_true (by omega)
  have c3 : (true && (j % (encB k g l f u ca).length).ble (encB k g l f u ca).length) = true := by rw [Bool.true_and]; exact Nat.ble_eq_true_of_le (by omega)
  have c4 : ((encB k g l f u ca).length + more.length).ble 9223372036854775807 = true := Nat.ble_eq_true_of_le (by omega)
  have c5 : ((4 : Int) != 0) = true := rfl
  have c6 : ((4 : Int) == 4) = true := rfl
  simp only [c1, c2, c3, c4, hcut, c5, c6, cond_true]
  refine bif_intro (fun h => ?_) (fun h => ?_)
  · have h : decE (encB k g l f u ca ++ more) ≠ 0 := by simpa using h
    have hne : more ≠ [] := fun e => by
      subst e
      rw [List.append_nil] at h
      exact h ((decE_iff _).2 ⟨_, enc_dec hE⟩)
    have d1 : (decE (encB k g l f u ca ++ more) == 0) = false := by simpa using h
    have d2 : (more == []) = false := by cases more with
      | nil => exact absurd rfl hne
      | cons a r => rfl
    rw [d1, d2]; rfl
  · have h : decE (encB k g l f u ca ++ more) = 0 := by simpa using h
    have hnil : more = [] := by
      cases more with
      | nil => rfl
      | cons a r => exact absurd h (enc_more hE (by simp) (by omega))
    subst hnil
    refine bif_intro (fun _ => rfl) (fun _ => rfl)
/-! ### there and back -/
theorem shift_strs (k : Nat) : ∀ l : List (List UInt8), shiftL k (strs l) = strs l
  | [] => rfl
  | s :: r => by
    have := shift_strs k r
    simp only [strs, List.map_cons, shiftL, V.shift] at this ⊢
    rw [this]
theorem sameC_iff {k g : List UInt8} {l : List (List UInt8)} {f u : Int} {ca : Bool} {k' g' : List UInt8} {l' : List (List UInt8)} {f' u' : Int} {ca' : Bool} : sameC k g l f u ca k' g' l' f' u' ca' = true ↔ (k = k' ∧ g = g' ∧ f = f' ∧ u = u' ∧ ca = ca' ∧ l = l') := by
  unfold sameC
  simp only [Bool.and_eq_true, beq_iff_eq]
theorem enc_inj {k g : List UInt8} {l : List (List UInt8)} {f u : Int} {ca : Bool} {k' g' : List UInt8} {l' : List (List UInt8)} {f' u' : Int} {ca' : Bool} (h : encE k g l f u ca = 0) (h' : encE k' g' l' f' u' ca' = 0) : (encB k g l f u ca == encB k' g' l' f' u' ca') = sameC k g l f u ca k' g' l' f' u' ca' := by
  rw [Bool.eq_iff_iff, beq_iff_eq, sameC_iff]
  constructor
  · intro e
    have a := enc_dec h
    have b := enc_dec h'
    rw [e, b] at a
    simp only [Option.some.injEq, CD.mk.injEq] at a
    exact ⟨a.1.symm, a.2.1.symm, a.2.2.2.1.symm, a.2.2.2.2.1.symm, a.2.2.2.2.2.symm, a.2.2.1.symm⟩
  · rintro ⟨rfl, rfl, rfl, rfl, rfl, rfl⟩; rfl
/-- What is so of bytes that are decoded. -/
theorem dec_facts {s : List UInt8} (h : decE s = 0) : encE (dK s) (dG s) (dL s) (dF s) (dU s) (dCa s) = 0 ∧ encB (dK s) (dG s) (dL s) (dF s) (dU s) (dCa s) = s ∧ (mayC (dK s) (dG s) (dF s) (dU s) && (dL s).all patN) = true ∧ (dL s).length ≤ 64 := by
  obtain ⟨c, hc⟩ := (decE_iff s).1 h
  obtain ⟨a, b, d, _, e⟩ := dec_enc hc
  have hd : dCd s = c := by unfold dCd; rw [hc]; rfl
  unfold dK dG dL dF dU dCa
  rw [hd]
  exact ⟨a, b, d, e⟩
theorem enc_facts {k g : List UInt8} {l : List (List UInt8)} {f u : Int} {ca : Bool} (h : encE k g l f u ca = 0) : decE (encB k g l f u ca) = 0 ∧ dK (encB k g l f u ca) = k ∧ dG (encB k g l f u ca) = g ∧ dL (encB k g l f u ca) = l ∧ dF (encB k g l f u ca) = f ∧ dU (encB k g l f u ca) = u ∧ dCa (encB k g l f u ca) = ca := by
  have hc := enc_dec h
  have hd : dCd (encB k g l f u ca) = ⟨k, g, l, f, u, ca⟩ := by unfold dCd; rw [hc]; rfl
  refine ⟨(decE_iff _).2 ⟨_, hc⟩, ?_⟩
  unfold dK dG dL dF dU dCa
  rw [hd]
  exact ⟨rfl, rfl, rfl, rfl, rfl, rfl⟩
set_option maxHeartbeats 4000000 in
theorem back_close (k g : List UInt8) (x : Value) (l : List (List UInt8)) (f u : Int) (ca : Bool) (k' g' : List UInt8) (y : Value) (l' : List (List UInt8)) (f' u' : Int) (ca' : Bool) (s : List UInt8) (hl : l.length ≤ 9223372036854775807) (hl' : l'.length ≤ 9223372036854775807) :
    FnSat Try.prog 10 [.agg [.str k, .str g, lstS x l, .int .i64 f, .int .i64 u, .bool ca], .agg [.str k', .str g', lstS y l', .int .i64 f', .int .i64 u', .bool ca'], .str s] [] (fun v _ => v = .bool true) := by
  refine runW_ok (lim := 9) (n := 10) mixed H0_ok ?_
  unfold lstS
  rw [back_law, okS_mk hl, okS_mk hl']
  have e0 : ∀ l : List (List UInt8), (strs l).length.beq (l.length * 1) = true := fun l => by rw [strs_len, Nat.mul_one]; exact Nat.beq_refl _
  have e1 : ∀ l : List (List UInt8), (strs l).length.beq l.length = true := fun l => by rw [strs_len]; exact Nat.beq_refl _
  have e2 : l.length.ble 9223372036854775807 = true := Nat.ble_eq_true_of_le hl
  have e3 : l'.length.ble 9223372036854775807 = true := Nat.ble_eq_true_of_le hl'
  simp only [e0, e1, strs_isStr, strs_strOf, e2, e3, Bool.and_self, cond_true]
  refine bif_intro (fun h => trivial) (fun h => ?_)
  refine bif_intro (fun h => trivial) (fun h => ?_)
  refine bif_intro (fun h => trivial) (fun h => ?_)
  have tk : ∀ (l : List (List UInt8)) (k : Nat), List.take (l.length * 1) (List.drop 0 (shiftL k (strs l))) = strs l := fun l k => by
    rw [shift_strs, List.drop_zero]; exact List.take_of_length_le (by rw [strs_len]; omega)
  have tb : ∀ (l : List (List UInt8)) (k : Nat), (0 + l.length * 1).ble (shiftL k (strs l)).length = true := fun l k => Nat.ble_eq_true_of_le (by rw [shift_strs, strs_len]; omega)
  have sub : ∀ P : Prop, (decE s = 0 → dL s = [] → P) → (decE s = 0 → dL s ≠ [] → P) → (decE s ≠ 0 → P) → P := fun P h1 h2 h3 => by
    by_cases h : decE s = 0
    · by_cases h4 : dL s = []
      · exact h1 h h4
      · exact h2 h h4
    · exact h3 h
  have nilb : (([] : List UInt8) == []) = true := rfl
  have len0 : decide (((([] : List UInt8).length : Nat) : Int) > 512) = false := rfl
  have z0 : ((0 : Int) == 0) = true := rfl
  have z1 : ((0 : Int) != 0) = false := rfl
  have z4 : ((0 : Int) == 4) = false := rfl
  have bt : (true == true) = true := rfl
  have bf : (false == false) = true := rfl
  have bft : (false == true) = false := rfl
  have btf : (true == false) = false := rfl
  have z44 : ((4 : Int) == 4) = true := rfl
  have z40 : ((4 : Int) == 0) = false := rfl
  have z4n : ((4 : Int) != 0) = true := rfl
  have zc4 : ((40 : Int) == 4) = false := rfl
  have zc0 : ((40 : Int) == 0) = false := rfl
  have zcn : ((40 : Int) != 0) = true := rfl
  have dN' : ∀ t, dN t = (dL t).length := fun _ => rfl
  refine sub _ (fun hs hn => ?_) (fun hs hn => ?_) (fun hs => ?_)
  · obtain ⟨d1, d2, d3, d4⟩ := dec_facts hs
    rw [hn] at d1 d2 d3
    have d3 : mayC (dK s) (dG s) (dF s) (dU s) = true := by simpa using d3
    have dn : (dN s).beq 0 = true := by unfold dN; rw [hn]; rfl
    have dd : (s == s) = true := beq_self_eq_true s
    simp only [hs, dn, d1, d2, d3, dd, z0, z1, Bool.and_self, cond_true, cond_false]
    cases ho : encOk k g l f u with
    | false =>
      have hEE : encE k g l f u ca = 4 := by unfold encE; rw [ho]; rfl
      have hEB : encB k g l f u ca = [] := by unfold encB; rw [ho]; rfl
      cases hm : (mayC k g f u && l.all patN) with
      | false => simp only [hEE, hEB, nilb, len0, z44, z40, z4n, bt, Bool.not_true, Bool.not_false, cond_true, cond_false]
      | true =>
        have h64 : decide ((l.length : Int) > 64) = true := by
          unfold encOk at ho
          rw [hm, Bool.true_and] at ho
          have := of_decide_eq_false ho
          exact decide_eq_true (by omega)
        simp only [hEE, hEB, h64, nilb, len0, z44, z40, z4n, bt, Bool.not_true, Bool.not_false, cond_true, cond_false]
    | true =>
      obtain ⟨m1, m2, m3⟩ := encOk_spec ho
      have h64 : decide ((l.length : Int) > 64) = false := decide_eq_false (by omega)
      by_cases h0 : encE k g l f u ca = 0
      · obtain ⟨f1, f2, f3, f4, f5, f6, f7⟩ := enc_facts h0
        have hlen : decide (((encB k g l f u ca).length : Int) > 512) = false := decide_eq_false (by have := (enc_ok h0).2.2; omega)
        have hrefl : sameC k g l f u ca k g l f u ca = true := sameC_iff.2 ⟨rfl, rfl, rfl, rfl, rfl, rfl⟩
        by_cases hl0 : l = []
        · have hbn : (dN (encB k g l f u ca)).beq 0 = true := by rw [dN', f4, hl0]; rfl
          rw [hl0] at hrefl
          by_cases h0' : encE k' g' l' f' u' ca' = 0
          · have hinj := enc_inj h0 h0'
            have hq : (sameC k g l f u ca k' g' l' f' u' ca' == sameC k g l f u ca k' g' l' f' u' ca') = true := beq_self_eq_true _
            have hr2 : sameC k g [] f u ca k g l f u ca = true := by rw [hl0]; exact hrefl
            simp only [m1, m2, h64, h0, h0', hinj, hq, hr2, hlen, hbn, f1, f2, f3, f5, f6, f7, z0, z1, z4, bf, Bool.and_self, Bool.not_true, Bool.not_false, cond_true, cond_false]
          · have g1 : (encE k' g' l' f' u' ca' == 0) = false := by simpa using h0'
            have hr2 : sameC k g [] f u ca k g l f u ca = true := by rw [hl0]; exact hrefl
            simp only [m1, m2, h64, h0, g1, hr2, hlen, hbn, f1, f2, f3, f5, f6, f7, z0, z1, z4, bf, Bool.and_self, Bool.not_true, Bool.not_false, cond_true, cond_false]
        · have hbn : (dN (encB k g l f u ca)).beq 0 = false := by
            rw [dN', f4]
            cases l with
            | nil => exact absurd rfl hl0
            | cons a r => rfl
          by_cases h0' : encE k' g' l' f' u' ca' = 0
          · have hinj := enc_inj h0 h0'
            have hq : (sameC k g l f u ca k' g' l' f' u' ca' == sameC k g l f u ca k' g' l' f' u' ca') = true := beq_self_eq_true _
            simp only [m1, m2, h64, h0, h0', hinj, hq, hlen, hbn, f1, f2, f3, f5, f6, f7, z0, z1, z4, bf, Bool.and_self, Bool.not_true, Bool.not_false, cond_true, cond_false]
            simp only [dN', f4, tk, tb, e1, e2, strs_isStr, strs_strOf, hrefl, Bool.and_self, Bool.not_true, cond_true, cond_false]
          · have g1 : (encE k' g' l' f' u' ca' == 0) = false := by simpa using h0'
            simp only [m1, m2, h64, h0, g1, hlen, hbn, f1, f2, f3, f5, f6, f7, z0, z1, z4, bf, Bool.and_self, Bool.not_true, Bool.not_false, cond_true, cond_false]
            simp only [dN', f4, tk, tb, e1, e2, strs_isStr, strs_strOf, hrefl, Bool.and_self, Bool.not_true, cond_true, cond_false]
      · have hEB := enc_none h0
        have hEE : encE k g l f u ca = 40 := by
          unfold encE at h0 ⊢
          rw [ho, cond_true] at h0 ⊢
          cases hd : decide (((putB 48 (encIn k g l f u ca)).length : Int) > 512) with
          | true => rfl
          | false => rw [hd] at h0; exact absurd rfl h0
        simp only [m1, m2, h64, hEE, hEB, nilb, len0, zc4, zc0, zcn, bf, Bool.and_self, Bool.not_true, Bool.not_false, cond_true, cond_false]
  · obtain ⟨d1, d2, d3, d4⟩ := dec_facts hs
    have dn : (dN s).beq 0 = false := by
      unfold dN
      cases hq : dL s with
      | nil => exact absurd hq hn
      | cons a r => rfl
    have dd : (s == s) = true := beq_self_eq_true s
    have dl : (dL s).length.ble 9223372036854775807 = true := Nat.ble_eq_true_of_le (by omega)
    simp only [hs, dn, z0, z1, cond_true, cond_false]
    simp only [show dN s = (dL s).length from rfl, tk, tb, e1, strs_isStr, strs_strOf, dl, d1, d2, d3, dd, z0, Bool.and_self, cond_true]
    cases ho : encOk k g l f u with
    | false =>
      have hEE : encE k g l f u ca = 4 := by unfold encE; rw [ho]; rfl
      have hEB : encB k g l f u ca = [] := by unfold encB; rw [ho]; rfl
      cases hm : (mayC k g f u && l.all patN) with
      | false => simp only [hEE, hEB, nilb, len0, z44, z40, z4n, bt, Bool.not_true, Bool.not_false, cond_true, cond_false]
      | true =>
        have h64 : decide ((l.length : Int) > 64) = true := by
          unfold encOk at ho
          rw [hm, Bool.true_and] at ho
          have := of_decide_eq_false ho
          exact decide_eq_true (by omega)
        simp only [hEE, hEB, h64, nilb, len0, z44, z40, z4n, bt, Bool.not_true, Bool.not_false, cond_true, cond_false]
    | true =>
      obtain ⟨m1, m2, m3⟩ := encOk_spec ho
      have h64 : decide ((l.length : Int) > 64) = false := decide_eq_false (by omega)
      by_cases h0 : encE k g l f u ca = 0
      · obtain ⟨f1, f2, f3, f4, f5, f6, f7⟩ := enc_facts h0
        have hlen : decide (((encB k g l f u ca).length : Int) > 512) = false := decide_eq_false (by have := (enc_ok h0).2.2; omega)
        have hrefl : sameC k g l f u ca k g l f u ca = true := sameC_iff.2 ⟨rfl, rfl, rfl, rfl, rfl, rfl⟩
        by_cases hl0 : l = []
        · have hbn : (dN (encB k g l f u ca)).beq 0 = true := by rw [dN', f4, hl0]; rfl
          rw [hl0] at hrefl
          by_cases h0' : encE k' g' l' f' u' ca' = 0
          · have hinj := enc_inj h0 h0'
            have hq : (sameC k g l f u ca k' g' l' f' u' ca' == sameC k g l f u ca k' g' l' f' u' ca') = true := beq_self_eq_true _
            have hr2 : sameC k g [] f u ca k g l f u ca = true := by rw [hl0]; exact hrefl
            simp only [m1, m2, h64, h0, h0', hinj, hq, hr2, hlen, hbn, f1, f2, f3, f5, f6, f7, z0, z1, z4, bf, Bool.and_self, Bool.not_true, Bool.not_false, cond_true, cond_false]
          · have g1 : (encE k' g' l' f' u' ca' == 0) = false := by simpa using h0'
            have hr2 : sameC k g [] f u ca k g l f u ca = true := by rw [hl0]; exact hrefl
            simp only [m1, m2, h64, h0, g1, hr2, hlen, hbn, f1, f2, f3, f5, f6, f7, z0, z1, z4, bf, Bool.and_self, Bool.not_true, Bool.not_false, cond_true, cond_false]
        · have hbn : (dN (encB k g l f u ca)).beq 0 = false := by
            rw [dN', f4]
            cases l with
            | nil => exact absurd rfl hl0
            | cons a r => rfl
          by_cases h0' : encE k' g' l' f' u' ca' = 0
          · have hinj := enc_inj h0 h0'
            have hq : (sameC k g l f u ca k' g' l' f' u' ca' == sameC k g l f u ca k' g' l' f' u' ca') = true := beq_self_eq_true _
            simp only [m1, m2, h64, h0, h0', hinj, hq, hlen, hbn, f1, f2, f3, f5, f6, f7, z0, z1, z4, bf, Bool.and_self, Bool.not_true, Bool.not_false, cond_true, cond_false]
            simp only [dN', f4, tk, tb, e1, e2, strs_isStr, strs_strOf, hrefl, Bool.and_self, Bool.not_true, cond_true, cond_false]
          · have g1 : (encE k' g' l' f' u' ca' == 0) = false := by simpa using h0'
            simp only [m1, m2, h64, h0, g1, hlen, hbn, f1, f2, f3, f5, f6, f7, z0, z1, z4, bf, Bool.and_self, Bool.not_true, Bool.not_false, cond_true, cond_false]
            simp only [dN', f4, tk, tb, e1, e2, strs_isStr, strs_strOf, hrefl, Bool.and_self, Bool.not_true, cond_true, cond_false]
      · have hEB := enc_none h0
        have hEE : encE k g l f u ca = 40 := by
          unfold encE at h0 ⊢
          rw [ho, cond_true] at h0 ⊢
          cases hd : decide (((putB 48 (encIn k g l f u ca)).length : Int) > 512) with
          | true => rfl
          | false => rw [hd] at h0; exact absurd rfl h0
        simp only [m1, m2, h64, hEE, hEB, nilb, len0, zc4, zc0, zcn, bf, Bool.and_self, Bool.not_true, Bool.not_false, cond_true, cond_false]
  · have h1 : (decE s != 0) = true := by simpa using hs
    simp only [h1, cond_true]
    cases ho : encOk k g l f u with
    | false =>
      have hEE : encE k g l f u ca = 4 := by unfold encE; rw [ho]; rfl
      have hEB : encB k g l f u ca = [] := by unfold encB; rw [ho]; rfl
      cases hm : (mayC k g f u && l.all patN) with
      | false => simp only [hEE, hEB, nilb, len0, z44, z40, z4n, bt, Bool.not_true, Bool.not_false, cond_true, cond_false]
      | true =>
        have h64 : decide ((l.length : Int) > 64) = true := by
          unfold encOk at ho
          rw [hm, Bool.true_and] at ho
          have := of_decide_eq_false ho
          exact decide_eq_true (by omega)
        simp only [hEE, hEB, h64, nilb, len0, z44, z40, z4n, bt, Bool.not_true, Bool.not_false, cond_true, cond_false]
    | true =>
      obtain ⟨m1, m2, m3⟩ := encOk_spec ho
      have h64 : decide ((l.length : Int) > 64) = false := decide_eq_false (by omega)
      by_cases h0 : encE k g l f u ca = 0
      · obtain ⟨f1, f2, f3, f4, f5, f6, f7⟩ := enc_facts h0
        have hlen : decide (((encB k g l f u ca).length : Int) > 512) = false := decide_eq_false (by have := (enc_ok h0).2.2; omega)
        have hrefl : sameC k g l f u ca k g l f u ca = true := sameC_iff.2 ⟨rfl, rfl, rfl, rfl, rfl, rfl⟩
        by_cases hl0 : l = []
        · have hbn : (dN (encB k g l f u ca)).beq 0 = true := by rw [dN', f4, hl0]; rfl
          rw [hl0] at hrefl
          by_cases h0' : encE k' g' l' f' u' ca' = 0
          · have hinj := enc_inj h0 h0'
            have hq : (sameC k g l f u ca k' g' l' f' u' ca' == sameC k g l f u ca k' g' l' f' u' ca') = true := beq_self_eq_true _
            have hr2 : sameC k g [] f u ca k g l f u ca = true := by rw [hl0]; exact hrefl
            simp only [m1, m2, h64, h0, h0', hinj, hq, hr2, hlen, hbn, f1, f2, f3, f5, f6, f7, z0, z1, z4, bf, Bool.and_self, Bool.not_true, Bool.not_false, cond_true, cond_false]
          · have g1 : (encE k' g' l' f' u' ca' == 0) = false := by simpa using h0'
            have hr2 : sameC k g [] f u ca k g l f u ca = true := by rw [hl0]; exact hrefl
            simp only [m1, m2, h64, h0, g1, hr2, hlen, hbn, f1, f2, f3, f5, f6, f7, z0, z1, z4, bf, Bool.and_self, Bool.not_true, Bool.not_false, cond_true, cond_false]
        · have hbn : (dN (encB k g l f u ca)).beq 0 = false := by
            rw [dN', f4]
            cases l with
            | nil => exact absurd rfl hl0
            | cons a r => rfl
          by_cases h0' : encE k' g' l' f' u' ca' = 0
          · have hinj := enc_inj h0 h0'
            have hq : (sameC k g l f u ca k' g' l' f' u' ca' == sameC k g l f u ca k' g' l' f' u' ca') = true := beq_self_eq_true _
            simp only [m1, m2, h64, h0, h0', hinj, hq, hlen, hbn, f1, f2, f3, f5, f6, f7, z0, z1, z4, bf, Bool.and_self, Bool.not_true, Bool.not_false, cond_true, cond_false]
            simp only [dN', f4, tk, tb, e1, e2, strs_isStr, strs_strOf, hrefl, Bool.and_self, Bool.not_true, cond_true, cond_false]
          · have g1 : (encE k' g' l' f' u' ca' == 0) = false := by simpa using h0'
            simp only [m1, m2, h64, h0, g1, hlen, hbn, f1, f2, f3, f5, f6, f7, z0, z1, z4, bf, Bool.and_self, Bool.not_true, Bool.not_false, cond_true, cond_false]
            simp only [dN', f4, tk, tb, e1, e2, strs_isStr, strs_strOf, hrefl, Bool.and_self, Bool.not_true, cond_true, cond_false]
      · have hEB := enc_none h0
        have hEE : encE k g l f u ca = 40 := by
          unfold encE at h0 ⊢
          rw [ho, cond_true] at h0 ⊢
          cases hd : decide (((putB 48 (encIn k g l f u ca)).length : Int) > 512) with
          | true => rfl
          | false => rw [hd] at h0; exact absurd rfl h0
        simp only [m1, m2, h64, hEE, hEB, nilb, len0, zc4, zc0, zcn, bf, Bool.and_self, Bool.not_true, Bool.not_false, cond_true, cond_false]
end Go.Proofs.Ytpjopdemhkcifaa
