/- DerBack and DerOne: what they come to. -/
import Derived.Test.YtpjopdemhkcifaaAwakeA
import Derived.OpenShut
namespace Go.Proofs.Ytpjopdemhkcifaa
open Go Go.Vm Go.RowKit
set_option linter.unusedSectionVars false
variable [Φ : Frz]
set_option linter.unusedVariables false
noncomputable def T2 : Tab := ⟨addP (addT (addP (addT noT 20 putF) 36 sizeF) 21 getF) 11 awF, noL, noLks 6⟩
theorem T2_ok : TabOk3 Try.prog T2 := ⟨addP_ok (addT_ok (addP_ok (addT_ok noT_ok put_ok) size_ok) get_ok) awF_ok, noL_ok, noLks_ok 6⟩
theorem back_tree (t : Int) (x s : List UInt8) (R : V → Prop) : runW Try.prog T2 6 10 4 [.agg [.int .u8 t, .str x], .str s] R =
   (
    bif decide ((↑x.length : Int) > 70000) then R (V.bool true)
    else
      bif decide ((↑s.length : Int) > 70000) then R (V.bool true)
      else
        bif okTag t then
          bif putE t x == 0 then
            bif ((putB t x).length + s.length).ble 9223372036854775807 then
              bif okLen (putB t x ++ s) then
                bif getE (putB t x ++ s) != 0 then R (V.bool false)
                else
                  bif getT (putB t x ++ s) == t then
                    bif getX (putB t x ++ s) == x then
                      bif !getR (putB t x ++ s) == s then R (V.bool false)
                      else
                        bif okLen s then
                          bif getE s != 0 then
                            bif getT s == 0 then bif getX s == [] then R (V.bool (getR s == [])) else R (V.bool false)
                            else R (V.bool false)
                          else
                            bif okTag (getT s) then
                              bif putE (getT s) (getX s) == 0 then
                                bif ((putB (getT s) (getX s)).length + (getR s).length).ble 9223372036854775807 then
                                  R (V.bool (putB (getT s) (getX s) ++ getR s == s))
                                else False
                              else R (V.bool false)
                            else False
                        else False
                    else R (V.bool false)
                  else R (V.bool false)
              else False
            else False
          else
            bif okLen s then
              bif getE s != 0 then
                bif getT s == 0 then bif getX s == [] then R (V.bool (getR s == [])) else R (V.bool false)
                else R (V.bool false)
              else
                bif okTag (getT s) then
                  bif putE (getT s) (getX s) == 0 then
                    bif ((putB (getT s) (getX s)).length + (getR s).length).ble 9223372036854775807 then
                      R (V.bool (putB (getT s) (getX s) ++ getR s == s))
                    else False
                  else R (V.bool false)
                else False
            else False
        else False) := by kernel_rfl
theorem one_tree (t : Int) (x : List UInt8) (u : Int) (y : List UInt8) (R : V → Prop) : runW Try.prog T2 6 10 5 [.agg [.int .u8 t, .str x], .agg [.int .u8 u, .str y]] R =
   (
    bif decide ((↑x.length : Int) > 70000) then R (V.bool true)
    else
      bif decide ((↑y.length : Int) > 70000) then R (V.bool true)
      else
        bif okTag t then
          bif okTag u then
            bif putE t x != 0 then R (V.bool ((putE t x != 0) == (putB t x == [])))
            else
              bif putE u y != 0 then R (V.bool ((putE t x != 0) == (putB t x == [])))
              else
                bif decide ((↑(putB t x).length : Int) ≤ (↑(putB u y).length : Int)) then
                  bif true && (↑(putB t x).length : Int).toNat.ble (putB u y).length then
                    bif t == u then
                      bif x == y then
                        bif
                            (List.take ((↑(putB t x).length : Int).toNat - 0) (List.drop 0 (putB u y)) == putB t x) ==
                              true then
                          bif t == u then
                            bif x == y then R (V.bool ((putB t x == putB u y) == true))
                            else R (V.bool ((putB t x == putB u y) == false))
                          else R (V.bool ((putB t x == putB u y) == false))
                        else R (V.bool false)
                      else
                        bif
                            (List.take ((↑(putB t x).length : Int).toNat - 0) (List.drop 0 (putB u y)) == putB t x) ==
                              false then
                          bif t == u then
                            bif x == y then R (V.bool ((putB t x == putB u y) == true))
                            else R (V.bool ((putB t x == putB u y) == false))
                          else R (V.bool ((putB t x == putB u y) == false))
                        else R (V.bool false)
                    else
                      bif
                          (List.take ((↑(putB t x).length : Int).toNat - 0) (List.drop 0 (putB u y)) == putB t x) ==
                            false then
                        bif t == u then
                          bif x == y then R (V.bool ((putB t x == putB u y) == true))
                          else R (V.bool ((putB t x == putB u y) == false))
                        else R (V.bool ((putB t x == putB u y) == false))
                      else R (V.bool false)
                  else False
                else
                  bif t == u then
                    bif x == y then R (V.bool false)
                    else
                      bif t == u then
                        bif x == y then R (V.bool ((putB t x == putB u y) == true))
                        else R (V.bool ((putB t x == putB u y) == false))
                      else R (V.bool ((putB t x == putB u y) == false))
                  else
                    bif t == u then
                      bif x == y then R (V.bool ((putB t x == putB u y) == true))
                      else R (V.bool ((putB t x == putB u y) == false))
                    else R (V.bool ((putB t x == putB u y) == false))
          else False
        else False) := by kernel_rfl
theorem byte_ofNat {n : Nat} (h : n < 256) : (UInt8.ofNat n).toNat = n := by simp only [UInt8.toNat_ofNat']; omega
theorem ofNat_byte (a : UInt8) : UInt8.ofNat a.toNat = a := by simp
theorem size_len (n : Nat) (hn : n ≤ 65535) (s : List UInt8) : sizeA (lenB n ++ s) = (n, (lenB n).length, 0) := by
  unfold lenB
  split
  · rename_i h
    have h1 : (UInt8.ofNat (n / 256)).toNat = n / 256 := byte_ofNat (by omega)
    have h2 : (UInt8.ofNat n).toNat = n % 256 := by simp only [UInt8.toNat_ofNat']
    have h0 : (130 : UInt8).toNat = 130 := rfl
    simp only [List.cons_append, List.nil_append, sizeA, h0, h1, h2]
    rw [if_neg (by omega), if_neg (by omega), if_pos trivial, if_neg (by omega)]
    simp only [List.length_cons, List.length_nil]
    congr 1
    omega
  · split
    · have h2 : (UInt8.ofNat n).toNat = n := byte_ofNat (by omega)
      have h0 : (129 : UInt8).toNat = 129 := rfl
      simp only [List.cons_append, List.nil_append, sizeA, h0, h2]
      rw [if_neg (by omega), if_pos trivial, if_neg (by omega)]
      rfl
    · have h2 : (UInt8.ofNat n).toNat = n := byte_ofNat (by omega)
      simp only [List.cons_append, List.nil_append, sizeA, h2]
      rw [if_pos (by omega)]
      rfl
theorem size_inv (r : List UInt8) (h : sizeE r = 0) : lenB (sizeN r) ++ r.drop (sizeU r) = r ∧ (lenB (sizeN r)).length = sizeU r ∧ sizeU r ≤ r.length := by
  unfold sizeE sizeN sizeU at *
  cases r with
  | nil => simp [sizeA] at h
  | cons a r =>
    have ha := a.toNat_lt
    by_cases h1 : a.toNat ≤ 127
    · have e : sizeA (a :: r) = (a.toNat, 1, 0) := by simp only [sizeA]; rw [if_pos h1]
      rw [e]
      have : lenB a.toNat = [a] := by unfold lenB; rw [if_neg (by omega), if_neg (by omega), ofNat_byte]
      simp [this]
    · by_cases h2 : a.toNat = 129
      · cases r with
        | nil => simp [sizeA, h2] at h
        | cons b r =>
          have hb := b.toNat_lt
          by_cases h3 : b.toNat ≤ 127
          · simp [sizeA, h2, h3] at h
          · have e : sizeA (a :: b :: r) = (b.toNat, 2, 0) := by simp only [sizeA]; rw [if_neg h1, if_pos h2, if_neg h3]
            rw [e]
            have ea : a = 129 := UInt8.toNat_inj.1 h2
            have : lenB b.toNat = [129, b] := by unfold lenB; rw [if_neg (by omega), if_pos (by omega), ofNat_byte]
            simp [this, ea]
      · by_cases h3 : a.toNat = 130
        · cases r with
          | nil => simp [sizeA, h3] at h
          | cons b r =>
            have hb := b.toNat_lt
            by_cases h4 : b.toNat = 0
            · simp [sizeA, h3, h4] at h
            · cases r with
              | nil => simp [sizeA, h3, h4] at h
              | cons c r =>
                have hc := c.toNat_lt
                have e : sizeA (a :: b :: c :: r) = (b.toNat * 256 + c.toNat, 3, 0) := by simp only [sizeA]; rw [if_neg h1, if_neg h2, if_pos h3, if_neg h4]
                rw [e]
                have ea : a = 130 := UInt8.toNat_inj.1 h3
                have e1 : UInt8.ofNat ((b.toNat * 256 + c.toNat) / 256) = b := by
                  rw [show (b.toNat * 256 + c.toNat) / 256 = b.toNat by omega, ofNat_byte]
                have e2 : UInt8.ofNat (b.toNat * 256 + c.toNat) = c := by
                  apply UInt8.toNat_inj.1
                  simp only [UInt8.toNat_ofNat']
                  omega
                have : lenB (b.toNat * 256 + c.toNat) = [130, b, c] := by unfold lenB; rw [if_pos (by omega), e1, e2]
                simp [this, ea]
        · simp [sizeA, h1, h2, h3] at h
theorem put_get {t : Int} {x s : List UInt8} (ht : okTag t = true) (h : putE t x = 0) : getE (putB t x ++ s) = 0 ∧ getT (putB t x ++ s) = t ∧ getX (putB t x ++ s) = x ∧ getR (putB t x ++ s) = s := by
  obtain ⟨n, rfl, hn⟩ := okTag_spec ht
  unfold putE at h
  by_cases h1 : (n : Int) % 32 = 31
  · rw [if_pos h1] at h; omega
  rw [if_neg h1] at h
  by_cases h2 : x.length > 65535
  · rw [if_pos h2] at h; omega
  have e : putB n x ++ s = UInt8.ofNat n :: (lenB x.length ++ (x ++ s)) := by
    unfold putB; rw [if_neg h1, if_neg h2]; simp
  have hz := size_len x.length (by omega) (x ++ s)
  have hb := byte_ofNat hn
  rw [e]
  have e0 : getE (UInt8.ofNat n :: (lenB x.length ++ (x ++ s))) = 0 := by
    simp only [getE, sizeE, sizeU, sizeN, hz, hb]
    rw [if_neg (by omega), if_pos trivial, if_neg (by simp)]
  refine ⟨e0, ?_, ?_, ?_⟩
  · unfold getT; rw [if_pos e0]; simp only [List.getD_cons_zero, hb]
  · unfold getX; rw [if_pos e0]
    simp only [List.drop_succ_cons, List.drop_zero, sizeU, sizeN, hz]
    rw [List.drop_left, List.take_left]
  · unfold getR; rw [if_pos e0]
    simp only [List.drop_succ_cons, List.drop_zero, sizeU, sizeN, hz]
    rw [List.drop_left, List.drop_left]
theorem get_put {s : List UInt8} (h : getE s = 0) : okTag (getT s) = true ∧ putE (getT s) (getX s) = 0 ∧ putB (getT s) (getX s) ++ getR s = s := by
  cases s with
  | nil => simp [getE] at h
  | cons t r =>
    have ht := t.toNat_lt
    have h0 := h
    simp only [getE] at h
    by_cases h1 : t.toNat % 32 = 31
    · rw [if_pos h1] at h; omega
    rw [if_neg h1] at h
    by_cases h2 : sizeE r = 0
    · rw [if_pos h2] at h
      by_cases h3 : r.length < sizeU r + sizeN r
      · rw [if_pos h3] at h; omega
      have hi := size_inv r h2
      have hs := size_small r
      have e1 : getT (t :: r) = (t.toNat : Int) := by unfold getT; rw [if_pos h0]; rfl
      have e2 : getX (t :: r) = (r.drop (sizeU r)).take (sizeN r) := by unfold getX; rw [if_pos h0]; rfl
      have e3 : getR (t :: r) = (r.drop (sizeU r)).drop (sizeN r) := by unfold getR; rw [if_pos h0]; rfl
      have e4 : ((r.drop (sizeU r)).take (sizeN r)).length = sizeN r := by simp; omega
      have n1 : ¬ (t.toNat : Int) % 32 = 31 := by omega
      rw [e1, e2, e3]
      refine ⟨by simp [okTag]; omega, ?_, ?_⟩
      · unfold putE; rw [if_neg n1, if_neg (by rw [e4]; omega)]
      · unfold putB; rw [if_neg n1, if_neg (by rw [e4]; omega), e4]
        simp only [Int.toNat_natCast, ofNat_byte, List.cons_append, List.append_assoc, List.take_append_drop, hi.1]
    · rw [if_neg h2] at h; exact absurd h h2
theorem get_none {s : List UInt8} (h : getE s ≠ 0) : getT s = 0 ∧ getX s = [] ∧ getR s = [] := by
  unfold getT getX getR
  rw [if_neg h, if_neg h, if_neg h]
  exact ⟨rfl, rfl, rfl⟩
theorem lenB_len (n : Nat) : (lenB n).length ≤ 3 := by unfold lenB; (repeat' split) <;> simp
theorem putB_len (t : Int) (x : List UInt8) : (putB t x).length ≤ x.length + 4 := by
  have := lenB_len x.length
  unfold putB; (repeat' split) <;> simp <;> omega
theorem get_len (s : List UInt8) : (getR s).length ≤ s.length ∧ (getX s).length ≤ s.length := by
  unfold getR getX; (repeat' split) <;> simp <;> omega
theorem put_none {t : Int} {x : List UInt8} : putE t x ≠ 0 ↔ putB t x = [] := by
  unfold putE putB; (repeat' split) <;> simp
theorem back_run (t : Int) (x s : List UInt8) (ht : okTag t = true) : FnSat Try.prog 4 [.agg [.int .u8 t, .str x], .str s] [] (Is (.bool true, [])) := by
  refine pureW_of (lim := 6) (n := 10) mixed T2_ok rfl rfl ?_
  rw [back_tree]
  refine bif_intro (fun _ => rfl) (fun h1 => bif_intro (fun _ => rfl) (fun h2 => must_intro ht ?_))
  have h1 : x.length ≤ 70000 := by simp at h1; omega
  have h2 : s.length ≤ 70000 := by simp at h2; omega
  have p1 := putB_len t x
  have okS : okLen s = true := decide_eq_true (by omega)
  have last : (bif okLen s then bif getE s != 0 then bif getT s == 0 then bif getX s == [] then V.bool (getR s == []) = V.bool true else V.bool false = V.bool true else V.bool false = V.bool true
      else bif okTag (getT s) then bif putE (getT s) (getX s) == 0 then bif ((putB (getT s) (getX s)).length + (getR s).length).ble 9223372036854775807 then V.bool (putB (getT s) (getX s) ++ getR s == s) = V.bool true else False else V.bool false = V.bool true else False else False) := by
    rw [okS, cond_true]
    refine bif_intro (fun h => ?_) (fun h => ?_)
    · have h : getE s ≠ 0 := by simpa using h
      obtain ⟨e1, e2, e3⟩ := get_none h
      rw [e1, e2, e3]; rfl
    · have h : getE s = 0 := by simpa using h
      obtain ⟨e1, e2, e3⟩ := get_put h
      have p2 := putB_len (getT s) (getX s)
      have p3 := get_len s
      have e4 : ((putB (getT s) (getX s)).length + (getR s).length).ble 9223372036854775807 = true := Nat.ble_eq_true_of_le (by omega)
      rw [e1, e2, e3, e4]
      simp
  refine bif_intro (fun h => ?_) (fun h => last)
  have h : putE t x = 0 := by simpa using h
  obtain ⟨e1, e2, e3, e4⟩ := put_get (s := s) ht h
  refine must_intro (Nat.ble_eq_true_of_le (by omega)) (must_intro (decide_eq_true (by rw [List.length_append]; omega)) ?_)
  rw [e1, e2, e3, e4]
  simp only [bne_self_eq_false, beq_self_eq_true, Bool.not_true, cond_true, cond_false]
  exact last
theorem one_run (t : Int) (x : List UInt8) (u : Int) (y : List UInt8) (ht : okTag t = true) (hu : okTag u = true) : FnSat Try.prog 5 [.agg [.int .u8 t, .str x], .agg [.int .u8 u, .str y]] [] (Is (.bool true, [])) := by
  refine pureW_of (lim := 6) (n := 10) mixed T2_ok rfl rfl ?_
  rw [one_tree]
  have none1 : V.bool ((putE t x != 0) == (putB t x == [])) = V.bool true := by
    congr 1
    rw [beq_iff_eq, Bool.eq_iff_iff]
    simp only [bne_iff_ne, beq_iff_eq]
    exact put_none
  refine bif_intro (fun _ => rfl) (fun h1 => bif_intro (fun _ => rfl) (fun h2 => must_intro ht (must_intro hu (bif_intro (fun _ => none1) (fun h3 => bif_intro (fun _ => none1) (fun h4 => ?_))))))
  have h3 : putE t x = 0 := by simpa using h3
  have h4 : putE u y = 0 := by simpa using h4
  -- one that begins by the other's bytes is the other
  have begins : ∀ r, putB u y = putB t x ++ r → t = u ∧ x = y := by
    intro r hr
    obtain ⟨_, a1, a2, _⟩ := put_get (s := r) ht h3
    obtain ⟨_, b1, b2, _⟩ := put_get (s := []) hu h4
    rw [List.append_nil] at b1 b2
    rw [← hr] at a1 a2
    exact ⟨a1.symm.trans b1, a2.symm.trans b2⟩
  have eqB : (putB t x == putB u y) = true → t = u ∧ x = y := fun h => begins [] (by rw [List.append_nil]; exact (beq_iff_eq.1 h).symm)
  have tk : (List.take ((((putB t x).length : Nat) : Int).toNat - 0) (List.drop 0 (putB u y)) == putB t x) = true → t = u ∧ x = y := by
    intro h
    simp only [Int.toNat_natCast, Nat.sub_zero, List.drop_zero, beq_iff_eq] at h
    exact begins ((putB u y).drop (putB t x).length) (by conv => lhs; rw [← List.take_append_drop (putB t x).length (putB u y), h])
  by_cases hs : t = u ∧ x = y
  · obtain ⟨rfl, rfl⟩ := hs
    simp
  · have f1 : (putB t x == putB u y) = false := by
      cases h : (putB t x == putB u y) with
      | false => rfl
      | true => exact absurd (eqB h) hs
    have f2 : (List.take ((((putB t x).length : Nat) : Int).toNat - 0) (List.drop 0 (putB u y)) == putB t x) = false := by
      cases h : (List.take ((((putB t x).length : Nat) : Int).toNat - 0) (List.drop 0 (putB u y)) == putB t x) with
      | false => rfl
      | true => exact absurd (tk h) hs
    rw [f1, f2]
    have f3 : (t == u) = false ∨ (x == y) = false := by
      by_cases h : t = u
      · right; simp; exact fun hx => hs ⟨h, hx⟩
      · left; simp [h]
    refine bif_intro (fun h5 => must_intro ?_ ?_) (fun h5 => ?_)
    · simp at h5 ⊢; omega
    · rcases f3 with f3 | f3
      · simp [f3]
      · simp [f3]
    · rcases f3 with f3 | f3
      · simp [f3]
      · simp [f3]
theorem okTag_wf {t : Int} (w : (Lit.int .u8 t).wf = true) : okTag t = true := by
  have := bounds_u8 w
  simp [okTag]; omega


end Go.Proofs.Ytpjopdemhkcifaa
