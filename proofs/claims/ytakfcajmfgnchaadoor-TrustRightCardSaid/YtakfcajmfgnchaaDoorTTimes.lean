/- TrustTimes: what it comes to. -/
import Derived.Test.YtakfcajmfgnchaaDoorLong15
import Derived.Test.YtakfcajmfgnchaaDoorAwake15
namespace Go.Proofs.YtakfcajmfgnchaaDoor
open Go Go.Vm Go.RowKit
set_option linter.unusedVariables false
set_option maxRecDepth 100000
set_option linter.unusedSectionVars false
variable [Φ : Frz]
noncomputable def TT (LOK LB : V → St → Bool) (JOK : V → V → St → Bool) (JV : V → List UInt8 → Int → V → St → Int) : Tab := ⟨addP noT 16 awakeF, addS (addS noL 15 (loGV LOK LB)) 17 (judgeGV JOK JV), noLks 9⟩
theorem TT_ok : TabOk3 Tryd.prog (TT loOK loB jOK jV) := ⟨addP_ok noT_ok awakeF_ok, addS_ok (addS_ok noL_ok loG_ok) judgeG_ok, noLks_ok 9⟩
theorem times_law (LOK LB : V → St → Bool) (JOK : V → V → St → Bool) (JV : V → List UInt8 → Int → V → St → Int) (x : Value) (n : Nat) (cs : List V) (h : List UInt8) (a b c : Int) (y : Value) (m : Nat) (ds : List V) (R : V → Prop) : runW Tryd.prog (TT LOK LB JOK JV) 9 10 6 [.lst x n cs, .str h, .int .i64 a, .int .i64 b, .int .i64 c, .lst y m ds] R =
   (
 bif LOK (V.lst x n cs) [] then bif LB (V.lst x n cs) [] then R (V.bool true) else bif LOK (V.lst y m ds) [] then bif LB (V.lst y m ds) [] then R (V.bool true) else bif
 decide ((↑h.length : Int) > 3000) then R (V.bool true) else bif decide (a > b) then R (V.bool true) else bif decide (b > c) then R (V.bool true) else bif JOK (V.lst x n
 cs) (V.lst y m ds) [] then bif JV (V.lst x n cs) h a (V.lst y m ds) [] != 0 then R (V.bool true) else bif JOK (V.lst x n cs) (V.lst y m ds) [] then bif JV (V.lst x n cs)
 h c (V.lst y m ds) [] != 0 then R (V.bool true) else bif JOK (V.lst x n cs) (V.lst y m ds) [] then R (V.bool (JV (V.lst x n cs) h b (V.lst y m ds) [] == 0)) else False
 else False else False else False else False) := by kernel_rfl
theorem dates_mid {f u a b c : Int} (h1 : a ≤ b) (h2 : b ≤ c) (ha : datesB f u a = true) (hc : datesB f u c = true) : datesB f u b = true := by
  unfold datesB at *
  simp only [Bool.and_eq_true, decide_eq_true_eq] at *
  omega
theorem anch_mid {an : List (List UInt8)} {a b c : Int} (h1 : a ≤ b) (h2 : b ≤ c) : ∀ (L : List CR) (p : Option CR), anchP a an p L = true → anchP c an p L = true → anchP b an p L = true
  | [], p, h, _ => by cases h
  | d :: r, p, ha, hc => by
    rw [anchP, Bool.and_eq_true, Bool.and_eq_true, Bool.or_eq_true] at ha hc ⊢
    refine ⟨dates_mid h1 h2 ha.1 hc.1, ha.2.1, ?_⟩
    rcases ha.2.2 with h | h
    · exact .inl h
    · rcases hc.2.2 with h' | h'
      · exact .inl h'
      · exact .inr (anch_mid h1 h2 r _ h h')
/-- What is Right. -/
theorem judge_right {h : List UInt8} {now : Int} {an : List (List UInt8)} {L : List CR} : judgeC h now an L = 0 ↔ ∃ c r, L = c :: r ∧ datesB c.f c.u now = true ∧ hasH c.l h = true ∧ anchP now an none L = true := by
  cases L with
  | nil =>
    refine ⟨fun h => ?_, fun ⟨c, r, h, _⟩ => by cases h⟩
    rw [judgeC] at h; omega
  | cons c r =>
    rw [judgeC]
    cases h1 : datesB c.f c.u now with
    | false => exact ⟨fun h => by simp at h, fun ⟨_, _, e, h, _⟩ => by cases e; rw [h1] at h; cases h⟩
    | true =>
      cases h2 : hasH c.l h with
      | false => exact ⟨fun h => by simp at h, fun ⟨_, _, e, _, h, _⟩ => by cases e; rw [h2] at h; cases h⟩
      | true =>
        cases h3 : anchP now an none (c :: r) with
        | false => exact ⟨fun h => by simp at h, fun ⟨_, _, _, _, _, h⟩ => by cases h⟩
        | true => exact ⟨fun _ => ⟨c, r, rfl, h1, h2, rfl⟩, fun _ => rfl⟩
theorem judge_mid {h : List UInt8} {a b c : Int} {an : List (List UInt8)} {L : List CR} (h1 : a ≤ b) (h2 : b ≤ c) (ha : judgeC h a an L = 0) (hc : judgeC h c an L = 0) : judgeC h b an L = 0 := by
  obtain ⟨d, r, rfl, q1, q2, q3⟩ := judge_right.1 ha
  obtain ⟨_, _, e, q4, _, q5⟩ := judge_right.1 hc
  cases e
  exact judge_right.2 ⟨d, r, rfl, dates_mid h1 h2 q1 q4, q2, anch_mid h1 h2 _ _ q3 q5⟩
theorem viewS_lst (st : St) (x : Value) (l : List (List UInt8)) : viewS st (.lst x l.length (strs l)) = some (true, l) := by
  simp only [viewS, viewC, strs_len, Nat.mul_one, Nat.beq_refl, strs_isStr, strs_strOf, Bool.and_self]
theorem lo_lst (st : St) (x : Value) (l : List (List UInt8)) (h : l.length ≤ 9223372036854775807) : loOK (.lst x l.length (strs l)) st = true ∧ loB (.lst x l.length (strs l)) st = longS l := by
  unfold loOK loB
  rw [viewS_lst]
  exact ⟨by show (true && Nat.ble l.length 9223372036854775807) = true; rw [Nat.ble_eq_true_of_le h]; rfl, rfl⟩
theorem j_lst (st : St) (x y : Value) (l an : List (List UInt8)) (h : List UInt8) (now : Int) (h1 : l.length ≤ 9223372036854775807) (h2 : an.length ≤ 9223372036854775807) : jOK (.lst x l.length (strs l)) (.lst y an.length (strs an)) st = true ∧ jV (.lst x l.length (strs l)) h now (.lst y an.length (strs an)) st = judgeC h now an (readC l) := by
  unfold jOK jV
  rw [viewS_lst, viewS_lst]
  exact ⟨by show (true && (true && (Nat.ble l.length 9223372036854775807 && Nat.ble an.length 9223372036854775807))) = true; rw [Nat.ble_eq_true_of_le h1, Nat.ble_eq_true_of_le h2]; rfl, rfl⟩
theorem times_close (x : Value) (l : List (List UInt8)) (h : List UInt8) (a b c : Int) (y : Value) (an : List (List UInt8)) (h1 : l.length ≤ 9223372036854775807) (h2 : an.length ≤ 9223372036854775807) :
    FnSat Tryd.prog 6 [lstS x l, .str h, .int .i64 a, .int .i64 b, .int .i64 c, lstS y an] [] (fun v _ => v = .bool true) := by
  refine runW_ok (lim := 9) (n := 10) mixed TT_ok ?_
  unfold lstS
  rw [times_law]
  have e1 := (lo_lst [] x l h1).1
  have e2 := (lo_lst [] y an h2).1
  have e3 := (j_lst [] x y l an h 0 h1 h2).1
  have e4 : ∀ now, jV (.lst x l.length (strs l)) h now (.lst y an.length (strs an)) [] = judgeC h now an (readC l) := fun now => (j_lst [] x y l an h now h1 h2).2
  simp only [e1, e2, e3, e4, cond_true]
  refine bif_intro (fun _ => trivial) (fun _ => ?_)
  refine bif_intro (fun _ => trivial) (fun _ => ?_)
  refine bif_intro (fun _ => trivial) (fun _ => ?_)
  refine bif_intro (fun _ => trivial) (fun g1 => ?_)
  refine bif_intro (fun _ => trivial) (fun g2 => ?_)
  refine bif_intro (fun _ => trivial) (fun g3 => ?_)
  refine bif_intro (fun _ => trivial) (fun g4 => ?_)
  have g1 := of_decide_eq_false g1
  have g2 := of_decide_eq_false g2
  have g3 : judgeC h a an (readC l) = 0 := by simpa using g3
  have g4 : judgeC h c an (readC l) = 0 := by simpa using g4
  rw [judge_mid (a := a) (b := b) (c := c) (by omega) (by omega) g3 g4]
  rfl
end Go.Proofs.YtakfcajmfgnchaaDoor
