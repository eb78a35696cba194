/- TrustStar: the law. -/
import Derived.Test.YtakfcajmfgnchaaDoorTTimes
import Derived.Test.YtakfcajmfgnchaaDoorTStar
namespace Go.Proofs.YtakfcajmfgnchaaDoor
open Go Go.Vm Go.RowKit
set_option linter.unusedVariables false
set_option maxRecDepth 100000
set_option linter.unusedSectionVars false
variable [Φ : Frz]
def digV (DG : List UInt8 → List UInt8) : List V → Option V
 | [.str k] => some (.str (DG k))
 | _ => none
theorem digV_ok (args : List V) (v : V) (h : digV digB args = some v) : FnSat Tryd.prog 12 args [] (Is (v, [])) := by
 unfold digV at h
 split at h
 ·exact dig_ok _ _ h
 ·cases h
noncomputable def SL (DG : List UInt8 → List UInt8) (LOK LB : V → St → Bool) (OK : V → St → Bool) (HV : V → List UInt8 → St → Bool) : Tab := ⟨addP (addP noT 16 awakeF) 12 (digV DG), addS (addS (addS noL 15 (loGV LOK LB)) 20 (hostGV OK HV)) 13 encG, addLk (noLks 9) 7 0 lkSO⟩
theorem SL_ok : TabOk3 Tryd.prog (SL digB loOK loB hOK hV) := ⟨addP_ok (addP_ok noT_ok awakeF_ok) digV_ok, addS_ok (addS_ok (addS_ok noL_ok loG_ok) hostGV_ok) encG_ok, addLk_ok (noLks_ok 9) lkSO_ok⟩
theorem star_law (DG : List UInt8 → List UInt8) (LOK LB : V → St → Bool) (OK : V → St → Bool) (HV : V → List UInt8 → St → Bool) (x : Value) (n : Nat) (cs : List V) (h : List UInt8) (R : V → Prop) : runW Tryd.prog (SL DG LOK LB OK HV) 9 10 7 [.lst x n cs, .str h] R =
  (
 bif LOK (V.lst x n cs) [] then bif LB (V.lst x n cs) [] then R (V.bool true) else bif decide ((↑h.length : Int) > 3000) then R (V.bool true) else Fits 0 [V.lst x n cs,
 V.str h, V.bool false, V.bool false, V.int IntKind.i64 0, V.int IntKind.i64 0] [] [some (V.lst x n cs), some (V.str h), some (V.bool false), some (V.bool false), some
 (V.int IntKind.i64 0), some (V.int IntKind.i64 0)] [] ∧ bif daPre { x := x, n := n, cs := cs, h := h, d := 0, i := 0 } then Fits 0 [V.lst x n cs, V.str h, V.bool false,
 V.bool false, V.int IntKind.i64 (↑(dotN h) : Int), V.int IntKind.i64 0] [] [some (V.lst x n cs), some (V.str h), some (V.bool false), some (V.bool false), some (V.int
 IntKind.i64 (↑(dotN h) : Int)), some (V.int IntKind.i64 0)] [] ∧ bif soPre { x := x, n := n, cs := cs, h := h, want := false, d := (↑(dotN h) : Int), j := 0 } then bif
 cs.length.beq (n * 1) && (cs.all isStrV && cs.length.beq n) && (List.map strOfV cs).length.ble 9223372036854775807 then bif OK (V.lst x n cs) [] then bif HV (V.lst x n
 cs) h [] == (false || soAny cs 0 h) then bif encE [107] (DG [107]) (List.map strOfV cs) 10 20 false == 0 then R (V.bool true) else bif encE [107] (DG [107]) (List.map
 strOfV cs) 10 20 false == 4 then R (V.bool true) else R (V.bool (encE [107] (DG [107]) (List.map strOfV cs) 10 20 false == 40)) else R (V.bool false) else False else
 False else False else False else False) := by kernel_rfl
theorem lo_len : ∀ (l : List (List UInt8)) (a : Nat), loN a l < 6000 → ∀ s ∈ l, s.length < 6000
 | [], _, _, s, hs => by cases hs
 | t :: r, a, h, s, hs => by
  rw [loN] at h
  have mono : ∀ (l : List (List UInt8)) (a : Nat), a ≤ loN a l := by
   intro l
   induction l with
   | nil => exact fun a => Nat.le_refl _
   | cons t r ih =>
    intro a
    rw [loN]
    split
    ·exact Nat.le_trans (by omega) (ih _)
    ·exact Nat.le_refl _
  split at h
  ·rcases List.mem_cons.1 hs with rfl | hs
   ·have := mono r (a + 5 + min 6000 s.length)
    omega
   ·exact lo_len r _ h s hs
  ·omega
theorem enc_three (k g : List UInt8) (l : List (List UInt8)) (f u : Int) (ca : Bool) : encE k g l f u ca = 0 ∨ encE k g l f u ca = 4 ∨ encE k g l f u ca = 40 := by
 unfold encE
 cases encOk k g l f u with
 | false => exact .inr (.inl rfl)
 | true =>
  rw [cond_true]
  cases decide (((putB 48 (encIn k g l f u ca)).length : Int) > 512) with
  | true => exact .inr (.inr rfl)
  | false => exact .inl rfl
theorem star_close (x : Value) (l : List (List UInt8)) (h : List UInt8) (h1 : l.length ≤ 9223372036854775807) :
  FnSat Tryd.prog 7 [lstS x l, .str h] [] (fun v _ => v = .bool true) := by
 refine runW_ok (lim := 9) (n := 10) mixed SL_ok ?_
 unfold lstS
 rw [star_law]
 have e1 := (lo_lst [] x l h1).1
 have e2 := (lo_lst [] x l h1).2
 obtain ⟨e3, e4⟩ := h_lst [] x l h1
 simp only [e1, e2, e3, e4, cond_true]
 refine bif_intro (fun _ => trivial) (fun hl => ?_)
 refine bif_intro (fun _ => trivial) (fun hh => ?_)
 have hl : loN 0 l < 6000 := by
  unfold longS at hl
  have := of_decide_eq_false hl
  omega
 have hh := of_decide_eq_false hh
 have hs : List.map strOfV (strs l) = l := strs_strOf l
 refine ⟨vs_fits [V.lst x l.length (strs l), V.str h, V.bool false, V.bool false, V.int IntKind.i64 0, V.int IntKind.i64 0] rfl _ rfl _, must_intro ?_ ⟨vs_fits [V.lst x l.length (strs l), V.str h, V.bool false, V.bool false, V.int IntKind.i64 (dotN h : Nat), V.int IntKind.i64 0] rfl _ rfl _, must_intro ?_ (must_intro ?_ ?_)⟩⟩
 ·unfold daPre
  simp only [Bool.and_eq_true]
  exact ⟨decide_eq_true (show h.length ≤ 1099511627776 by omega), Nat.ble_eq_true_of_le (Nat.zero_le _), nbeq (by rw [List.drop_zero]; omega)⟩
 ·unfold soPre
  simp only [Bool.and_eq_true]
  refine ⟨okS_mk h1, Nat.ble_eq_true_of_le (Nat.zero_le _), by simp, ?_⟩
  rw [hs, List.all_eq_true]
  intro s hm
  have := lo_len l 0 hl s hm
  exact decide_eq_true (show s.length ≤ 1099511627776 by omega)
 ·rw [hs, strs_len, strs_isStr, Nat.mul_one, Nat.beq_refl, Nat.ble_eq_true_of_le h1]; rfl
 ·unfold soAny
  rw [hs, List.drop_zero, Bool.false_or, beq_self_eq_true, cond_true]
  rcases enc_three [107] (digB [107]) l 10 20 false with e | e | e <;> rw [e] <;> simp
end Go.Proofs.YtakfcajmfgnchaaDoor
