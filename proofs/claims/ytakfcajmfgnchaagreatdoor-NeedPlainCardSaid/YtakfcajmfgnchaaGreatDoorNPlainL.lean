/- NeedPlain: what it comes to. -/
import Derived.Test.YtakfcajmfgnchaaGreatDoorNPlain
import Derived.Test.YtakfcajmfgnchaaGreatDoorAwake
import Derived.Test.YtakfcajmfgnchaaGreatDoorNPlainS
namespace Go.Proofs.YtakfcajmfgnchaaGreatDoor
open Go Go.Vm Go.RowKit
set_option linter.unusedVariables false
set_option linter.unusedSectionVars false
set_option maxRecDepth 100000
variable [Φ : Frz]
def largeT (LG : List UInt8 → List V → List V → Bool) : List V → Option (List (Bool × (V × St)))
  | [.agg [.bool _, .bool _, .str h, .bool _, .int .u8 _, .bool _, .lst _ _ _, .lst _ _ _, .lst _ n3 c3, .bool _, .int .u8 _, .lst _ n4 c4, .int .i64 _]] => some [(okT n3 c3 && okS n4 c4, (.bool (LG h c4 c3), []))]
  | _ => none
def largeV' (h : List UInt8) (c4 c3 : List V) : Bool := largeB h (c4.map strOfV) (tlD c3)
theorem largeT_ok (args : List V) (l : List (Bool × (V × St))) (o : V × St) (h : largeT largeV' args = some l) (ho : pickO l = some o) : FnSat Tryz.prog 9 args [] (Is o) := by
  unfold largeT at h
  split at h
  · rename_i pl rq hh mx co se x1 n1 c1 x2 n2 c2 x3 n3 c3 ha mo x4 n4 c4 ag
    cases h
    obtain ⟨hb, rfl⟩ := pickO_one ho
    rw [Bool.and_eq_true] at hb
    obtain ⟨rs, rfl, rfl, g1, g2⟩ := okT_spec hb.1
    obtain ⟨ms, rfl, rfl, g3, g4⟩ := okS_spec hb.2
    unfold largeV'
    rw [g2, g4]
    exact large_sat pl rq hh mx co se x1 n1 c1 x2 n2 c2 x3 rs ha mo x4 ms ag g3 g1
  · cases h
noncomputable def NL (OK LB : V → V → St → Bool) (LG : List UInt8 → List V → List V → Bool) : Tab := ⟨addT (addP (addP (addP noT 11 awakeF) 15 sameT) 14 adeqT) 9 (largeT LG), addS noL 10 (longGV OK LB), noLks 9⟩
theorem NL_ok : TabOk3 Tryz.prog (NL longOK longV largeV') := ⟨addT_ok (addP_ok (addP_ok (addP_ok noT_ok awakeF_ok) sameT_ok) adeqT_ok) largeT_ok, addS_ok noL_ok longG_ok, noLks_ok 9⟩
theorem plain_law (OK LB : V → V → St → Bool) (LG : List UInt8 → List V → List V → Bool) (pl rq : Bool) (h : List UInt8) (mx : Bool) (co : Int) (se : Bool) (x1 : Value) (n1 : Nat) (c1 : List V) (x2 : Value) (n2 : Nat) (c2 : List V) (x3 : Value) (n3 : Nat) (c3 : List V) (ha : Bool) (mo : Int) (x4 : Value) (n4 : Nat) (c4 : List V) (ag : Int) (sok : Bool) (ver : Int) (x5 : Value) (n5 : Nat) (c5 : List V) (now : Int) (x6 : Value) (n6 : Nat) (c6 : List V) (R : V → Prop) : runW Tryz.prog (NL OK LB LG) 9 10 7 [.agg [.bool pl, .bool rq, .str h, .bool mx, .int .u8 co, .bool se, .lst x1 n1 c1, .lst x2 n2 c2, .lst x3 n3 c3, .bool ha, .int .u8 mo, .lst x4 n4 c4, .int .i64 ag], .agg [.bool sok, .int .u16 ver, .lst x5 n5 c5], .int .i64 now, .lst x6 n6 c6] R =
   (
 bif okT n3 c3 && okS n4 c4 then bif LG h c4 c3 then R (V.bool true) else bif OK (V.lst x5 n5 c5) V.nilSlice [] then bif LB (V.lst x5 n5 c5) V.nilSlice [] then R (V.bool
 true) else bif OK (V.lst x6 n6 c6) V.nilSlice [] then bif LB (V.lst x6 n6 c6) V.nilSlice [] then R (V.bool true) else bif h == h && true then bif sok == sok then R
 (V.bool true) else R (V.bool false) else R (V.bool false) else False else False else False) := by kernel_rfl
theorem okSs {l : List (List UInt8)} (h : l.length ≤ 9223372036854775807) : okS l.length (strs l) = true := by
  unfold okS; rw [strs_isStr, strs_len, Nat.beq_refl, Nat.ble_eq_true_of_le h]; rfl
theorem long_nil (x : Value) (l : List (List UInt8)) (h : l.length ≤ 9223372036854775807) : longOK (.lst x l.length (strs l)) .nilSlice [] = true := by
  have e1 : viewS [] (.lst x l.length (strs l)) = some (true, l) := by
    simp only [viewS, viewC, strs_len, Nat.mul_one, Nat.beq_refl, strs_isStr, strs_strOf, Bool.and_self]
  unfold longOK
  rw [e1]
  show (true && (true && (Nat.ble l.length 9223372036854775807 && Nat.ble 0 9223372036854775807))) = true
  rw [Nat.ble_eq_true_of_le h]; rfl
theorem plain_close (pl rq : Bool) (h : List UInt8) (mx : Bool) (co : Int) (se : Bool) (x1 : Value) (n1 : Nat) (c1 : List V) (x2 : Value) (n2 : Nat) (c2 : List V) (x3 : Value) (rs : List TL) (ha : Bool) (mo : Int) (x4 : Value) (ms : List (List UInt8)) (ag : Int) (sok : Bool) (ver : Int) (x5 : Value) (l5 : List (List UInt8)) (now : Int) (x6 : Value) (l6 : List (List UInt8))
    (h2 : rs.length ≤ 9223372036854775807) (h1 : ms.length ≤ 9223372036854775807) (h3 : l5.length ≤ 9223372036854775807) (h4 : l6.length ≤ 9223372036854775807) :
    FnSat Tryz.prog 7 [.agg [.bool pl, .bool rq, .str h, .bool mx, .int .u8 co, .bool se, .lst x1 n1 c1, .lst x2 n2 c2, .lst x3 rs.length (tls rs), .bool ha, .int .u8 mo, .lst x4 ms.length (strs ms), .int .i64 ag], .agg [.bool sok, .int .u16 ver, .lst x5 l5.length (strs l5)], .int .i64 now, .lst x6 l6.length (strs l6)] [] (fun v _ => v = .bool true) := by
  refine runW_ok (lim := 9) (n := 10) mixed NL_ok ?_
  rw [plain_law, okT_mk h2, okSs h1, Bool.and_self, cond_true]
  refine bif_intro (fun _ => rfl) (fun _ => ?_)
  rw [long_nil x5 l5 h3, cond_true]
  refine bif_intro (fun _ => rfl) (fun _ => ?_)
  rw [long_nil x6 l6 h4, cond_true]
  refine bif_intro (fun _ => rfl) (fun _ => ?_)
  rw [beq_self_eq_true, beq_self_eq_true]
  rfl
end Go.Proofs.YtakfcajmfgnchaaGreatDoor
