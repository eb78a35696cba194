/- NeedResult: what it comes to. -/
import Derived.Test.YtakfcajmfgnchaaGreatDoorTellC
import Derived.Test.YtakfcajmfgnchaaGreatDoorLargeT
import Derived.Test.YtakfcajmfgnchaaGreatDoorAwake
namespace Go.Proofs.YtakfcajmfgnchaaGreatDoor
open Go Go.Vm Go.RowKit
set_option linter.unusedVariables false
set_option maxRecDepth 100000
set_option linter.unusedSectionVars false
variable [Φ : Frz]
noncomputable def NRT (LOK LB : V → V → St → Bool) (LG : List UInt8 → List V → List V → Bool) (OK : V → V → V → St → Bool) (AV : List UInt8 → V → Bool → Bool → Bool → Int → V → Int → V → St → Bool) (RV : List UInt8 → V → Bool → Bool → Int → Bool → Bool → Int → V → Int → V → St → Int) : Tab := ⟨addT (addT (addP noT 11 awakeF) 9 (largeT LG)) 12 tellT, addS (addS (addS noL 10 (longGV LOK LB)) 14 (adGV OK AV)) 13 (reGV OK RV), noLks 9⟩
theorem NRT_ok : TabOk3 Tryz.prog (NRT longOK longV largeV' adOK adV reV) := ⟨addT_ok (addT_ok (addP_ok noT_ok awakeF_ok) largeT_ok) tellT_ok, addS_ok (addS_ok (addS_ok noL_ok longG_ok) adGV_ok) reGV_ok, noLks_ok 9⟩
theorem res_law (LOK LB : V → V → St → Bool) (LG : List UInt8 → List V → List V → Bool) (OK : V → V → V → St → Bool) (AV : List UInt8 → V → Bool → Bool → Bool → Int → V → Int → V → St → Bool) (RV : List UInt8 → V → Bool → Bool → Int → Bool → Bool → Int → V → Int → V → St → Int) (pl rq : Bool) (h : List UInt8) (mx : Bool) (co : Int) (se : Bool) (x1 : Value) (n1 : Nat) (c1 : List V) (x2 : Value) (n2 : Nat) (c2 : List V) (x3 : Value) (n3 : Nat) (c3 : List V) (ha : Bool) (mo : Int) (x4 : Value) (n4 : Nat) (c4 : List V) (ag : Int) (ok : Bool) (ver : Int) (p : Value) (k : Nat) (ds : List V) (now : Int) (y : Value) (m : Nat) (es : List V) (R : V → Prop) : runW Tryz.prog (NRT LOK LB LG OK AV RV) 9 10 3 [.agg [.bool pl, .bool rq, .str h, .bool mx, .int .u8 co, .bool se, .lst x1 n1 c1, .lst x2 n2 c2, .lst x3 n3 c3, .bool ha, .int .u8 mo, .lst x4 n4 c4, .int .i64 ag], .agg [.bool ok, .int .u16 ver, .lst p k ds], .int .i64 now, .lst y m es] R =
  (
 bif okT n3 c3 && okS n4 c4 then bif LG h c4 c3 then R (V.bool true) else bif LOK (V.lst p k ds) V.nilSlice [] then bif LB (V.lst p k ds) V.nilSlice [] then R (V.bool
 true) else bif LOK (V.lst y m es) V.nilSlice [] then bif LB (V.lst y m es) V.nilSlice [] then R (V.bool true) else bif okT n3 c3 && okS n4 c4 && notB pl rq mx co se n3 c3
 ha mo c4 h then R (V.bool true) else bif okT n3 c3 && okS n4 c4 && secB pl rq co se n3 then bif OK (V.slice 2 0 (keysL pl rq co se n3 c3).length false 0 0) (V.lst p k ds)
 (V.lst y m es) [Blk.row [V.bool pl, V.bool rq, V.str h, V.bool mx, V.int IntKind.u8 co, V.bool se, V.lst x1 n1 c1, V.lst x2 n2 c2, V.lst x3 n3 c3, V.bool ha, V.int
 IntKind.u8 mo, V.lst x4 n4 c4, V.int IntKind.i64 ag] 30 13, Blk.row [V.bool ok, V.int IntKind.u16 ver, V.lst p k ds] 33 3, Blk.row (shiftL 2 (tls (keysL pl rq co se n3
 c3))) 51 4, Blk.row [V.str h, V.slice 2 0 (keysL pl rq co se n3 c3).length false 0 0, V.bool (chB pl rq co se n3 c3 ha mo), V.bool true, V.int IntKind.u8 (kdI pl rq true
 ha mo)] 38 5] then bif OK (V.slice 2 0 (keysL pl rq co se n3 c3).length false 0 0) (V.lst p k ds) (V.lst y m es) [Blk.row [V.bool pl, V.bool rq, V.str h, V.bool mx, V.int
 IntKind.u8 co, V.bool se, V.lst x1 n1 c1, V.lst x2 n2 c2, V.lst x3 n3 c3, V.bool ha, V.int IntKind.u8 mo, V.lst x4 n4 c4, V.int IntKind.i64 ag] 30 13, Blk.row [V.bool ok,
 V.int IntKind.u16 ver, V.lst p k ds] 33 3, Blk.row (shiftL 2 (tls (keysL pl rq co se n3 c3))) 51 4, Blk.row [V.str h, V.slice 2 0 (keysL pl rq co se n3 c3).length false 0
 0, V.bool (chB pl rq co se n3 c3 ha mo), V.bool true, V.int IntKind.u8 (kdI pl rq true ha mo)] 38 5] then bif OK (V.slice 2 0 (keysL pl rq co se n3 c3).length false 0 0)
 (V.lst p k ds) (V.lst y m es) [Blk.row [V.bool pl, V.bool rq, V.str h, V.bool mx, V.int IntKind.u8 co, V.bool se, V.lst x1 n1 c1, V.lst x2 n2 c2, V.lst x3 n3 c3, V.bool
 ha, V.int IntKind.u8 mo, V.lst x4 n4 c4, V.int IntKind.i64 ag] 30 13, Blk.row [V.bool ok, V.int IntKind.u16 ver, V.lst p k ds] 33 3, Blk.row (shiftL 2 (tls (keysL pl rq
 co se n3 c3))) 51 4, Blk.row [V.str h, V.slice 2 0 (keysL pl rq co se n3 c3).length false 0 0, V.bool (chB pl rq co se n3 c3 ha mo), V.bool true, V.int IntKind.u8 (kdI pl
 rq true ha mo)] 38 5] then bif RV h (V.slice 2 0 (keysL pl rq co se n3 c3).length false 0 0) (chB pl rq co se n3 c3 ha mo) true (kdI pl rq true ha mo) false ok ver (V.lst
 p k ds) now (V.lst y m es) [Blk.row [V.bool pl, V.bool rq, V.str h, V.bool mx, V.int IntKind.u8 co, V.bool se, V.lst x1 n1 c1, V.lst x2 n2 c2, V.lst x3 n3 c3, V.bool ha,
 V.int IntKind.u8 mo, V.lst x4 n4 c4, V.int IntKind.i64 ag] 30 13, Blk.row [V.bool ok, V.int IntKind.u16 ver, V.lst p k ds] 33 3, Blk.row (shiftL 2 (tls (keysL pl rq co se
 n3 c3))) 51 4, Blk.row [V.str h, V.slice 2 0 (keysL pl rq co se n3 c3).length false 0 0, V.bool (chB pl rq co se n3 c3 ha mo), V.bool true, V.int IntKind.u8 (kdI pl rq
 true ha mo)] 38 5] != 1 then R (V.bool false) else bif decide (RV h (V.slice 2 0 (keysL pl rq co se n3 c3).length false 0 0) (chB pl rq co se n3 c3 ha mo) true (kdI pl rq
 true ha mo) true ok ver (V.lst p k ds) now (V.lst y m es) [Blk.row [V.bool pl, V.bool rq, V.str h, V.bool mx, V.int IntKind.u8 co, V.bool se, V.lst x1 n1 c1, V.lst x2 n2
 c2, V.lst x3 n3 c3, V.bool ha, V.int IntKind.u8 mo, V.lst x4 n4 c4, V.int IntKind.i64 ag] 30 13, Blk.row [V.bool ok, V.int IntKind.u16 ver, V.lst p k ds] 33 3, Blk.row
 (shiftL 2 (tls (keysL pl rq co se n3 c3))) 51 4, Blk.row [V.str h, V.slice 2 0 (keysL pl rq co se n3 c3).length false 0 0, V.bool (chB pl rq co se n3 c3 ha mo), V.bool
 true, V.int IntKind.u8 (kdI pl rq true ha mo)] 38 5] > 5) then R (V.bool false) else bif RV h (V.slice 2 0 (keysL pl rq co se n3 c3).length false 0 0) (chB pl rq co se n3
 c3 ha mo) true (kdI pl rq true ha mo) true ok ver (V.lst p k ds) now (V.lst y m es) [Blk.row [V.bool pl, V.bool rq, V.str h, V.bool mx, V.int IntKind.u8 co, V.bool se,
 V.lst x1 n1 c1, V.lst x2 n2 c2, V.lst x3 n3 c3, V.bool ha, V.int IntKind.u8 mo, V.lst x4 n4 c4, V.int IntKind.i64 ag] 30 13, Blk.row [V.bool ok, V.int IntKind.u16 ver,
 V.lst p k ds] 33 3, Blk.row (shiftL 2 (tls (keysL pl rq co se n3 c3))) 51 4, Blk.row [V.str h, V.slice 2 0 (keysL pl rq co se n3 c3).length false 0 0, V.bool (chB pl rq
 co se n3 c3 ha mo), V.bool true, V.int IntKind.u8 (kdI pl rq true ha mo)] 38 5] == 1 then R (V.bool false) else R (V.bool (AV h (V.slice 2 0 (keysL pl rq co se n3
 c3).length false 0 0) (chB pl rq co se n3 c3 ha mo) true ok ver (V.lst p k ds) now (V.lst y m es) [Blk.row [V.bool pl, V.bool rq, V.str h, V.bool mx, V.int IntKind.u8 co,
 V.bool se, V.lst x1 n1 c1, V.lst x2 n2 c2, V.lst x3 n3 c3, V.bool ha, V.int IntKind.u8 mo, V.lst x4 n4 c4, V.int IntKind.i64 ag] 30 13, Blk.row [V.bool ok, V.int
 IntKind.u16 ver, V.lst p k ds] 33 3, Blk.row (shiftL 2 (tls (keysL pl rq co se n3 c3))) 51 4, Blk.row [V.str h, V.slice 2 0 (keysL pl rq co se n3 c3).length false 0 0,
 V.bool (chB pl rq co se n3 c3 ha mo), V.bool true, V.int IntKind.u8 (kdI pl rq true ha mo)] 38 5] == (RV h (V.slice 2 0 (keysL pl rq co se n3 c3).length false 0 0) (chB
 pl rq co se n3 c3 ha mo) true (kdI pl rq true ha mo) true ok ver (V.lst p k ds) now (V.lst y m es) [Blk.row [V.bool pl, V.bool rq, V.str h, V.bool mx, V.int IntKind.u8
 co, V.bool se, V.lst x1 n1 c1, V.lst x2 n2 c2, V.lst x3 n3 c3, V.bool ha, V.int IntKind.u8 mo, V.lst x4 n4 c4, V.int IntKind.i64 ag] 30 13, Blk.row [V.bool ok, V.int
 IntKind.u16 ver, V.lst p k ds] 33 3, Blk.row (shiftL 2 (tls (keysL pl rq co se n3 c3))) 51 4, Blk.row [V.str h, V.slice 2 0 (keysL pl rq co se n3 c3).length false 0 0,
 V.bool (chB pl rq co se n3 c3 ha mo), V.bool true, V.int IntKind.u8 (kdI pl rq true ha mo)] 38 5] == 0))) else False else False else False else bif okT n3 c3 && okS n4 c4
 then bif OK V.nilSlice (V.lst p k ds) (V.lst y m es) [] then bif OK V.nilSlice (V.lst p k ds) (V.lst y m es) [] then bif OK V.nilSlice (V.lst p k ds) (V.lst y m es) []
 then bif RV h V.nilSlice (rq || efB pl rq ha mo) (rq || efB pl rq ha mo) (kdI pl rq false ha mo) false ok ver (V.lst p k ds) now (V.lst y m es) [] != 1 then R (V.bool
 false) else bif decide (RV h V.nilSlice (rq || efB pl rq ha mo) (rq || efB pl rq ha mo) (kdI pl rq false ha mo) true ok ver (V.lst p k ds) now (V.lst y m es) [] > 5) then
 R (V.bool false) else bif RV h V.nilSlice (rq || efB pl rq ha mo) (rq || efB pl rq ha mo) (kdI pl rq false ha mo) true ok ver (V.lst p k ds) now (V.lst y m es) [] == 1
 then R (V.bool false) else bif rq || efB pl rq ha mo then R (V.bool (AV h V.nilSlice (rq || efB pl rq ha mo) (rq || efB pl rq ha mo) ok ver (V.lst p k ds) now (V.lst y m
 es) [] == (RV h V.nilSlice (rq || efB pl rq ha mo) (rq || efB pl rq ha mo) (kdI pl rq false ha mo) true ok ver (V.lst p k ds) now (V.lst y m es) [] == 0))) else bif RV h
 V.nilSlice (rq || efB pl rq ha mo) (rq || efB pl rq ha mo) (kdI pl rq false ha mo) true ok ver (V.lst p k ds) now (V.lst y m es) [] != 0 then R (V.bool true) else R
 (V.bool (AV h V.nilSlice (rq || efB pl rq ha mo) (rq || efB pl rq ha mo) ok ver (V.lst p k ds) now (V.lst y m es) [])) else False else False else False else False else
 False else False else False) := by kernel_rfl
theorem wh_in (j : Int) : whI j = 0 ∨ whI j = 3 ∨ whI j = 4 ∨ whI j = 5 := by
 unfold whI
 cases j == 0 <;> cases j == 1 <;> cases j == 2 <;> simp
theorem ask_in (h : List UInt8) (l : List TL) (ok : Bool) (ver : Int) (d : List (List UInt8)) (now : Int) (e : List (List UInt8)) (st cf : Bool) : askC h l ok ver d now e st cf = 0 ∨ askC h l ok ver d now e st cf = 2 ∨ askC h l ok ver d now e st cf = 3 ∨ askC h l ok ver d now e st cf = 4 ∨ askC h l ok ver d now e st cf = 5 := by
 unfold askC
 have := wh_in (judgeC h now e (readC d))
 generalize whI (judgeC h now e (readC d)) = w at *
 cases (!ok || (st && decide (ver < 771))) <;> cases (!l.isEmpty && !anyC (goodQ (l.take 4)) d h now) <;> cases cf <;> first | exact .inl rfl | exact .inr (.inl rfl) | (rcases this with h | h | h | h <;> rw [h] <;> simp)
theorem ad_re (h : List UInt8) (l : List TL) (ch : Bool) (ty : Int) (ok : Bool) (ver : Int) (d : List (List UInt8)) (now : Int) (e : List (List UInt8)) (hf : (l.isEmpty && (ch || ty == 2)) = ch) : adC h l ch true ok ver d now e = (reC h l ch true ty true ok ver d now e == 0) := by
 unfold adC reC
 rw [hf]; rfl
theorem re_in (h : List UInt8) (l : List TL) (ch se : Bool) (ty : Int) (ok : Bool) (ver : Int) (d : List (List UInt8)) (now : Int) (e : List (List UInt8)) : decide (reC h l ch se ty true ok ver d now e > 5) = false ∧ (reC h l ch se ty true ok ver d now e == 1) = false := by
 have : reC h l ch se ty true ok ver d now e = askC h l ok ver d now e (se || !(ty == 0 || ty == 3)) (l.isEmpty && (ch || ty == 2)) := rfl
 rw [this]
 rcases ask_in h l ok ver d now e (se || !(ty == 0 || ty == 3)) (l.isEmpty && (ch || ty == 2)) with h | h | h | h | h <;> rw [h] <;> exact ⟨rfl, rfl⟩
theorem kd_two (pl rq ha : Bool) (mo : Int) : (kdI pl rq true ha mo == 2) = false := by
 unfold kdI
 cases (pl && !rq) <;> rfl
theorem ad_view {st : St} {P : V} {l : List TL} (hv : viewT st P = some (true, l)) (hu : l.all inU = true) (hl : l.length ≤ 9223372036854775807) (p : Value) (d : List (List UInt8)) (hd : d.length ≤ 9223372036854775807) (y : Value) (e : List (List UInt8)) (he : e.length ≤ 9223372036854775807) :
  adOK P (.lst p d.length (strs d)) (.lst y e.length (strs e)) st = true ∧ (∀ h ch se ok ver now, adV h P ch se ok ver (.lst p d.length (strs d)) now (.lst y e.length (strs e)) st = adC h l ch se ok ver d now e) ∧ (∀ h ch se ty be ok ver now, reV h P ch se ty be ok ver (.lst p d.length (strs d)) now (.lst y e.length (strs e)) st = reC h l ch se ty be ok ver d now e) := by
 have vS : ∀ (z : Value) (r : List (List UInt8)), viewS st (.lst z r.length (strs r)) = some (true, r) := fun z r => by
  unfold viewS viewC
  simp only [strs_len, Nat.mul_one, Nat.beq_refl, strs_isStr, strs_strOf, Bool.and_self]
 refine ⟨?_, fun _ _ _ _ _ _ => ?_, fun _ _ _ _ _ _ _ _ => ?_⟩
 ·unfold adOK; rw [hv, vS, vS]
  show (true && (true && (true && (l.all inU && (Nat.ble l.length 9223372036854775807 && (Nat.ble d.length 9223372036854775807 && Nat.ble e.length 9223372036854775807)))))) = true
  rw [hu, Nat.ble_eq_true_of_le hl, Nat.ble_eq_true_of_le hd, Nat.ble_eq_true_of_le he]; rfl
 ·unfold adV; rw [hv, vS, vS]
 ·unfold reV; rw [hv, vS, vS]
theorem keys_len (pl rq : Bool) (co : Int) (se : Bool) (n3 : Nat) (c3 : List V) : (keysL pl rq co se n3 c3).length ≤ 4 := by
 unfold keysL
 cases secB pl rq co se n3 with
 | false => simp
 | true =>
  have := good_len (usaL c3)
  have h4 : (usaL c3).length ≤ 4 := by unfold usaL; rw [List.length_take]; omega
  rw [cond_true]; omega
theorem keys_all {pl rq : Bool} {co : Int} {se : Bool} {n3 : Nat} {c3 : List V} (h : (tlD c3).all inU = true) : (keysL pl rq co se n3 c3).all inU = true := by
 unfold keysL
 cases secB pl rq co se n3 with
 | false => rfl
 | true => exact good_sub _ (take_all 4 h)
theorem res_close (pl rq : Bool) (h : List UInt8) (mx : Bool) (co : Int) (se : Bool) (x1 : Value) (n1 : Nat) (c1 : List V) (x2 : Value) (n2 : Nat) (c2 : List V) (x3 : Value) (l3 : List TL) (ha : Bool) (mo : Int) (x4 : Value) (l4 : List (List UInt8)) (ag : Int) (ok : Bool) (ver : Int) (p : Value) (d : List (List UInt8)) (now : Int) (y : Value) (e : List (List UInt8)) (h3 : l3.length ≤ 9223372036854775807) (hu : l3.all inU = true) (h4 : l4.length ≤ 9223372036854775807) (h5 : d.length ≤ 9223372036854775807) (h6 : e.length ≤ 9223372036854775807) :
  FnSat Tryz.prog 3 [.agg [.bool pl, .bool rq, .str h, .bool mx, .int .u8 co, .bool se, .lst x1 n1 c1, .lst x2 n2 c2, lstT x3 l3, .bool ha, .int .u8 mo, lstS x4 l4, .int .i64 ag], .agg [.bool ok, .int .u16 ver, lstS p d], .int .i64 now, lstS y e] [] (fun v _ => v = .bool true) := by
 refine runW_ok (lim := 9) (n := 10) mixed NRT_ok ?_
 unfold lstT lstS
 refine cast (res_law longOK longV largeV' adOK adV reV pl rq h mx co se x1 n1 c1 x2 n2 c2 x3 l3.length (tls l3) ha mo x4 l4.length (strs l4) ag ok ver p d.length (strs d) now y e.length (strs e) (fun v => v = .bool true)).symm ?_
 have hk : (okT l3.length (tls l3) && okS l4.length (strs l4)) = true := by rw [okT_mk h3, okS_mk h4]; rfl
 rw [hk, Bool.true_and, Bool.true_and, cond_true]
 refine bif_intro (fun _ => rfl) (fun _ => ?_)
 rw [long_nil p d h5, cond_true]
 refine bif_intro (fun _ => rfl) (fun _ => ?_)
 rw [long_nil y e h6, cond_true]
 refine bif_intro (fun _ => rfl) (fun _ => ?_)
 refine bif_intro (fun _ => rfl) (fun _ => ?_)
 have kl := keys_len pl rq co se l3.length (tls l3)
 have ka : (keysL pl rq co se l3.length (tls l3)).all inU = true := keys_all (by rw [tlD_tls]; exact hu)
 refine bif_intro (fun hs => ?_) (fun hs => ?_)
 ·have hv : viewT [Blk.row [V.bool pl, V.bool rq, V.str h, V.bool mx, V.int IntKind.u8 co, V.bool se, V.lst x1 n1 c1, V.lst x2 n2 c2, V.lst x3 l3.length (tls l3), V.bool ha, V.int IntKind.u8 mo, V.lst x4 l4.length (strs l4), V.int IntKind.i64 ag] 30 13, Blk.row [V.bool ok, V.int IntKind.u16 ver, V.lst p d.length (strs d)] 33 3, Blk.row (shiftL 2 (tls (keysL pl rq co se l3.length (tls l3)))) 51 4, Blk.row [V.str h, V.slice 2 0 (keysL pl rq co se l3.length (tls l3)).length false 0 0, V.bool (chB pl rq co se l3.length (tls l3) ha mo), V.bool true, V.int IntKind.u8 (kdI pl rq true ha mo)] 38 5] (V.slice 2 0 (keysL pl rq co se l3.length (tls l3)).length false 0 0) = some (true, keysL pl rq co se l3.length (tls l3)) := by
   refine view_tls (z := []) (.inl ⟨51, 4, ?_⟩) false 0 0
   rw [shT, List.append_nil]; rfl
  obtain ⟨a1, a2, a3⟩ := ad_view hv ka (by omega) p d h5 y e h6
  rw [a1, a2, a3, a3]
  have hf : ((keysL pl rq co se l3.length (tls l3)).isEmpty && (chB pl rq co se l3.length (tls l3) ha mo || kdI pl rq true ha mo == 2)) = chB pl rq co se l3.length (tls l3) ha mo := by
   rw [kd_two, Bool.or_false]; unfold chB
   cases (keysL pl rq co se l3.length (tls l3)).isEmpty <;> rfl
  rw [ad_re h _ _ (kdI pl rq true ha mo) ok ver d now e hf]
  obtain ⟨b1, b2⟩ := re_in h (keysL pl rq co se l3.length (tls l3)) (chB pl rq co se l3.length (tls l3) ha mo) true (kdI pl rq true ha mo) ok ver d now e
  rw [b1, b2, beq_self_eq_true]; rfl
 ·obtain ⟨a1, a2, a3⟩ := ad_view (st := []) (P := .nilSlice) (l := []) rfl rfl (by simp) p d h5 y e h6
  rw [a1, a2, a3, a3]
  obtain ⟨b1, b2⟩ := re_in h [] (rq || efB pl rq ha mo) (rq || efB pl rq ha mo) (kdI pl rq false ha mo) ok ver d now e
  rw [b1, b2]
  cases hc : (rq || efB pl rq ha mo) with
  | true =>
   rw [ad_re h [] true (kdI pl rq false ha mo) ok ver d now e rfl, beq_self_eq_true]; rfl
  | false =>
   cases ok with
   | true =>
    show bif (reC h [] false false (kdI pl rq false ha mo) true true ver d now e != 0) then V.bool true = V.bool true else V.bool (adC h [] false false true ver d now e) = V.bool true
    exact bif_intro (fun _ => rfl) (fun _ => rfl)
   | false => rfl
end Go.Proofs.YtakfcajmfgnchaaGreatDoor
