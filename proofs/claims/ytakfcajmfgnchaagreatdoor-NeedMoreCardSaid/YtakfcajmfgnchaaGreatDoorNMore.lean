/- NeedMore: what it comes to. -/
import Derived.Test.YtakfcajmfgnchaaGreatDoorAdeq
import Derived.Test.YtakfcajmfgnchaaGreatDoorLong
import Derived.Test.YtakfcajmfgnchaaGreatDoorLargeT
import Derived.Test.YtakfcajmfgnchaaGreatDoorAwake
namespace Go.Proofs.YtakfcajmfgnchaaGreatDoor
open Go Go.Vm Go.RowKit
set_option linter.unusedVariables false
set_option maxRecDepth 100000
set_option linter.unusedSectionVars false
variable [Φ : Frz]
noncomputable def NMT (LOK LB : V → V → St → Bool) (OK : V → V → V → St → Bool) (AV : List UInt8 → V → Bool → Bool → Bool → Int → V → Int → V → St → Bool) : Tab := ⟨addP noT 11 awakeF, addS (addS noL 10 (longGV LOK LB)) 14 (adGV OK AV), noLks 9⟩
theorem NMT_ok : TabOk3 Tryz.prog (NMT longOK longV adOK adV) := ⟨addP_ok noT_ok awakeF_ok, addS_ok (addS_ok noL_ok longG_ok) adGV_ok, noLks_ok 9⟩
theorem more_law (LOK LB : V → V → St → Bool) (OK : V → V → V → St → Bool) (AV : List UInt8 → V → Bool → Bool → Bool → Int → V → Int → V → St → Bool) (h : List UInt8) (x : Value) (n : Nat) (cs : List V) (ch se : Bool) (ty : Int) (ok : Bool) (ver : Int) (p : Value) (k : Nat) (ds : List V) (now : Int) (y : Value) (m : Nat) (es : List V) (R : V → Prop) : runW Tryz.prog (NMT LOK LB OK AV) 9 10 4 [.agg [.str h, .lst x n cs, .bool ch, .bool se, .int .u8 ty], .agg [.bool ok, .int .u16 ver, .lst p k ds], .int .i64 now, .lst y m es] R =
  (
 bif LOK (V.slice 2 0 1 false 0 0) (V.lst x n cs) [Blk.row [V.str h, V.lst x n cs, V.bool ch, V.bool se, V.int IntKind.u8 ty] 38 5, Blk.row [V.bool ok, V.int IntKind.u16
 ver, V.lst p k ds] 33 3, Blk.row [V.str h] 9 1] then bif LB (V.slice 2 0 1 false 0 0) (V.lst x n cs) [Blk.row [V.str h, V.lst x n cs, V.bool ch, V.bool se, V.int
 IntKind.u8 ty] 38 5, Blk.row [V.bool ok, V.int IntKind.u16 ver, V.lst p k ds] 33 3, Blk.row [V.str h] 9 1] then R (V.bool true) else bif LOK (V.lst p k ds) V.nilSlice []
 then bif LB (V.lst p k ds) V.nilSlice [] then R (V.bool true) else bif LOK (V.lst y m es) V.nilSlice [] then bif LB (V.lst y m es) V.nilSlice [] then R (V.bool true) else
 bif OK (V.lst x n cs) (V.lst p k ds) (V.lst y m es) [] then bif !AV h (V.lst x n cs) ch se ok ver (V.lst p k ds) now (V.lst y m es) [] then R (V.bool true) else bif OK
 (V.lst x n cs) (V.lst p k ds) (V.lst y m es) [] then bif AV h (V.lst x n cs) false se ok ver (V.lst p k ds) now (V.lst y m es) [] then bif OK V.nilSlice (V.lst p k ds)
 (V.lst y m es) [] then bif AV h V.nilSlice ch se ok ver (V.lst p k ds) now (V.lst y m es) [] then bif OK V.nilSlice (V.lst p k ds) (V.lst y m es) [] then bif AV h
 V.nilSlice false se ok ver (V.lst p k ds) now (V.lst y m es) [] then bif OK V.nilSlice (V.lst p k ds) (V.lst y m es) [] then R (V.bool (AV h V.nilSlice false false ok ver
 (V.lst p k ds) now (V.lst y m es) [])) else False else R (V.bool false) else False else R (V.bool false) else False else R (V.bool false) else False else False else False
 else False else False) := by kernel_rfl
theorem ad_see {st : St} {P : V} {l : List TL} (hv : viewT st P = some (true, l)) (hu : l.all inU = true) (hl : l.length ≤ 9223372036854775807) (p : Value) (d : List (List UInt8)) (hd : d.length ≤ 9223372036854775807) (y : Value) (e : List (List UInt8)) (he : e.length ≤ 9223372036854775807) :
  adOK P (.lst p d.length (strs d)) (.lst y e.length (strs e)) st = true ∧ (∀ h ch se ok ver now, adV h P ch se ok ver (.lst p d.length (strs d)) now (.lst y e.length (strs e)) st = adC h l ch se ok ver d now e) ∧ (∀ h ch se ty be ok ver now, reV h P ch se ty be ok ver (.lst p d.length (strs d)) now (.lst y e.length (strs e)) st = reC h l ch se ty be ok ver d now e) := by
 have vS : ∀ (z : Value) (r : List (List UInt8)), viewS st (.lst z r.length (strs r)) = some (true, r) := fun z r => by
  unfold viewS viewC
  simp only [strs_len, Nat.mul_one, Nat.beq_refl, strs_isStr, strs_strOf, Bool.and_self]
 refine ⟨?_, fun _ _ _ _ _ _ => ?_, fun _ _ _ _ _ _ _ _ => ?_⟩
 ·unfold adOK; rw [hv, vS, vS]
  show (true && (true && (true && (l.all inU && (Nat.ble l.length 9223372036854775807 && (Nat.ble d.length 9223372036854775807 && Nat.ble e.length 9223372036854775807)))))) = true
  rw [hu, Nat.ble_eq_true_of_le hl, Nat.ble_eq_true_of_le hd, Nat.ble_eq_true_of_le he]; rfl
 ·unfold adV; rw [hv, vS, vS]
 ·unfold reV; rw [hv, vS, vS]
theorem ad_free {h : List UInt8} {l : List TL} {ch se ok : Bool} {ver : Int} {d : List (List UInt8)} {now : Int} {e : List (List UInt8)} (H : adC h l ch se ok ver d now e = true) :
  ok = true ∧ adC h l false se ok ver d now e = true ∧ adC h [] ch se ok ver d now e = true ∧ adC h [] false se ok ver d now e = true := by
 unfold adC askC at *
 have hw : (whI (judgeC h now e (readC d)) == 0) = true ∨ (whI (judgeC h now e (readC d)) == 0) = false := by cases whI (judgeC h now e (readC d)) == 0 <;> simp
 generalize hv : decide (ver < 771) = v at *
 generalize anyC (goodQ (l.take 4)) d h now = A at *
 generalize l.isEmpty = E at *
 generalize whI (judgeC h now e (readC d)) = w at *
 cases se <;> cases ok <;> cases v <;> cases E <;> cases A <;> cases ch <;> first | (cases H; done) | exact ⟨rfl, rfl, rfl, rfl⟩ | exact ⟨rfl, rfl, H, rfl⟩
theorem more_close (h : List UInt8) (x : Value) (l : List TL) (ch se : Bool) (ty : Int) (ok : Bool) (ver : Int) (p : Value) (d : List (List UInt8)) (now : Int) (y : Value) (e : List (List UInt8)) (h1 : l.length ≤ 9223372036854775807) (h4 : l.all inU = true) (h2 : d.length ≤ 9223372036854775807) (h3 : e.length ≤ 9223372036854775807) :
  FnSat Tryz.prog 4 [.agg [.str h, lstT x l, .bool ch, .bool se, .int .u8 ty], .agg [.bool ok, .int .u16 ver, lstS p d], .int .i64 now, lstS y e] [] (fun v _ => v = .bool true) := by
 refine runW_ok (lim := 9) (n := 10) mixed NMT_ok ?_
 unfold lstT lstS
 refine cast (more_law longOK longV adOK adV h x l.length (tls l) ch se ty ok ver p d.length (strs d) now y e.length (strs e) (fun v => v = .bool true)).symm ?_
 have vT : ∀ st, viewT st (.lst x l.length (tls l)) = some (true, l) := fun st => by
  simp only [viewT, viewC, tlD_tls, isTl_tls, tls_len, Nat.beq_refl, Bool.and_true]
  rw [Nat.mul_comm, Nat.beq_refl]
 refine must_intro ?_ ?_
 ·have e1 : ∀ b1 b2 : Blk, viewS [b1, b2, Blk.row [V.str h] 9 1] (.slice 2 0 1 false 0 0) = some (true, [h]) := fun b1 b2 => by
   simp only [viewS, viewC]
   rfl
  unfold longOK
  rw [e1, vT]
  show (true && (true && (Nat.ble 1 9223372036854775807 && Nat.ble l.length 9223372036854775807))) = true
  rw [Nat.ble_eq_true_of_le h1]; rfl
 refine bif_intro (fun _ => rfl) (fun _ => ?_)
 rw [long_nil p d h2, cond_true]
 refine bif_intro (fun _ => rfl) (fun _ => ?_)
 rw [long_nil y e h3, cond_true]
 refine bif_intro (fun _ => rfl) (fun _ => ?_)
 obtain ⟨a1, a2, _⟩ := ad_see (vT []) h4 h1 p d h2 y e h3
 obtain ⟨b1, b2, _⟩ := ad_see (st := []) (P := .nilSlice) (l := []) rfl rfl (by simp) p d h2 y e h3
 simp only [a1, a2, b1, b2, cond_true]
 refine bif_intro (fun _ => trivial) (fun H => ?_)
 rw [Bool.not_eq_false'] at H
 obtain ⟨q1, q2, q3, q4⟩ := ad_free H
 rw [q2, q3, q4, cond_true, cond_true, cond_true]
 unfold adC
 rw [q1]; rfl
end Go.Proofs.YtakfcajmfgnchaaGreatDoor
