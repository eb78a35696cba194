/- NeedKeys: what it comes to. -/
import Derived.Test.YtakfcajmfgnchaaGreatDoorTellC
import Derived.Test.YtakfcajmfgnchaaGreatDoorLargeU
import Derived.Test.YtakfcajmfgnchaaGreatDoorNSame
import Derived.Test.YtakfcajmfgnchaaGreatDoorAwake
namespace Go.Proofs.YtakfcajmfgnchaaGreatDoor
open Go Go.Vm Go.RowKit
set_option linter.unusedVariables false
set_option maxRecDepth 100000
set_option linter.unusedSectionVars false
variable [Φ : Frz]
noncomputable def NKT (LG : List UInt8 → List V → List V → Bool) (OK : V → V → St → Bool) (SV : List UInt8 → V → Bool → Bool → Int → List UInt8 → V → Bool → Bool → Int → St → Bool) : Tab := ⟨addT (addT (addP noT 11 awakeF) 9 (largeU LG)) 12 tellT, addS noL 15 (nsGV OK SV), noLks 9⟩
theorem NKT_ok : TabOk3 Tryz.prog (NKT largeV' nsOK nsV) := ⟨addT_ok (addT_ok (addP_ok noT_ok awakeF_ok) largeU_ok) tellT_ok, addS_ok noL_ok nsGV_ok, noLks_ok 9⟩
theorem keys_law (LG : List UInt8 → List V → List V → Bool) (OK : V → V → St → Bool) (SV : List UInt8 → V → Bool → Bool → Int → List UInt8 → V → Bool → Bool → Int → St → Bool) (pl rq : Bool) (h : List UInt8) (mx : Bool) (co : Int) (se : Bool) (x1 : Value) (n1 : Nat) (c1 : List V) (x2 : Value) (n2 : Nat) (c2 : List V) (x3 : Value) (n3 : Nat) (c3 : List V) (ha : Bool) (mo : Int) (x4 : Value) (n4 : Nat) (c4 : List V) (ag : Int) (mo' : Int) (y4 : Value) (k4 : Nat) (d4 : List V) (ag' : Int) (ha' : Bool) (R : V → Prop) : runW Tryz.prog (NKT LG OK SV) 9 10 5 [.agg [.bool pl, .bool rq, .str h, .bool mx, .int .u8 co, .bool se, .lst x1 n1 c1, .lst x2 n2 c2, .lst x3 n3 c3, .bool ha, .int .u8 mo, .lst x4 n4 c4, .int .i64 ag], .agg [.int .u8 mo', .lst y4 k4 d4, .int .i64 ag'], .bool ha'] R =
  (
 bif okT n3 c3 && okS n4 c4 then bif LG h c4 c3 then R (V.bool true) else bif okS k4 d4 then bif LG [] d4 [] then R (V.bool true) else bif okT n3 c3 && okS n4 c4 && notB
 false rq mx co se n3 c3 ha mo c4 h then R (V.bool rq) else bif okT n3 c3 && okS n4 c4 && secB false rq co se n3 then bif (↑(keysL false rq co se n3 c3).length : Int) == 0
 then R (V.bool true) else bif okT n3 c3 && okS k4 d4 && notB false (!rq) (!mx) co se n3 c3 ha' mo' d4 h then R (V.bool false) else bif okT n3 c3 && okS k4 d4 && secB
 false (!rq) co se n3 then bif OK (V.slice 2 0 (keysL false rq co se n3 c3).length false 0 0) (V.slice 5 0 (keysL false (!rq) co se n3 c3).length false 0 0) [Blk.row
 [V.bool false, V.bool rq, V.str h, V.bool mx, V.int IntKind.u8 co, V.bool se, V.lst x1 n1 c1, V.lst x2 n2 c2, V.lst x3 n3 c3, V.bool ha, V.int IntKind.u8 mo, V.lst x4 n4
 c4, V.int IntKind.i64 ag] 30 13, Blk.row [V.int IntKind.u8 mo', V.lst y4 k4 d4, V.int IntKind.i64 ag'] 28 3, Blk.row (shiftL 2 (tls (keysL false rq co se n3 c3))) 51 4,
 Blk.row [V.str h, V.slice 2 0 (keysL false rq co se n3 c3).length false 0 0, V.bool (chB false rq co se n3 c3 ha mo), V.bool true, V.int IntKind.u8 (kdI false rq true ha
 mo)] 38 5, Blk.row [V.bool false, V.bool !rq, V.str h, V.bool !mx, V.int IntKind.u8 co, V.bool se, V.lst x1 n1 c1, V.lst x2 n2 c2, V.lst x3 n3 c3, V.bool ha', V.int
 IntKind.u8 mo', V.lst y4 k4 d4, V.int IntKind.i64 ag'] 30 13, Blk.row (shiftL 5 (tls (keysL false (!rq) co se n3 c3))) 51 4, Blk.row [V.str h, V.slice 5 0 (keysL false
 (!rq) co se n3 c3).length false 0 0, V.bool (chB false (!rq) co se n3 c3 ha' mo'), V.bool true, V.int IntKind.u8 (kdI false (!rq) true ha' mo')] 38 5] then bif SV h
 (V.slice 2 0 (keysL false rq co se n3 c3).length false 0 0) (chB false rq co se n3 c3 ha mo) true (kdI false rq true ha mo) h (V.slice 5 0 (keysL false (!rq) co se n3
 c3).length false 0 0) (chB false (!rq) co se n3 c3 ha' mo') true (kdI false (!rq) true ha' mo') [Blk.row [V.bool false, V.bool rq, V.str h, V.bool mx, V.int IntKind.u8
 co, V.bool se, V.lst x1 n1 c1, V.lst x2 n2 c2, V.lst x3 n3 c3, V.bool ha, V.int IntKind.u8 mo, V.lst x4 n4 c4, V.int IntKind.i64 ag] 30 13, Blk.row [V.int IntKind.u8 mo',
 V.lst y4 k4 d4, V.int IntKind.i64 ag'] 28 3, Blk.row (shiftL 2 (tls (keysL false rq co se n3 c3))) 51 4, Blk.row [V.str h, V.slice 2 0 (keysL false rq co se n3 c3).length
 false 0 0, V.bool (chB false rq co se n3 c3 ha mo), V.bool true, V.int IntKind.u8 (kdI false rq true ha mo)] 38 5, Blk.row [V.bool false, V.bool !rq, V.str h, V.bool !mx,
 V.int IntKind.u8 co, V.bool se, V.lst x1 n1 c1, V.lst x2 n2 c2, V.lst x3 n3 c3, V.bool ha', V.int IntKind.u8 mo', V.lst y4 k4 d4, V.int IntKind.i64 ag'] 30 13, Blk.row
 (shiftL 5 (tls (keysL false (!rq) co se n3 c3))) 51 4, Blk.row [V.str h, V.slice 5 0 (keysL false (!rq) co se n3 c3).length false 0 0, V.bool (chB false (!rq) co se n3 c3
 ha' mo'), V.bool true, V.int IntKind.u8 (kdI false (!rq) true ha' mo')] 38 5] then R (V.bool !chB false rq co se n3 c3 ha mo) else R (V.bool false) else False else bif
 okT n3 c3 && okS k4 d4 then bif OK (V.slice 2 0 (keysL false rq co se n3 c3).length false 0 0) V.nilSlice [Blk.row [V.bool false, V.bool rq, V.str h, V.bool mx, V.int
 IntKind.u8 co, V.bool se, V.lst x1 n1 c1, V.lst x2 n2 c2, V.lst x3 n3 c3, V.bool ha, V.int IntKind.u8 mo, V.lst x4 n4 c4, V.int IntKind.i64 ag] 30 13, Blk.row [V.int
 IntKind.u8 mo', V.lst y4 k4 d4, V.int IntKind.i64 ag'] 28 3, Blk.row (shiftL 2 (tls (keysL false rq co se n3 c3))) 51 4, Blk.row [V.str h, V.slice 2 0 (keysL false rq co
 se n3 c3).length false 0 0, V.bool (chB false rq co se n3 c3 ha mo), V.bool true, V.int IntKind.u8 (kdI false rq true ha mo)] 38 5, Blk.row [V.bool false, V.bool !rq,
 V.str h, V.bool !mx, V.int IntKind.u8 co, V.bool se, V.lst x1 n1 c1, V.lst x2 n2 c2, V.lst x3 n3 c3, V.bool ha', V.int IntKind.u8 mo', V.lst y4 k4 d4, V.int IntKind.i64
 ag'] 30 13, Blk.row [V.str h, V.nilSlice, V.bool (!rq || efB false (!rq) ha' mo'), V.bool (!rq || efB false (!rq) ha' mo'), V.int IntKind.u8 (kdI false (!rq) false ha'
 mo')] 38 5] then bif SV h (V.slice 2 0 (keysL false rq co se n3 c3).length false 0 0) (chB false rq co se n3 c3 ha mo) true (kdI false rq true ha mo) h V.nilSlice (!rq ||
 efB false (!rq) ha' mo') (!rq || efB false (!rq) ha' mo') (kdI false (!rq) false ha' mo') [Blk.row [V.bool false, V.bool rq, V.str h, V.bool mx, V.int IntKind.u8 co,
 V.bool se, V.lst x1 n1 c1, V.lst x2 n2 c2, V.lst x3 n3 c3, V.bool ha, V.int IntKind.u8 mo, V.lst x4 n4 c4, V.int IntKind.i64 ag] 30 13, Blk.row [V.int IntKind.u8 mo',
 V.lst y4 k4 d4, V.int IntKind.i64 ag'] 28 3, Blk.row (shiftL 2 (tls (keysL false rq co se n3 c3))) 51 4, Blk.row [V.str h, V.slice 2 0 (keysL false rq co se n3 c3).length
 false 0 0, V.bool (chB false rq co se n3 c3 ha mo), V.bool true, V.int IntKind.u8 (kdI false rq true ha mo)] 38 5, Blk.row [V.bool false, V.bool !rq, V.str h, V.bool !mx,
 V.int IntKind.u8 co, V.bool se, V.lst x1 n1 c1, V.lst x2 n2 c2, V.lst x3 n3 c3, V.bool ha', V.int IntKind.u8 mo', V.lst y4 k4 d4, V.int IntKind.i64 ag'] 30 13, Blk.row
 [V.str h, V.nilSlice, V.bool (!rq || efB false (!rq) ha' mo'), V.bool (!rq || efB false (!rq) ha' mo'), V.int IntKind.u8 (kdI false (!rq) false ha' mo')] 38 5] then R
 (V.bool !chB false rq co se n3 c3 ha mo) else R (V.bool false) else False else False else bif okT n3 c3 && okS n4 c4 then R (V.bool true) else False else False else False) := by kernel_rfl
theorem keys_four (pl rq : Bool) (co : Int) (se : Bool) (n3 : Nat) (c3 : List V) : (keysL pl rq co se n3 c3).length ≤ 4 := by
 unfold keysL
 cases secB pl rq co se n3 with
 | false => simp
 | true =>
  have := good_len (usaL c3)
  have h4 : (usaL c3).length ≤ 4 := by unfold usaL; rw [List.length_take]; omega
  rw [cond_true]; omega
theorem keys_close (pl rq : Bool) (h : List UInt8) (mx : Bool) (co : Int) (se : Bool) (x1 : Value) (n1 : Nat) (c1 : List V) (x2 : Value) (n2 : Nat) (c2 : List V) (x3 : Value) (l3 : List TL) (ha : Bool) (mo : Int) (x4 : Value) (l4 : List (List UInt8)) (ag : Int) (mo' : Int) (y4 : Value) (d4 : List (List UInt8)) (ag' : Int) (ha' : Bool) (h3 : l3.length ≤ 9223372036854775807) (h4 : l4.length ≤ 9223372036854775807) (h5 : d4.length ≤ 9223372036854775807) :
  FnSat Tryz.prog 5 [.agg [.bool pl, .bool rq, .str h, .bool mx, .int .u8 co, .bool se, .lst x1 n1 c1, .lst x2 n2 c2, lstT x3 l3, .bool ha, .int .u8 mo, lstS x4 l4, .int .i64 ag], .agg [.int .u8 mo', lstS y4 d4, .int .i64 ag'], .bool ha'] [] (fun v _ => v = .bool true) := by
 refine runW_ok (lim := 9) (n := 10) mixed NKT_ok ?_
 unfold lstT lstS
 refine cast (keys_law largeV' nsOK nsV pl rq h mx co se x1 n1 c1 x2 n2 c2 x3 l3.length (tls l3) ha mo x4 l4.length (strs l4) ag mo' y4 d4.length (strs d4) ag' ha' (fun v => v = .bool true)).symm ?_
 have e1 := okT_mk h3
 have e2 := okS_mk h4
 have e3 := okS_mk h5
 have hK : keysL false (!rq) co se l3.length (tls l3) = keysL false rq co se l3.length (tls l3) := rfl
 rw [e1, e2, e3, hK]
 refine must_intro rfl ?_
 refine bif_intro (fun _ => rfl) (fun _ => ?_)
 refine must_intro rfl ?_
 refine bif_intro (fun _ => rfl) (fun _ => ?_)
 refine bif_intro (fun hn => ?_) (fun _ => ?_)
 ·unfold notB at hn
  simp only [Bool.true_and, Bool.and_eq_true] at hn
  rw [hn.1]
 refine bif_intro (fun hs => ?_) (fun _ => must_intro rfl rfl)
 refine bif_intro (fun _ => rfl) (fun hz => ?_)
 have hne : (keysL false rq co se l3.length (tls l3)).isEmpty = false := by
  cases hq : keysL false rq co se l3.length (tls l3) with
  | nil => rw [hq] at hz; simp at hz
  | cons a r => rfl
 have hc1 : chB false rq co se l3.length (tls l3) ha mo = false := by unfold chB; rw [hne]; rfl
 have hc2 : chB false (!rq) co se l3.length (tls l3) ha' mo' = false := by unfold chB; rw [hK, hne]; rfl
 have hn2 : notB false (!rq) (!mx) co se l3.length (tls l3) ha' mo' (strs d4) h = false := by unfold notB; rw [hK, hne, Bool.false_and, Bool.and_false]
 have hs2 : secB false (!rq) co se l3.length = true := by
  rw [Bool.true_and, Bool.true_and] at hs
  exact hs
 rw [hn2, hs2, hc1, hc2]
 refine bif_intro (fun hf => by cases hf) (fun _ => ?_)
 refine bif_intro (fun _ => ?_) (fun hf => by cases hf)
 have kl := keys_four false rq co se l3.length (tls l3)
 generalize keysL false rq co se l3.length (tls l3) = K at *
 generalize hS : ([Blk.row [V.bool false, V.bool rq, V.str h, V.bool mx, V.int IntKind.u8 co, V.bool se, V.lst x1 n1 c1, V.lst x2 n2 c2, V.lst x3 l3.length (tls l3), V.bool ha, V.int IntKind.u8 mo, V.lst x4 l4.length (strs l4), V.int IntKind.i64 ag] 30 13, Blk.row [V.int IntKind.u8 mo', V.lst y4 d4.length (strs d4), V.int IntKind.i64 ag'] 28 3, Blk.row (shiftL 2 (tls K)) 51 4,
  Blk.row [V.str h, V.slice 2 0 K.length false 0 0, V.bool false, V.bool true, V.int IntKind.u8 (kdI false rq true ha mo)] 38 5, Blk.row [V.bool false, V.bool !rq, V.str h, V.bool !mx, V.int IntKind.u8 co, V.bool se, V.lst x1 n1 c1, V.lst x2 n2 c2, V.lst x3 l3.length (tls l3), V.bool ha', V.int IntKind.u8 mo', V.lst y4 d4.length (strs d4), V.int IntKind.i64 ag'] 30 13, Blk.row (shiftL 5 (tls K)) 51 4,
  Blk.row [V.str h, V.slice 5 0 K.length false 0 0, V.bool false, V.bool true, V.int IntKind.u8 (kdI false (!rq) true ha' mo')] 38 5] : St) = S
 have v1 : viewT S (V.slice 2 0 K.length false 0 0) = some (true, K) := by
  subst hS
  refine view_tls (z := []) (.inl ⟨51, 4, ?_⟩) false 0 0
  rw [shT, List.append_nil]; rfl
 have v2 : viewT S (V.slice 5 0 K.length false 0 0) = some (true, K) := by
  subst hS
  refine view_tls (z := []) (.inl ⟨51, 4, ?_⟩) false 0 0
  rw [shT, shT, List.append_nil]; rfl
 have a1 : nsOK (V.slice 2 0 K.length false 0 0) (V.slice 5 0 K.length false 0 0) S = true := by
  unfold nsOK; rw [v1, v2]
  show (true && (true && (Nat.ble K.length 9223372036854775807 && Nat.ble K.length 9223372036854775807))) = true
  rw [Nat.ble_eq_true_of_le (by omega)]; rfl
 have a2 : nsV h (V.slice 2 0 K.length false 0 0) false true (kdI false rq true ha mo) h (V.slice 5 0 K.length false 0 0) false true (kdI false (!rq) true ha' mo') S = true := by
  unfold nsV; rw [v1, v2]
  show (h == h && (true && (true && (true && eqsB K K)))) = true
  rw [eqsB_self]; simp
 rw [a1, a2]
 rfl
end Go.Proofs.YtakfcajmfgnchaaGreatDoor
