/- Whatever is asked: how large it is. -/
import Derived.Test.YtakfcajmfgnchaaGreatDoorLong
namespace Go.Proofs.YtakfcajmfgnchaaGreatDoor
open Go Go.Vm Go.RowKit
set_option linter.unusedVariables false
set_option linter.unusedSectionVars false
set_option maxRecDepth 100000
variable [Φ : Frz]
structure AK where
 plain : Bool
 req : Bool
 host : List UInt8
 mx : Bool
 code : Int
 sec : Bool
 x1 : Value
 n1 : Nat
 c1 : List V
 x2 : Value
 n2 : Nat
 c2 : List V
 x3 : Value
 n3 : Nat
 c3 : List V
 has : Bool
 mode : Int
 x4 : Value
 n4 : Nat
 c4 : List V
 age : Int
def AK.v (a : AK) : V := .agg [.bool a.plain, .bool a.req, .str a.host, .bool a.mx, .int .u8 a.code, .bool a.sec, .lst a.x1 a.n1 a.c1, .lst a.x2 a.n2 a.c2, .lst a.x3 a.n3 a.c3, .bool a.has, .int .u8 a.mode, .lst a.x4 a.n4 a.c4, .int .i64 a.age]
noncomputable def NP (OK LB : V → V → St → Bool) : Tab := ⟨noT, addS noL 10 (longGV OK LB), aR 9⟩
theorem NP_ok : TabOk3 Tryz.prog (NP longOK longV) := ⟨aC, bL aD longG_ok, am 9⟩
theorem large_tree (OK LB : V → V → St → Bool) (pl rq : Bool) (h : List UInt8) (mx : Bool) (co : Int) (se : Bool) (x1 : Value) (n1 : Nat) (c1 : List V) (x2 : Value) (n2 : Nat) (c2 : List V) (x3 : Value) (n3 : Nat) (c3 : List V) (ha : Bool) (mo : Int) (x4 : Value) (n4 : Nat) (c4 : List V) (ag : Int) (R : V → Prop) : runW Tryz.prog (NP OK LB) 9 10 9 [.agg [.bool pl, .bool rq, .str h, .bool mx, .int .u8 co, .bool se, .lst x1 n1 c1, .lst x2 n2 c2, .lst x3 n3 c3, .bool ha, .int .u8 mo, .lst x4 n4 c4, .int .i64 ag]] R =
  (
 bif decide (0 ≤ if 2000 < (↑n4 : Int) then 2000 else (↑n4 : Int)) then bif true && (if 2000 < (↑n4 : Int) then 2000 else (↑n4 : Int)).toNat.ble n4 then bif ((if 2000 <
 (↑n4 : Int) then 2000 else (↑n4 : Int)).toNat - 0).beq 0 then bif OK (V.slice 1 0 1 true 1 0) (V.lst x3 n3 c3) [Blk.ro false [V.bool pl, V.bool rq, V.str h, V.bool mx,
 V.int IntKind.u8 co, V.bool se, V.lst x1 n1 c1, V.lst x2 n2 c2, V.lst x3 n3 c3, V.bool ha, V.int IntKind.u8 mo, V.lst x4 n4 c4, V.int IntKind.i64 ag], Blk.ro false [V.str
 h]] then bif LB (V.slice 1 0 1 true 1 0) (V.lst x3 n3 c3) [Blk.ro false [V.bool pl, V.bool rq, V.str h, V.bool mx, V.int IntKind.u8 co, V.bool se, V.lst x1 n1 c1, V.lst
 x2 n2 c2, V.lst x3 n3 c3, V.bool ha, V.int IntKind.u8 mo, V.lst x4 n4 c4, V.int IntKind.i64 ag], Blk.ro false [V.str h]] then R (V.bool true) else R (V.bool (decide ((↑n4
 : Int) > 1000))) else False else bif (List.take (((if 2000 < (↑n4 : Int) then 2000 else (↑n4 : Int)).toNat - 0) * 1) c4).length.beq (((if 2000 < (↑n4 : Int) then 2000
 else (↑n4 : Int)).toNat - 0) * 1) && (List.take (((if 2000 < (↑n4 : Int) then 2000 else (↑n4 : Int)).toNat - 0) * 1) c4).all V.one then bif (1 + ((if 2000 < (↑n4 : Int)
 then 2000 else (↑n4 : Int)).toNat - 0)).ble 9223372036854775807 && ((1 + ((if 2000 < (↑n4 : Int) then 2000 else (↑n4 : Int)).toNat - 0)) * 16).ble 140737488355328 then
 bif OK (V.slice 2 0 (1 + ((if 2000 < (↑n4 : Int) then 2000 else (↑n4 : Int)).toNat - 0)) false 0 0) (V.lst x3 n3 c3) [Blk.ro false [V.bool pl, V.bool rq, V.str h, V.bool
 mx, V.int IntKind.u8 co, V.bool se, V.lst x1 n1 c1, V.lst x2 n2 c2, V.lst x3 n3 c3, V.bool ha, V.int IntKind.u8 mo, V.lst x4 n4 c4, V.int IntKind.i64 ag], Blk.ro false
 [V.str h], Blk.ro false (V.str h :: List.append [] (List.take (((if 2000 < (↑n4 : Int) then 2000 else (↑n4 : Int)).toNat - 0) * Nat.succ 0) (List.drop (0 * Nat.succ 0)
 c4)))] then bif LB (V.slice 2 0 (1 + ((if 2000 < (↑n4 : Int) then 2000 else (↑n4 : Int)).toNat - 0)) false 0 0) (V.lst x3 n3 c3) [Blk.ro false [V.bool pl, V.bool rq,
 V.str h, V.bool mx, V.int IntKind.u8 co, V.bool se, V.lst x1 n1 c1, V.lst x2 n2 c2, V.lst x3 n3 c3, V.bool ha, V.int IntKind.u8 mo, V.lst x4 n4 c4, V.int IntKind.i64 ag],
 Blk.ro false [V.str h], Blk.ro false (V.str h :: List.append [] (List.take (((if 2000 < (↑n4 : Int) then 2000 else (↑n4 : Int)).toNat - 0) * Nat.succ 0) (List.drop (0 *
 Nat.succ 0) c4)))] then R (V.bool true) else R (V.bool (decide ((↑n4 : Int) > 1000))) else False else False else False else False else False) := by kernel_rfl
theorem long_at (st : St) (b n : Nat) (ex : Bool) (c z : Nat) (cs : List V) (l : List (List UInt8)) (hb : st[b]? = some (.ro false cs)) (hc : cs = strs l) (hn : n = l.length) (x : Value) (rs : List TL) (h1 : l.length ≤ 9223372036854775807) (h2 : rs.length ≤ 9223372036854775807) :
  longOK (.slice b 0 n ex c z) (.lst x rs.length (tls rs)) st = true ∧ longV (.slice b 0 n ex c z) (.lst x rs.length (tls rs)) st = longB l rs := by
 subst hc hn
 have e1 : bv st (.slice b 0 l.length ex c z) = some (true, l) := by
  simp only [bv, cg, hb, Nat.mul_one, Nat.zero_add, List.drop_zero, aG]
  rw [List.take_of_length_le (by rw [aG]; omega), ao, bA, aG, Nat.beq_refl, Nat.ble_eq_true_of_le (Nat.le_refl _)]
  rfl
 have e2 : cb st (.lst x rs.length (tls rs)) = some (true, rs) := by
  simp only [cb, cg, bS, isTl_tls, dV, Nat.beq_refl, Bool.and_true]
  rw [Nat.mul_comm, Nat.beq_refl]
 unfold longOK longV
 rw [e1, e2]
 exact ⟨by simp only [Bool.true_and, Bool.and_eq_true]; exact ⟨Nat.ble_eq_true_of_le h1, Nat.ble_eq_true_of_le h2⟩, rfl⟩
def largeB (h : List UInt8) (ms : List (List UInt8)) (rs : List TL) : Bool := longB (h :: ms.take (min 2000 ms.length)) rs || decide ((ms.length : Int) > 1000)
theorem large_sat (pl rq : Bool) (h : List UInt8) (mx : Bool) (co : Int) (se : Bool) (x1 : Value) (n1 : Nat) (c1 : List V) (x2 : Value) (n2 : Nat) (c2 : List V) (x3 : Value) (rs : List TL) (ha : Bool) (mo : Int) (x4 : Value) (ms : List (List UInt8)) (ag : Int) (h1 : ms.length ≤ 9223372036854775807) (h2 : rs.length ≤ 9223372036854775807) :
  FnSat Tryz.prog 9 [.agg [.bool pl, .bool rq, .str h, .bool mx, .int .u8 co, .bool se, .lst x1 n1 c1, .lst x2 n2 c2, .lst x3 rs.length (tls rs), .bool ha, .int .u8 mo, .lst x4 ms.length (strs ms), .int .i64 ag]] [] (Is (.bool (largeB h ms rs), [])) := by
 refine az (lim := 9) (n := 10) ay NP_ok rfl rfl ?_
 rw [large_tree]
 have hq : (if 2000 < (ms.length : Int) then (2000 : Int) else (ms.length : Int)) = ((min 2000 ms.length : Nat) : Int) := by
  split <;> omega
 simp only [hq, Int.toNat_natCast, Bool.true_and, Nat.sub_zero, Nat.mul_one]
 unfold largeB
 rw [decide_eq_true (show (0 : Int) ≤ ((min 2000 ms.length : Nat) : Int) by omega), cond_true, Nat.ble_eq_true_of_le (show min 2000 ms.length ≤ ms.length by omega), cond_true]
 cases hk : (min 2000 ms.length).beq 0 with
 | true =>
  have hk := Nat.eq_of_beq_eq_true hk
  have hms : ms = [] := List.eq_nil_of_length_eq_zero (by omega)
  subst hms
  rw [cond_true]
  obtain ⟨e1, e2⟩ := long_at [Blk.ro false [V.bool pl, V.bool rq, V.str h, V.bool mx, V.int IntKind.u8 co, V.bool se, V.lst x1 n1 c1, V.lst x2 n2 c2, V.lst x3 rs.length (tls rs), V.bool ha, V.int IntKind.u8 mo, V.lst x4 ([] : List (List UInt8)).length (strs []), V.int IntKind.i64 ag], Blk.ro false [V.str h]] 1 1 true 1 0 [V.str h] [h] rfl rfl rfl x3 rs (by simp) h2
  rw [e1, cond_true, e2]
  rw [show (h :: ([] : List (List UInt8)).take (min 2000 ([] : List (List UInt8)).length)) = [h] from rfl]
  cases longB [h] rs <;> rfl
 | false =>
  rw [cond_false]
  have hl : (List.take (min 2000 ms.length) (strs ms)).length = min 2000 ms.length := by rw [List.length_take, aG]; omega
  have hone : (List.take (min 2000 ms.length) (strs ms)).all V.one = true := by
   unfold strs
   rw [← List.map_take, List.all_eq_true]
   intro v hv
   obtain ⟨a, _, rfl⟩ := List.mem_map.1 hv
   rfl
  rw [hl, Nat.beq_refl, hone, Bool.and_self, cond_true]
  rw [Nat.ble_eq_true_of_le (show 1 + min 2000 ms.length ≤ 9223372036854775807 by omega), Nat.ble_eq_true_of_le (show (1 + min 2000 ms.length) * 16 ≤ 140737488355328 by omega), Bool.and_self, cond_true]
  obtain ⟨e1, e2⟩ := long_at [Blk.ro false [V.bool pl, V.bool rq, V.str h, V.bool mx, V.int IntKind.u8 co, V.bool se, V.lst x1 n1 c1, V.lst x2 n2 c2, V.lst x3 rs.length (tls rs), V.bool ha, V.int IntKind.u8 mo, V.lst x4 ms.length (strs ms), V.int IntKind.i64 ag], Blk.ro false [V.str h], Blk.ro false (V.str h :: List.append [] (List.take (min 2000 ms.length) (List.drop 0 (strs ms))))] 2 (1 + min 2000 ms.length) false 0 0 _ (h :: ms.take (min 2000 ms.length)) rfl (by
   show V.str h :: List.take (min 2000 ms.length) (List.drop 0 (strs ms)) = V.str h :: strs (ms.take (min 2000 ms.length))
   rw [List.drop_zero]; unfold strs; rw [List.map_take]) (by rw [List.length_cons, List.length_take]; omega) x3 rs (by rw [List.length_cons, List.length_take]; omega) h2
  rw [e1, cond_true, e2]
  cases longB (h :: ms.take (min 2000 ms.length)) rs <;> rfl
end Go.Proofs.YtakfcajmfgnchaaGreatDoor
