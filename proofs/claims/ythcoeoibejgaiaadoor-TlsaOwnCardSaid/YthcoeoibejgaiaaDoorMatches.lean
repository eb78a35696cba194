/- Whether a chain is matched by a record: what it comes to. -/
import Derived.Test.YthcoeoibejgaiaaDoorLate
import Derived.Test.YthcoeoibejgaiaaDoorReadU
namespace Go.Proofs.YthcoeoibejgaiaaDoor
open Go Go.Vm Go.RowKit
set_option linter.unusedVariables false
set_option maxRecDepth 100000
set_option linter.unusedSectionVars false
variable [Φ : Frz]
def lateGV (OK : V → St → Bool) (LV : V → Int → St → Bool) : List V → St → Option (List (Bool × (V × St)))
 | [p, .func (.func 17) [] [.ptr b 0]], st => match st[b]? with
  | some (.row [.int .i64 now] _ _) => some [(OK p st, (.bool (LV p now st), st))]
  | _ => none
 | _, _ => none
def linkGV (OK : V → St → Bool) (KV : V → St → Bool) : List V → St → Option (List (Bool × (V × St)))
 | [p], st => some [(OK p st, (.bool (KV p st), st))]
 | _, _ => none
def rOK (p : V) (st : St) : Bool := match viewR st p with
 | some (b, l) => b && Nat.ble l.length 9223372036854775807
 | none => false
def lateW (p : V) (now : Int) (st : St) : Bool := match viewR st p with
 | some (_, l) => lateC now l
 | none => false
def linkW (p : V) (st : St) : Bool := match viewR st p with
 | some (_, l) => linkC l
 | none => false
theorem lateGV_ok (args : List V) (s : St) (l : List (Bool × (V × St))) (o : V × St) (h : lateGV rOK lateW args s = some l) (ho : pickO l = some o) : FnSat Tryd.prog 16 args s (Is o) := by
 unfold lateGV at h
 split at h
 ·rename_i p b
  split at h
  ·rename_i now t sz hb
   cases h
   unfold rOK lateW at ho
   cases hv : viewR s p with
   | none => rw [hv] at ho; simp [pickO] at ho
   | some a =>
    rw [hv] at ho
    exact lateG_ok [p, .func (.func 17) [] [.ptr b 0]] s _ o (by simp only [lateG, hv, hb]) ho
  ·cases h
 ·cases h
theorem linkGV_ok (args : List V) (s : St) (l : List (Bool × (V × St))) (o : V × St) (h : linkGV rOK linkW args s = some l) (ho : pickO l = some o) : FnSat Tryd.prog 11 args s (Is o) := by
 unfold linkGV at h
 split at h
 ·rename_i p
  cases h
  unfold rOK linkW at ho
  cases hv : viewR s p with
  | none => rw [hv] at ho; simp [pickO] at ho
  | some a =>
   rw [hv] at ho
   exact linkG_ok [p] s _ o (by simp only [linkG, hv]) ho
 ·cases h
noncomputable def MA (OK : V → St → Bool) (LV : V → Int → St → Bool) (KV : V → St → Bool) : Tab := ⟨addT (addT noT 8 readU) 7 ofT, addS (addS (addS noL 9 hostG) 16 (lateGV OK LV)) 11 (linkGV OK KV), noLks 9⟩
theorem MA_ok : TabOk3 Tryd.prog (MA rOK lateW linkW) := ⟨addT_ok (addT_ok noT_ok readU_ok) of_ok, addS_ok (addS_ok (addS_ok noL_ok hostG_ok) lateGV_ok) linkGV_ok, noLks_ok 9⟩
theorem mt_round (OK : V → St → Bool) (LV : V → Int → St → Bool) (KV : V → St → Bool) (u s m : Int) (d : List UInt8) (x : Value) (n : Nat) (cs : List V) (now : Int) (N : Nat) (i : Int) (A B C D E : List V) (R : Exit → List (Option V) → St → Prop) : roundW Tryd.prog (MA OK LV KV) 9 10 (rounds 9) 6 6894 [1,4,7,8,9,10] [.lst x n cs, .ptr 0 0, .ptr 1 0, .bool false, .slice 2 0 N false 0 0, .int .i64 i] [.row [.int .u8 u, .int .u8 s, .int .u8 m, .str d] 23 4, .row [.int .i64 now] 3 1, .row A 34 6, .ro true B, .ro true C, .ro true D, .ro true E] R =
  (
 bif decide (i < (↑N : Int)) then bif decide (0 ≤ IntKind.i64.wrap (i + 1)) then bif true && (IntKind.i64.wrap (i + 1)).toNat.ble N then bif OK (V.slice 2 0
 ((IntKind.i64.wrap (i + 1)).toNat - 0) false 0 0) [Blk.row [V.int IntKind.u8 u, V.int IntKind.u8 s, V.int IntKind.u8 m, V.str d] 23 4, Blk.row [V.int IntKind.i64 now] 3
 1, Blk.row A 34 6, Blk.ro true B, Blk.ro true C, Blk.ro true D, Blk.ro true E] then bif !LV (V.slice 2 0 ((IntKind.i64.wrap (i + 1)).toNat - 0) false 0 0) now [Blk.row
 [V.int IntKind.u8 u, V.int IntKind.u8 s, V.int IntKind.u8 m, V.str d] 23 4, Blk.row [V.int IntKind.i64 now] 3 1, Blk.row A 34 6, Blk.ro true B, Blk.ro true C, Blk.ro true
 D, Blk.ro true E] then bif decide (0 ≤ i) && decide (i < (↑n : Int)) then bif (i.toNat * 1).blt cs.length then bif isStrV (cs.getD (i.toNat * 1) (V.bool false)) then bif
 u8B s && u8B m then bif ofB u s m (d) (strOfV (cs.getD (i.toNat * 1) (V.bool false))) then bif decide (0 ≤ IntKind.i64.wrap (i + 1)) then bif true && (IntKind.i64.wrap (i
 + 1)).toNat.ble N then bif OK (V.slice 2 0 ((IntKind.i64.wrap (i + 1)).toNat - 0) false 0 0) [Blk.ro false [V.int IntKind.u8 u, V.int IntKind.u8 s, V.int IntKind.u8 m,
 V.str d], Blk.ro false [V.int IntKind.i64 now], Blk.ro false A, Blk.ro false B, Blk.ro false C, Blk.ro false D, Blk.ro false E] then bif KV (V.slice 2 0
 ((IntKind.i64.wrap (i + 1)).toNat - 0) false 0 0) [Blk.ro false [V.int IntKind.u8 u, V.int IntKind.u8 s, V.int IntKind.u8 m, V.str d], Blk.ro false [V.int IntKind.i64
 now], Blk.ro false A, Blk.ro false B, Blk.ro false C, Blk.ro false D, Blk.ro false E] then R Exit.ret [some (V.lst x n cs), some (V.ptr 0 0), some (V.ptr 1 0), some
 (V.bool true), some (V.slice 2 0 N false 0 0), some (V.int IntKind.i64 i)] [Blk.row [V.int IntKind.u8 u, V.int IntKind.u8 s, V.int IntKind.u8 m, V.str d] 23 4, Blk.row
 [V.int IntKind.i64 now] 3 1, Blk.row A 34 6, Blk.ro true B, Blk.ro true C, Blk.ro true D, Blk.ro true E] else R Exit.normal [some (V.lst x n cs), some (V.ptr 0 0), some
 (V.ptr 1 0), some (V.bool false), some (V.slice 2 0 N false 0 0), some (V.int IntKind.i64 (IntKind.i64.wrap (i + 1)))] [Blk.row [V.int IntKind.u8 u, V.int IntKind.u8 s,
 V.int IntKind.u8 m, V.str d] 23 4, Blk.row [V.int IntKind.i64 now] 3 1, Blk.row A 34 6, Blk.ro true B, Blk.ro true C, Blk.ro true D, Blk.ro true E] else False else False
 else False else R Exit.normal [some (V.lst x n cs), some (V.ptr 0 0), some (V.ptr 1 0), some (V.bool false), some (V.slice 2 0 N false 0 0), some (V.int IntKind.i64
 (IntKind.i64.wrap (i + 1)))] [Blk.row [V.int IntKind.u8 u, V.int IntKind.u8 s, V.int IntKind.u8 m, V.str d] 23 4, Blk.row [V.int IntKind.i64 now] 3 1, Blk.row A 34 6,
 Blk.ro true B, Blk.ro true C, Blk.ro true D, Blk.ro true E] else False else False else False else False else R Exit.normal [some (V.lst x n cs), some (V.ptr 0 0), some
 (V.ptr 1 0), some (V.bool false), some (V.slice 2 0 N false 0 0), some (V.int IntKind.i64 (IntKind.i64.wrap (i + 1)))] [Blk.row [V.int IntKind.u8 u, V.int IntKind.u8 s,
 V.int IntKind.u8 m, V.str d] 23 4, Blk.row [V.int IntKind.i64 now] 3 1, Blk.row A 34 6, Blk.ro true B, Blk.ro true C, Blk.ro true D, Blk.ro true E] else False else False
 else False else R (Exit.exit 1) [some (V.lst x n cs), some (V.ptr 0 0), some (V.ptr 1 0), some (V.bool false), some (V.slice 2 0 N false 0 0), some (V.int IntKind.i64 i)]
 [Blk.row [V.int IntKind.u8 u, V.int IntKind.u8 s, V.int IntKind.u8 m, V.str d] 23 4, Blk.row [V.int IntKind.i64 now] 3 1, Blk.row A 34 6, Blk.ro true B, Blk.ro true C,
 Blk.ro true D, Blk.ro true E]) := by kernel_rfl
theorem nm_atZ {st : St} {z : Bool} {k : Nat} {s : List UInt8} (h : st[k]? = some (.ro z (strs (dL s)))) : nmOk st (.nos k (dN s)) = true ∧ Vm.nmD st (.nos k (dN s)) = dL s := by
 have hv : viewS st (.nos k (dN s)) = some (true, dL s) := by
  unfold viewS viewC dN
  simp only [h, Nat.mul_one, strs_len]
  rw [List.take_of_length_le (by rw [strs_len]; exact Nat.le_refl _), strs_isStr, strs_strOf, strs_len, Nat.beq_refl, Nat.ble_eq_true_of_le (Nat.le_refl _)]
  rfl
 unfold nmOk Vm.nmD
 rw [hv]
 exact ⟨by show (true && Nat.ble (dL s).length 9223372036854775807) = true; rw [Bool.true_and]; exact Nat.ble_eq_true_of_le (by have := dL_small s; omega), rfl⟩
theorem cr_rdAz {st : St} {z : Bool} {k : Nat} {s : List UInt8} {r : List V} (h : st[k]? = some (.ro z (strs (dL s)))) : isCr st (rdA s k r) = isCr st r ∧ crD st (rdA s k r) = crOf s :: crD st r := by
 obtain ⟨h1, h2⟩ := nm_atZ h
 refine ⟨?_, ?_⟩
 ·unfold isCr rdA
  simp only [isCg, h1, isStrV, isIntV, isBoolV, decide_true, Bool.true_and]
 ·unfold rdA crOf
  simp only [crD, h2, strOfV, intOfV, boolOfV]
def mA (l : List (List UInt8)) : List V := bif Nat.beq (rdN l) 0 then [] else shiftL 2 (rdA (rdG l 0) 1 (rdT l))
def mB (l : List (List UInt8)) : List V := shiftL 2 (strs (dL (rdG l 0)))
def mN (l : List (List UInt8)) (i : Nat) : List V := shiftL 2 (nmR l i)
theorem mB_eq (l : List (List UInt8)) : mB l = strs (dL (rdG l 0)) := shiftS _ _
theorem mN_eq {l : List (List UInt8)} {i : Nat} (h : i < rdN l) : mN l i = strs (dL (rdG l i)) := by
 have e : Nat.blt i (rdN l) = true := Nat.ble_eq_true_of_le h
 unfold mN nmR
 rw [e, cond_true]; exact shiftS _ _
structure MtAt (st : St) (l : List (List UInt8)) : Prop where
 b2 : (∃ t sz, st[2]? = some (.row (mA l) t sz)) ∨ ∃ z, st[2]? = some (.ro z (mA l))
 b3 : ∃ z, st[3]? = some (.ro z (mB l))
 b4 : ∃ z, st[4]? = some (.ro z (mN l 1))
 b5 : ∃ z, st[5]? = some (.ro z (mN l 2))
 b6 : ∃ z, st[6]? = some (.ro z (mN l 3))
theorem mt_cr {st : St} {l : List (List UInt8)} (h : MtAt st l) (h0 : rdN l ≠ 0) : isCr st (mA l) = true ∧ crD st (mA l) = readC l := by
 have h4 := (rdN_le l).1
 obtain ⟨z3, g3⟩ := h.b3
 obtain ⟨z4, g4⟩ := h.b4
 obtain ⟨z5, g5⟩ := h.b5
 obtain ⟨z6, g6⟩ := h.b6
 rw [mB_eq] at g3
 rcases (by omega : rdN l = 1 ∨ rdN l = 2 ∨ rdN l = 3 ∨ rdN l = 4) with hj | hj | hj | hj
 ·have e : mA l = rdA (rdG l 0) 3 [] := by unfold mA rdT; rw [hj]; rfl
  rw [e, readC_of hj, (cr_rdAz g3).1, (cr_rdAz g3).2]
  exact ⟨rfl, rfl⟩
 ·have e : mA l = rdA (rdG l 0) 3 (rdA (rdG l 1) 4 []) := by unfold mA rdT; rw [hj]; rfl
  rw [mN_eq (by omega)] at g4
  rw [e, readC_of hj, (cr_rdAz g3).1, (cr_rdAz g3).2, (cr_rdAz g4).1, (cr_rdAz g4).2]
  exact ⟨rfl, rfl⟩
 ·have e : mA l = rdA (rdG l 0) 3 (rdA (rdG l 1) 4 (rdA (rdG l 2) 5 [])) := by unfold mA rdT; rw [hj]; rfl
  rw [mN_eq (by omega)] at g4 g5
  rw [e, readC_of hj, (cr_rdAz g3).1, (cr_rdAz g3).2, (cr_rdAz g4).1, (cr_rdAz g4).2, (cr_rdAz g5).1, (cr_rdAz g5).2]
  exact ⟨rfl, rfl⟩
 ·have e : mA l = rdA (rdG l 0) 3 (rdA (rdG l 1) 4 (rdA (rdG l 2) 5 (rdA (rdG l 3) 6 []))) := by unfold mA rdT; rw [hj]; rfl
  rw [mN_eq (by omega)] at g4 g5 g6
  rw [e, readC_of hj, (cr_rdAz g3).1, (cr_rdAz g3).2, (cr_rdAz g4).1, (cr_rdAz g4).2, (cr_rdAz g5).1, (cr_rdAz g5).2, (cr_rdAz g6).1, (cr_rdAz g6).2]
  exact ⟨rfl, rfl⟩
theorem readC_len (l : List (List UInt8)) : (readC l).length = rdN l := by rw [readC_of rfl]; simp
theorem mt_view {st : St} {l : List (List UInt8)} (h : MtAt st l) (h0 : rdN l ≠ 0) {j : Nat} (hj : j ≤ rdN l) : viewR st (.slice 2 0 j false 0 0) = some (true, (readC l).take j) := by
 obtain ⟨c1, c2⟩ := mt_cr h h0
 have hv : viewC st 6 (.slice 2 0 j false 0 0) = some (Nat.ble (0 + j * 6) (mA l).length, (j, ((mA l).drop 0).take (j * 6))) := by
  rcases h.b2 with ⟨t, sz, g⟩ | ⟨z, g⟩ <;> simp only [viewC, g]
 have hlen := crD_len st (mA l) c1
 rw [c2, readC_len] at hlen
 obtain ⟨t1, t2⟩ := crD_take st j (mA l) c1
 unfold viewR
 rw [hv]
 have t2 : isCr st ((mA l).take (j * 6)) = true := t2
 simp only [List.drop_zero, t1, t2, c2, Nat.ble_eq_true_of_le (show 0 + j * 6 ≤ (mA l).length by omega), List.length_take, readC_len, Nat.min_eq_left hj, Nat.beq_refl, Bool.and_self]
def matS (u s m : Int) (d : List UInt8) (now : Int) (l : List (List UInt8)) : St := [.row [.int .u8 u, .int .u8 s, .int .u8 m, .str d] 23 4, .row [.int .i64 now] 3 1, .row (mA l) 34 6, .ro true (mB l), .ro true (mN l 1), .ro true (mN l 2), .ro true (mN l 3)]
def matF (u s m : Int) (d : List UInt8) (now : Int) (l : List (List UInt8)) : Nat → Nat → Bool
 | 0, _ => false
 | k + 1, i => bif !lateC now ((readC l).take (i + 1)) && (ofB u s m d (strOfV ((strs l).getD i (.bool false))) && linkC ((readC l).take (i + 1))) then true else matF u s m d now l k (i + 1)
structure MT where
 u : Int
 s : Int
 m : Int
 d : List UInt8
 x : Value
 n : Nat
 cs : List V
 now : Int
 i : Nat
def MT.l (z : MT) : List (List UInt8) := z.cs.map strOfV
def mtV (z : MT) : List V := [.lst z.x z.n z.cs, .ptr 0 0, .ptr 1 0, .bool false, .slice 2 0 (rdN (z.cs.map strOfV)) false 0 0, .int .i64 z.i]
def mtJ (z : MT) : St := matS z.u z.s z.m z.d z.now (z.cs.map strOfV)
def mtPre (z : MT) : Bool := okS z.n z.cs && ((u8B z.s && u8B z.m) && (Nat.ble 1 z.i && Nat.ble z.i (rdN (z.cs.map strOfV))))
def mtMu (z : MT) : Nat := rdN (z.cs.map strOfV) - z.i
def mtDec : List (Option V) → St → Option MT
 | [some (.lst x n cs), some (.ptr 0 0), some (.ptr 1 0), some (.bool false), some (.slice 2 0 _ false 0 0), some (.int .i64 1)], .row [.int .u8 u, .int .u8 s, .int .u8 m, .str d] _ _ :: .row [.int .i64 now] _ _ :: _ => some ⟨u, s, m, d, x, n, cs, now, 1⟩
 | _, _ => none
def mtOutG (z : MT) (b : Bool) (K : Exit → List V → St → Prop) : Prop :=
 bif b then ∀ j : Int, K .ret [.lst z.x z.n z.cs, .ptr 0 0, .ptr 1 0, .bool true, .slice 2 0 (rdN (z.cs.map strOfV)) false 0 0, .int .i64 j] (mtJ z) else ∀ j : Int, K (.exit 1) [.lst z.x z.n z.cs, .ptr 0 0, .ptr 1 0, .bool false, .slice 2 0 (rdN (z.cs.map strOfV)) false 0 0, .int .i64 j] (mtJ z)
def matV (u s m : Int) (d : List UInt8) (now : Int) (cs : List V) (i : Nat) : Bool := matF u s m d now (cs.map strOfV) (rdN (cs.map strOfV) - i) i
def mtOut : Asks MT := fun z K => mtOutG z (matV z.u z.s z.m z.d z.now z.cs z.i) K
theorem ren_A (l : List (List UInt8)) : renL [0, 1, 2, 3, 4, 5, 6] (mA l) = some (mA l) := by
 unfold mA rdT
 have h4 := (rdN_le l).1
 rcases (by omega : rdN l = 0 ∨ rdN l = 1 ∨ rdN l = 2 ∨ rdN l = 3 ∨ rdN l = 4) with hj | hj | hj | hj | hj <;> rw [hj] <;> rfl
theorem ren_N (l : List (List UInt8)) (i : Nat) : renL [0, 1, 2, 3, 4, 5, 6] (mN l i) = some (mN l i) := by
 unfold mN nmR
 cases Nat.blt i (rdN l) with
 | true => rw [cond_true, shiftS]; exact renL_of_flat _ (strs_flat _)
 | false => rfl
theorem mt_fits (x : Value) (n : Nat) (cs : List V) (u s m : Int) (d : List UInt8) (now : Int) (b : Bool) (j : Int) : Fits 0 [.lst x n cs, .ptr 0 0, .ptr 1 0, .bool b, .slice 2 0 (rdN (cs.map strOfV)) false 0 0, .int .i64 j] (matS u s m d now (cs.map strOfV)) [some (.lst x n cs), some (.ptr 0 0), some (.ptr 1 0), some (.bool b), some (.slice 2 0 (rdN (cs.map strOfV)) false 0 0), some (.int .i64 j)] (matS u s m d now (cs.map strOfV)) := by
 refine ⟨[0, 1, 2, 3, 4, 5, 6], [.lst x n cs, .ptr 0 0, .ptr 1 0, .bool b, .slice 2 0 (rdN (cs.map strOfV)) false 0 0, .int .i64 j], rfl, rfl, FitsM.of ⟨.inr ⟨_, .inl rfl, rfl⟩, .inr ⟨_, .inl rfl, rfl⟩, .inr ⟨.row (mA (cs.map strOfV)) 34 6, .inl ?_, rfl⟩, .inr ⟨.ro true (mB (cs.map strOfV)), .inl ?_, rfl⟩, .inr ⟨.ro true (mN (cs.map strOfV) 1), .inl ?_, rfl⟩, .inr ⟨.ro true (mN (cs.map strOfV) 2), .inl ?_, rfl⟩, .inr ⟨.ro true (mN (cs.map strOfV) 3), .inl ?_, rfl⟩, trivial⟩, by decide, fun i hi => by omega⟩
 ·simp only [renB, ren_A]
 ·rw [mB_eq]; simp only [renB, renL_of_flat _ (strs_flat _)]
 ·simp only [renB, ren_N]
 ·simp only [renB, ren_N]
 ·simp only [renB, ren_N]
theorem mt_roundOk (z : MT) (hx : mtPre z = true) : roundW Tryd.prog (MA rOK lateW linkW) 9 10 (rounds 9) 6 6894 [1,4,7,8,9,10] (mtV z) (mtJ z) (RoundOkA 0 mtPre mtV mtJ mtMu mtOut z) := by
 obtain ⟨u, s, m, d, x, n, cs, now, i⟩ := z
 unfold mtPre at hx
 simp only [Bool.and_eq_true] at hx
 have hx1 : okS n cs = true := hx.1
 have hu : (u8B s && u8B m) = true := by rw [Bool.and_eq_true]; exact hx.2.1
 have p1 : 1 ≤ i := Nat.le_of_ble_eq_true hx.2.2.1
 have p2 : i ≤ rdN (cs.map strOfV) := Nat.le_of_ble_eq_true hx.2.2.2
 obtain ⟨l, rfl, rfl, p3, p4⟩ := okS_spec hx1
 rw [strs_strOf] at p2
 have p5 := (rdN_le l).1
 have p6 := (rdN_le l).2
 show roundW Tryd.prog (MA rOK lateW linkW) 9 10 (rounds 9) 6 6894 [1,4,7,8,9,10] [.lst x l.length (strs l), .ptr 0 0, .ptr 1 0, .bool false, .slice 2 0 (rdN ((strs l).map strOfV)) false 0 0, .int .i64 i] (matS u s m d now ((strs l).map strOfV)) _
 rw [strs_strOf]
 refine cast (mt_round rOK lateW linkW u s m d x l.length (strs l) now (rdN l) i (mA l) (mB l) (mN l 1) (mN l 2) (mN l 3) _).symm ?_
 have out : ∀ K, mtOut ⟨u, s, m, d, x, l.length, strs l, now, i⟩ K → mtOutG ⟨u, s, m, d, x, l.length, strs l, now, i⟩ (matF u s m d now l (rdN l - i) i) K := fun K hK => by
  have hK : mtOutG ⟨u, s, m, d, x, l.length, strs l, now, i⟩ (matF u s m d now ((strs l).map strOfV) (rdN ((strs l).map strOfV) - i) i) K := hK
  rw [strs_strOf] at hK; exact hK
 have fits : ∀ b j, Fits 0 [.lst x l.length (strs l), .ptr 0 0, .ptr 1 0, .bool b, .slice 2 0 (rdN ((strs l).map strOfV)) false 0 0, .int .i64 j] (matS u s m d now ((strs l).map strOfV)) [some (.lst x l.length (strs l)), some (.ptr 0 0), some (.ptr 1 0), some (.bool b), some (.slice 2 0 (rdN l) false 0 0), some (.int .i64 j)] (matS u s m d now l) := fun b j => by
  have := mt_fits x l.length (strs l) u s m d now b j
  rw [strs_strOf] at this ⊢; exact this
 refine bif_intro (fun hi => ?_) (fun hi => ?_)
 ·have hi := of_decide_eq_true hi
  have hi : i < rdN l := by omega
  have w : IntKind.i64.wrap ((i : Int) + 1) = ((i + 1 : Nat) : Int) := by rw [IntWalk.i64_in _ ⟨by omega, by omega⟩]; omega
  have c1 : decide (0 ≤ ((i + 1 : Nat) : Int)) = true := decide_eq_true (by omega)
  have c2 : decide ((0 : Int) ≤ (i : Int)) = true := decide_eq_true (by omega)
  have c3 : decide ((i : Int) < (l.length : Int)) = true := decide_eq_true (by omega)
  have c4 : (i + 1).ble (rdN l) = true := Nat.ble_eq_true_of_le (by omega)
  have c5 : (i * 1).blt (strs l).length = true := Nat.ble_eq_true_of_le (by rw [strs_len]; omega)
  have c6 : ∃ a, (strs l).getD (i * 1) (.bool false) = .str a := by
   refine ⟨l[i]'(by omega), ?_⟩
   rw [Nat.mul_one, List.getD_eq_getElem?_getD, List.getElem?_eq_getElem (by rw [strs_len]; omega)]
   simp [strs]
  obtain ⟨a, ha⟩ := c6
  have ha' : (strs l).getD i (.bool false) = .str a := by rw [Nat.mul_one] at ha; exact ha
  have v1 : ∀ st, MtAt st l → rOK (.slice 2 0 (i + 1) false 0 0) st = true ∧ lateW (.slice 2 0 (i + 1) false 0 0) now st = lateC now ((readC l).take (i + 1)) ∧ linkW (.slice 2 0 (i + 1) false 0 0) st = linkC ((readC l).take (i + 1)) := fun st hst => by
   unfold rOK lateW linkW
   rw [mt_view hst (by omega) (show i + 1 ≤ rdN l by omega)]
   exact ⟨by show (true && _) = true; rw [Bool.true_and]; exact Nat.ble_eq_true_of_le (by rw [List.length_take, readC_len]; omega), rfl, rfl⟩
  obtain ⟨a1, a2, _⟩ := v1 [.row [.int .u8 u, .int .u8 s, .int .u8 m, .str d] 23 4, .row [.int .i64 now] 3 1, .row (mA l) 34 6, .ro true (mB l), .ro true (mN l 1), .ro true (mN l 2), .ro true (mN l 3)] ⟨.inl ⟨_, _, rfl⟩, ⟨_, rfl⟩, ⟨_, rfl⟩, ⟨_, rfl⟩, ⟨_, rfl⟩⟩
  obtain ⟨b1, _, b2⟩ := v1 [.ro false [.int .u8 u, .int .u8 s, .int .u8 m, .str d], .ro false [.int .i64 now], .ro false (mA l), .ro false (mB l), .ro false (mN l 1), .ro false (mN l 2), .ro false (mN l 3)] ⟨.inr ⟨_, rfl⟩, ⟨_, rfl⟩, ⟨_, rfl⟩, ⟨_, rfl⟩, ⟨_, rfl⟩⟩
  have step : matF u s m d now l (rdN l - i) i = (bif !lateC now ((readC l).take (i + 1)) && (ofB u s m d a && linkC ((readC l).take (i + 1))) then true else matF u s m d now l (rdN l - (i + 1)) (i + 1)) := by
   rw [show rdN l - i = (rdN l - (i + 1)) + 1 by omega, matF, ha']; rfl
  have next : (!lateC now ((readC l).take (i + 1)) && (ofB u s m d a && linkC ((readC l).take (i + 1)))) = false → RoundOkA 0 mtPre mtV mtJ mtMu mtOut ⟨u, s, m, d, x, l.length, strs l, now, i⟩ .normal [some (.lst x l.length (strs l)), some (.ptr 0 0), some (.ptr 1 0), some (.bool false), some (.slice 2 0 (rdN l) false 0 0), some (.int .i64 (i + 1 : Nat))] (matS u s m d now l) := fun e => by
   refine ⟨⟨u, s, m, d, x, l.length, strs l, now, i + 1⟩, ?_, fits false _, by simp only [mtMu, strs_strOf]; omega, fun K hK => ?_⟩
   ·unfold mtPre
    rw [strs_strOf, hx1, hu, Nat.ble_eq_true_of_le (show 1 ≤ i + 1 by omega), c4]; rfl
   ·have hK := out K hK
    rw [step, e] at hK
    show mtOutG ⟨u, s, m, d, x, l.length, strs l, now, i + 1⟩ (matF u s m d now ((strs l).map strOfV) (rdN ((strs l).map strOfV) - (i + 1)) (i + 1)) K
    rw [strs_strOf]; exact hK
  simp only [w, c1, c2, c3, c4, c5, ha, Int.toNat_natCast, Nat.sub_zero, isStrV, strOfV, hu, Bool.and_self, Bool.true_and, cond_true]
  rw [a1, a2, b1, b2, cond_true, cond_true]
  cases hL : lateC now ((readC l).take (i + 1)) with
  | true => exact next (by rw [hL]; rfl)
  | false =>
  cases hO : ofB u s m d a with
  | false => exact next (by rw [hO, Bool.false_and, Bool.and_false])
  | true =>
  cases hK : linkC ((readC l).take (i + 1)) with
  | false => exact next (by rw [hK, Bool.and_false, Bool.and_false])
  | true =>
   refine ⟨_, _, fun K hk => ?_, fits true i⟩
   have hk := out K hk
   rw [step, hL, hO, hK] at hk
   exact hk i
 ·have hi := of_decide_eq_false hi
  refine ⟨_, _, fun K hK => ?_, fits false i⟩
  have hK := out K hK
  rw [show rdN l - i = 0 by omega] at hK
  exact hK i
noncomputable def lkMT : Nat → Trans → Trans := withLoop 6894 (loopA 0 (szOf Tryd.prog 6) [1,4,7,8,9,10] mtDec mtPre mtV mtJ mtOut) (rounds 9)
theorem lkMT_ok : FnLoopsW Tryd.prog 0 lkMT 6 := by
 unfold lkMT
 exact fnLoopW (fnRoundsW 9 0 6) (by kernel_rfl) fun f st Q h => loopA_ok (P := Tryd.prog) (T := MA rOK lateW linkW) (k := 0) (lim := 9) (n := 10) (g := 6) (p0 := 6894) (lk := rounds 9) mixed MA_ok (roundsW 9 _ _) mtMu mt_roundOk h
theorem mt_fits' (x : Value) (n : Nat) (cs : List V) (u s m : Int) (d : List UInt8) (now : Int) (b : Bool) (j : Int) {st : St} (h : matS u s m d now (cs.map strOfV) = st) : Fits 0 [.lst x n cs, .ptr 0 0, .ptr 1 0, .bool b, .slice 2 0 (rdN (cs.map strOfV)) false 0 0, .int .i64 j] (matS u s m d now (cs.map strOfV)) [some (.lst x n cs), some (.ptr 0 0), some (.ptr 1 0), some (.bool b), some (.slice 2 0 (rdN (cs.map strOfV)) false 0 0), some (.int .i64 j)] st := by
 subst h; exact mt_fits x n cs u s m d now b j
def rdP (l : List (List UInt8)) (T a b c : List V) : V × St := (.slice 0 0 (rdN l) false 0 0, [.row (rdA (rdG l 0) 1 T) 34 6, .ro true (strs (dL (rdG l 0))), .ro true a, .ro true b, .ro true c])
def readPL (l : List (List UInt8)) : Nat → V × St
 | 0 => (.nilSlice, [])
 | 1 => rdP l [] [] [] []
 | 2 => rdP l (rdA (rdG l 1) 2 []) (strs (dL (rdG l 1))) [] []
 | 3 => rdP l (rdA (rdG l 1) 2 (rdA (rdG l 2) 3 [])) (strs (dL (rdG l 1))) (strs (dL (rdG l 2))) []
 | _ => rdP l (rdA (rdG l 1) 2 (rdA (rdG l 2) 3 (rdA (rdG l 3) 4 []))) (strs (dL (rdG l 1))) (strs (dL (rdG l 2))) (strs (dL (rdG l 3)))
def readP : List V → Option (List (Bool × (V × St)))
 | [.lst _ n cs] => some [(okS n cs && Nat.beq (rdN (cs.map strOfV)) 0, readPL (cs.map strOfV) 0), (okS n cs && Nat.beq (rdN (cs.map strOfV)) 1, readPL (cs.map strOfV) 1), (okS n cs && Nat.beq (rdN (cs.map strOfV)) 2, readPL (cs.map strOfV) 2), (okS n cs && Nat.beq (rdN (cs.map strOfV)) 3, readPL (cs.map strOfV) 3), (okS n cs && Nat.beq (rdN (cs.map strOfV)) 4, readPL (cs.map strOfV) 4)]
 | _ => none
theorem readP_ok (args : List V) (L : List (Bool × (V × St))) (o : V × St) (h : readP args = some L) (ho : pickO L = some o) : FnSat Tryd.prog 8 args [] (Is o) := by
 unfold readP at h
 split at h
 ·rename_i x n cs
  cases h
  cases hk : okS n cs with
  | false => rw [hk] at ho; simp [pickO] at ho
  | true =>
  rw [hk, Bool.true_and] at ho
  simp only [Bool.true_and] at ho
  have h4 := (rdN_le (cs.map strOfV)).1
  refine readU_ok [.lst x n cs] _ o rfl ?_
  rw [hk, ← ho]
  unfold rdU rdT nmR
  rcases (by omega : rdN (cs.map strOfV) = 0 ∨ rdN (cs.map strOfV) = 1 ∨ rdN (cs.map strOfV) = 2 ∨ rdN (cs.map strOfV) = 3 ∨ rdN (cs.map strOfV) = 4) with hj | hj | hj | hj | hj <;> simp only [readPL, rdP, hj] <;> rfl
 ·cases h
noncomputable def MT1 : Tab := ⟨addT (addT noT 8 readP) 7 ofT, addS noL 9 hostG, addLk (noLks 9) 6 0 lkMT⟩
theorem MT1_ok : TabOk3 Tryd.prog MT1 := ⟨addT_ok (addT_ok noT_ok readP_ok) of_ok, addS_ok noL_ok hostG_ok, addLk_ok (noLks_ok 9) lkMT_ok⟩
theorem mt_tree (u s m : Int) (d : List UInt8) (x : Value) (n : Nat) (cs : List V) (h : List UInt8) (now : Int) (R : V → Prop) : runW Tryd.prog MT1 9 10 6 [.agg [.int .u8 u, .int .u8 s, .int .u8 m, .str d], .lst x n cs, .str h, .int .i64 now] R =
  (
 bif u == 3 then bif decide ((↑n : Int) > 0) then bif true && decide (0 < (↑n : Int)) then bif Nat.blt 0 cs.length then bif isStrV (cs.getD 0 (V.bool false)) then bif u8B
 s && u8B m then R (V.bool (ofB u s m (d) (strOfV (cs.getD 0 (V.bool false))))) else False else False else False else False else R (V.bool false) else bif u == 2 then bif
 okS n cs && (rdN (List.map strOfV cs)).beq 0 then R (V.bool false) else bif okS n cs && (rdN (List.map strOfV cs)).beq 1 then bif (↑(rdN (List.map strOfV cs)) : Int) == 0
 then R (V.bool false) else bif true && decide (0 < (↑(rdN (List.map strOfV cs)) : Int)) then bif (dN (rdG (List.map strOfV cs) 0) * 1).ble (shiftL 2 (strs (dL (rdG
 (List.map strOfV cs) 0)))).length && ((List.take (dN (rdG (List.map strOfV cs) 0) * 1) (shiftL 2 (strs (dL (rdG (List.map strOfV cs) 0))))).all isStrV && (List.take (dN
 (rdG (List.map strOfV cs) 0) * 1) (shiftL 2 (strs (dL (rdG (List.map strOfV cs) 0))))).length.beq (dN (rdG (List.map strOfV cs) 0))) && (List.map strOfV (List.take (dN
 (rdG (List.map strOfV cs) 0) * 1) (shiftL 2 (strs (dL (rdG (List.map strOfV cs) 0)))))).length.ble 9223372036854775807 then bif !hasH (List.map strOfV (List.take (dN (rdG
 (List.map strOfV cs) 0) * 1) (shiftL 2 (strs (dL (rdG (List.map strOfV cs) 0)))))) h then R (V.bool false) else Fits 0 [V.lst x n cs, V.ptr 0 0, V.ptr 1 0, V.bool false,
 V.slice 2 0 (rdN (List.map strOfV cs)) false 0 0, V.int IntKind.i64 1] [Blk.row [V.int IntKind.u8 u, V.int IntKind.u8 s, V.int IntKind.u8 m, V.str d] 23 4, Blk.row [V.int
 IntKind.i64 now] 3 1, Blk.row (mA (List.map strOfV cs)) 34 6, Blk.ro true (mB (List.map strOfV cs)), Blk.ro true (mN (List.map strOfV cs) 1), Blk.ro true (mN (List.map
 strOfV cs) 2), Blk.ro true (mN (List.map strOfV cs) 3)] [some (V.lst x n cs), some (V.ptr 0 0), some (V.ptr 1 0), some (V.bool false), some (V.slice 2 0 (rdN (List.map
 strOfV cs)) false 0 0), some (V.int IntKind.i64 1)] [Blk.row [V.int IntKind.u8 u, V.int IntKind.u8 s, V.int IntKind.u8 m, V.str d] 23 4, Blk.row [V.int IntKind.i64 now] 3
 1, Blk.row [V.str (dK (rdG (List.map strOfV cs) 0)), V.str (dG (rdG (List.map strOfV cs) 0)), V.nos 3 (dN (rdG (List.map strOfV cs) 0)), V.int IntKind.i64 (dF (rdG
 (List.map strOfV cs) 0)), V.int IntKind.i64 (dU (rdG (List.map strOfV cs) 0)), V.bool (dCa (rdG (List.map strOfV cs) 0))] 34 6, Blk.ro true (shiftL 2 (strs (dL (rdG
 (List.map strOfV cs) 0)))), Blk.ro true [], Blk.ro true [], Blk.ro true []] ∧ bif mtPre { u := u, s := s, m := m, d := d, x := x, n := n, cs := cs, now := now, i := 1 }
 then bif matV u s m d now cs 1 then ∀ (j : Int), R (V.bool true) else ∀ (j : Int), R (V.bool false) else False else False else False else bif okS n cs && (rdN (List.map
 strOfV cs)).beq 2 then bif (↑(rdN (List.map strOfV cs)) : Int) == 0 then R (V.bool false) else bif true && decide (0 < (↑(rdN (List.map strOfV cs)) : Int)) then bif (dN
 (rdG (List.map strOfV cs) 0) * 1).ble (shiftL 2 (strs (dL (rdG (List.map strOfV cs) 0)))).length && ((List.take (dN (rdG (List.map strOfV cs) 0) * 1) (shiftL 2 (strs (dL
 (rdG (List.map strOfV cs) 0))))).all isStrV && (List.take (dN (rdG (List.map strOfV cs) 0) * 1) (shiftL 2 (strs (dL (rdG (List.map strOfV cs) 0))))).length.beq (dN (rdG
 (List.map strOfV cs) 0))) && (List.map strOfV (List.take (dN (rdG (List.map strOfV cs) 0) * 1) (shiftL 2 (strs (dL (rdG (List.map strOfV cs) 0)))))).length.ble
 9223372036854775807 then bif !hasH (List.map strOfV (List.take (dN (rdG (List.map strOfV cs) 0) * 1) (shiftL 2 (strs (dL (rdG (List.map strOfV cs) 0)))))) h then R
 (V.bool false) else Fits 0 [V.lst x n cs, V.ptr 0 0, V.ptr 1 0, V.bool false, V.slice 2 0 (rdN (List.map strOfV cs)) false 0 0, V.int IntKind.i64 1] [Blk.row [V.int
 IntKind.u8 u, V.int IntKind.u8 s, V.int IntKind.u8 m, V.str d] 23 4, Blk.row [V.int IntKind.i64 now] 3 1, Blk.row (mA (List.map strOfV cs)) 34 6, Blk.ro true (mB
 (List.map strOfV cs)), Blk.ro true (mN (List.map strOfV cs) 1), Blk.ro true (mN (List.map strOfV cs) 2), Blk.ro true (mN (List.map strOfV cs) 3)] [some (V.lst x n cs),
 some (V.ptr 0 0), some (V.ptr 1 0), some (V.bool false), some (V.slice 2 0 (rdN (List.map strOfV cs)) false 0 0), some (V.int IntKind.i64 1)] [Blk.row [V.int IntKind.u8
 u, V.int IntKind.u8 s, V.int IntKind.u8 m, V.str d] 23 4, Blk.row [V.int IntKind.i64 now] 3 1, Blk.row [V.str (dK (rdG (List.map strOfV cs) 0)), V.str (dG (rdG (List.map
 strOfV cs) 0)), V.nos 3 (dN (rdG (List.map strOfV cs) 0)), V.int IntKind.i64 (dF (rdG (List.map strOfV cs) 0)), V.int IntKind.i64 (dU (rdG (List.map strOfV cs) 0)),
 V.bool (dCa (rdG (List.map strOfV cs) 0)), V.str (dK (rdG (List.map strOfV cs) 1)), V.str (dG (rdG (List.map strOfV cs) 1)), V.nos 4 (dN (rdG (List.map strOfV cs) 1)),
 V.int IntKind.i64 (dF (rdG (List.map strOfV cs) 1)), V.int IntKind.i64 (dU (rdG (List.map strOfV cs) 1)), V.bool (dCa (rdG (List.map strOfV cs) 1))] 34 6, Blk.ro true
 (shiftL 2 (strs (dL (rdG (List.map strOfV cs) 0)))), Blk.ro true (shiftL 2 (strs (dL (rdG (List.map strOfV cs) 1)))), Blk.ro true [], Blk.ro true []] ∧ bif mtPre { u := u, s := s, m := m, d := d, x := x, n := n, cs := cs, now := now, i := 1 }
 then bif matV u s m d now cs 1 then ∀ (j : Int), R (V.bool true) else ∀ (j : Int), R (V.bool false) else False else False else False else bif okS n cs && (rdN (List.map
 strOfV cs)).beq 3 then bif (↑(rdN (List.map strOfV cs)) : Int) == 0 then R (V.bool false) else bif true && decide (0 < (↑(rdN (List.map strOfV cs)) : Int)) then bif (dN
 (rdG (List.map strOfV cs) 0) * 1).ble (shiftL 2 (strs (dL (rdG (List.map strOfV cs) 0)))).length && ((List.take (dN (rdG (List.map strOfV cs) 0) * 1) (shiftL 2 (strs (dL
 (rdG (List.map strOfV cs) 0))))).all isStrV && (List.take (dN (rdG (List.map strOfV cs) 0) * 1) (shiftL 2 (strs (dL (rdG (List.map strOfV cs) 0))))).length.beq (dN (rdG
 (List.map strOfV cs) 0))) && (List.map strOfV (List.take (dN (rdG (List.map strOfV cs) 0) * 1) (shiftL 2 (strs (dL (rdG (List.map strOfV cs) 0)))))).length.ble
 9223372036854775807 then bif !hasH (List.map strOfV (List.take (dN (rdG (List.map strOfV cs) 0) * 1) (shiftL 2 (strs (dL (rdG (List.map strOfV cs) 0)))))) h then R
 (V.bool false) else Fits 0 [V.lst x n cs, V.ptr 0 0, V.ptr 1 0, V.bool false, V.slice 2 0 (rdN (List.map strOfV cs)) false 0 0, V.int IntKind.i64 1] [Blk.row [V.int
 IntKind.u8 u, V.int IntKind.u8 s, V.int IntKind.u8 m, V.str d] 23 4, Blk.row [V.int IntKind.i64 now] 3 1, Blk.row (mA (List.map strOfV cs)) 34 6, Blk.ro true (mB
 (List.map strOfV cs)), Blk.ro true (mN (List.map strOfV cs) 1), Blk.ro true (mN (List.map strOfV cs) 2), Blk.ro true (mN (List.map strOfV cs) 3)] [some (V.lst x n cs),
 some (V.ptr 0 0), some (V.ptr 1 0), some (V.bool false), some (V.slice 2 0 (rdN (List.map strOfV cs)) false 0 0), some (V.int IntKind.i64 1)] [Blk.row [V.int IntKind.u8
 u, V.int IntKind.u8 s, V.int IntKind.u8 m, V.str d] 23 4, Blk.row [V.int IntKind.i64 now] 3 1, Blk.row [V.str (dK (rdG (List.map strOfV cs) 0)), V.str (dG (rdG (List.map
 strOfV cs) 0)), V.nos 3 (dN (rdG (List.map strOfV cs) 0)), V.int IntKind.i64 (dF (rdG (List.map strOfV cs) 0)), V.int IntKind.i64 (dU (rdG (List.map strOfV cs) 0)),
 V.bool (dCa (rdG (List.map strOfV cs) 0)), V.str (dK (rdG (List.map strOfV cs) 1)), V.str (dG (rdG (List.map strOfV cs) 1)), V.nos 4 (dN (rdG (List.map strOfV cs) 1)),
 V.int IntKind.i64 (dF (rdG (List.map strOfV cs) 1)), V.int IntKind.i64 (dU (rdG (List.map strOfV cs) 1)), V.bool (dCa (rdG (List.map strOfV cs) 1)), V.str (dK (rdG
 (List.map strOfV cs) 2)), V.str (dG (rdG (List.map strOfV cs) 2)), V.nos 5 (dN (rdG (List.map strOfV cs) 2)), V.int IntKind.i64 (dF (rdG (List.map strOfV cs) 2)), V.int
 IntKind.i64 (dU (rdG (List.map strOfV cs) 2)), V.bool (dCa (rdG (List.map strOfV cs) 2))] 34 6, Blk.ro true (shiftL 2 (strs (dL (rdG (List.map strOfV cs) 0)))), Blk.ro
 true (shiftL 2 (strs (dL (rdG (List.map strOfV cs) 1)))), Blk.ro true (shiftL 2 (strs (dL (rdG (List.map strOfV cs) 2)))), Blk.ro true []] ∧ bif mtPre { u := u, s := s, m := m, d := d, x := x, n := n, cs := cs, now := now, i := 1 }
 then bif matV u s m d now cs 1 then ∀ (j : Int), R (V.bool true) else ∀ (j : Int), R (V.bool false) else False else False else False else bif okS n cs && (rdN (List.map
 strOfV cs)).beq 4 then bif (↑(rdN (List.map strOfV cs)) : Int) == 0 then R (V.bool false) else bif true && decide (0 < (↑(rdN (List.map strOfV cs)) : Int)) then bif (dN
 (rdG (List.map strOfV cs) 0) * 1).ble (shiftL 2 (strs (dL (rdG (List.map strOfV cs) 0)))).length && ((List.take (dN (rdG (List.map strOfV cs) 0) * 1) (shiftL 2 (strs (dL
 (rdG (List.map strOfV cs) 0))))).all isStrV && (List.take (dN (rdG (List.map strOfV cs) 0) * 1) (shiftL 2 (strs (dL (rdG (List.map strOfV cs) 0))))).length.beq (dN (rdG
 (List.map strOfV cs) 0))) && (List.map strOfV (List.take (dN (rdG (List.map strOfV cs) 0) * 1) (shiftL 2 (strs (dL (rdG (List.map strOfV cs) 0)))))).length.ble
 9223372036854775807 then bif !hasH (List.map strOfV (List.take (dN (rdG (List.map strOfV cs) 0) * 1) (shiftL 2 (strs (dL (rdG (List.map strOfV cs) 0)))))) h then R
 (V.bool false) else Fits 0 [V.lst x n cs, V.ptr 0 0, V.ptr 1 0, V.bool false, V.slice 2 0 (rdN (List.map strOfV cs)) false 0 0, V.int IntKind.i64 1] [Blk.row [V.int
 IntKind.u8 u, V.int IntKind.u8 s, V.int IntKind.u8 m, V.str d] 23 4, Blk.row [V.int IntKind.i64 now] 3 1, Blk.row (mA (List.map strOfV cs)) 34 6, Blk.ro true (mB
 (List.map strOfV cs)), Blk.ro true (mN (List.map strOfV cs) 1), Blk.ro true (mN (List.map strOfV cs) 2), Blk.ro true (mN (List.map strOfV cs) 3)] [some (V.lst x n cs),
 some (V.ptr 0 0), some (V.ptr 1 0), some (V.bool false), some (V.slice 2 0 (rdN (List.map strOfV cs)) false 0 0), some (V.int IntKind.i64 1)] [Blk.row [V.int IntKind.u8
 u, V.int IntKind.u8 s, V.int IntKind.u8 m, V.str d] 23 4, Blk.row [V.int IntKind.i64 now] 3 1, Blk.row [V.str (dK (rdG (List.map strOfV cs) 0)), V.str (dG (rdG (List.map
 strOfV cs) 0)), V.nos 3 (dN (rdG (List.map strOfV cs) 0)), V.int IntKind.i64 (dF (rdG (List.map strOfV cs) 0)), V.int IntKind.i64 (dU (rdG (List.map strOfV cs) 0)),
 V.bool (dCa (rdG (List.map strOfV cs) 0)), V.str (dK (rdG (List.map strOfV cs) 1)), V.str (dG (rdG (List.map strOfV cs) 1)), V.nos 4 (dN (rdG (List.map strOfV cs) 1)),
 V.int IntKind.i64 (dF (rdG (List.map strOfV cs) 1)), V.int IntKind.i64 (dU (rdG (List.map strOfV cs) 1)), V.bool (dCa (rdG (List.map strOfV cs) 1)), V.str (dK (rdG
 (List.map strOfV cs) 2)), V.str (dG (rdG (List.map strOfV cs) 2)), V.nos 5 (dN (rdG (List.map strOfV cs) 2)), V.int IntKind.i64 (dF (rdG (List.map strOfV cs) 2)), V.int
 IntKind.i64 (dU (rdG (List.map strOfV cs) 2)), V.bool (dCa (rdG (List.map strOfV cs) 2)), V.str (dK (rdG (List.map strOfV cs) 3)), V.str (dG (rdG (List.map strOfV cs)
 3)), V.nos 6 (dN (rdG (List.map strOfV cs) 3)), V.int IntKind.i64 (dF (rdG (List.map strOfV cs) 3)), V.int IntKind.i64 (dU (rdG (List.map strOfV cs) 3)), V.bool (dCa (rdG
 (List.map strOfV cs) 3))] 34 6, Blk.ro true (shiftL 2 (strs (dL (rdG (List.map strOfV cs) 0)))), Blk.ro true (shiftL 2 (strs (dL (rdG (List.map strOfV cs) 1)))), Blk.ro
 true (shiftL 2 (strs (dL (rdG (List.map strOfV cs) 2)))), Blk.ro true (shiftL 2 (strs (dL (rdG (List.map strOfV cs) 3))))] ∧ bif mtPre { u := u, s := s, m := m, d := d, x := x, n := n, cs := cs, now := now, i := 1 }
 then bif matV u s m d now cs 1 then ∀ (j : Int), R (V.bool true) else ∀ (j : Int), R (V.bool false) else False else False else False else False else R (V.bool false)) := by kernel_rfl
def matB (u s m : Int) (d : List UInt8) (l : List (List UInt8)) (h : List UInt8) (now : Int) : Bool :=
 bif u == 3 then (match l with | [] => false | a :: _ => ofB u s m d a) else bif u == 2 then (!Nat.beq (rdN l) 0 && (hasH (dL (rdG l 0)) h && matF u s m d now l (rdN l - 1) 1)) else false
def matT : List V → Option (List (Bool × (V × St)))
 | [.agg [.int .u8 u, .int .u8 s, .int .u8 m, .str d], .lst _ n cs, .str h, .int .i64 now] => some [(okS n cs && (u8B s && u8B m), (.bool (matB u s m d (cs.map strOfV) h now), []))]
 | _ => none
theorem mat_ok (args : List V) (L : List (Bool × (V × St))) (o : V × St) (h : matT args = some L) (ho : pickO L = some o) : FnSat Tryd.prog 6 args [] (Is o) := by
 unfold matT at h
 split at h
 ·rename_i u s m d x n cs h now
  cases h
  obtain ⟨hk, rfl⟩ := pickO_one ho
  rw [Bool.and_eq_true] at hk
  obtain ⟨hx1, hu⟩ := hk
  obtain ⟨l, rfl, rfl, p3, p4⟩ := okS_spec hx1
  refine pureW_of (lim := 9) (n := 10) mixed MT1_ok rfl rfl ?_
  refine cast (mt_tree u s m d x l.length (strs l) h now _).symm ?_
  unfold matB
  rw [strs_strOf]
  cases hu3 : u == 3 with
  | true =>
   rw [cond_true, cond_true]
   cases l with
   | nil => exact bif_intro (fun e => absurd (of_decide_eq_true e) (by simp)) (fun _ => rfl)
   | cons a r =>
    rw [hu]
    have e1 : decide (((a :: r).length : Int) > 0) = true := decide_eq_true (by rw [List.length_cons]; omega)
    rw [e1]
    exact rfl
  | false =>
  rw [cond_false, cond_false]
  cases hu2 : u == 2 with
  | false => rfl
  | true =>
  rw [cond_true, cond_true, hx1, Bool.true_and, Bool.true_and, Bool.true_and, Bool.true_and, Bool.true_and]
  have h4 := (rdN_le l).1
  have q1 : (dN (rdG l 0) * 1).ble (shiftL 2 (strs (dL (rdG l 0)))).length = true := by rw [shiftS, strs_len, Nat.mul_one]; exact Nat.ble_eq_true_of_le (Nat.le_refl _)
  have q2 : List.take (dN (rdG l 0) * 1) (shiftL 2 (strs (dL (rdG l 0)))) = strs (dL (rdG l 0)) := by rw [shiftS, Nat.mul_one]; exact List.take_of_length_le (by rw [strs_len]; exact Nat.le_refl _)
  have q3 : (strs (dL (rdG l 0))).length.beq (dN (rdG l 0)) = true := by rw [strs_len]; exact Nat.beq_refl _
  have q4 : (dL (rdG l 0)).length.ble 9223372036854775807 = true := Nat.ble_eq_true_of_le (by have := dL_small (rdG l 0); omega)
  have pre : rdN l ≠ 0 → mtPre ⟨u, s, m, d, x, l.length, strs l, now, 1⟩ = true := fun h0 => by
   unfold mtPre
   rw [strs_strOf, hx1, hu, Nat.ble_eq_true_of_le (show 1 ≤ rdN l by omega)]; rfl
  have fits : ∀ {st : St}, matS u s m d now l = st → Fits 0 [.lst x l.length (strs l), .ptr 0 0, .ptr 1 0, .bool false, .slice 2 0 (rdN l) false 0 0, .int .i64 1] (matS u s m d now l) [some (.lst x l.length (strs l)), some (.ptr 0 0), some (.ptr 1 0), some (.bool false), some (.slice 2 0 (rdN l) false 0 0), some (.int .i64 1)] st := fun {st} hs => by
   have := mt_fits' x l.length (strs l) u s m d now false 1 (st := st) (by rw [strs_strOf]; exact hs)
   rw [strs_strOf] at this; exact this
  have fin : ∀ {st : St}, rdN l ≠ 0 → matS u s m d now l = st → hasH (dL (rdG l 0)) h = true → (Fits 0 [.lst x l.length (strs l), .ptr 0 0, .ptr 1 0, .bool false, .slice 2 0 (rdN l) false 0 0, .int .i64 1] (matS u s m d now l) [some (.lst x l.length (strs l)), some (.ptr 0 0), some (.ptr 1 0), some (.bool false), some (.slice 2 0 (rdN l) false 0 0), some (.int .i64 1)] st ∧ bif mtPre ⟨u, s, m, d, x, l.length, strs l, now, 1⟩ then bif matV u s m d now (strs l) 1 then ∀ (j : Int), V.bool true = V.bool (!Nat.beq (rdN l) 0 && (hasH (dL (rdG l 0)) h && matF u s m d now l (rdN l - 1) 1)) else ∀ (j : Int), V.bool false = V.bool (!Nat.beq (rdN l) 0 && (hasH (dL (rdG l 0)) h && matF u s m d now l (rdN l - 1) 1)) else False) := fun h0 hs hh => by
   have n0 : Nat.beq (rdN l) 0 = false := by
    cases hb : Nat.beq (rdN l) 0 with
    | false => rfl
    | true => exact absurd (Nat.eq_of_beq_eq_true hb) h0
   refine ⟨fits hs, must_intro (pre h0) ?_⟩
   unfold matV
   rw [strs_strOf, hh, n0]
   cases hm : matF u s m d now l (rdN l - 1) 1 with
   | true => intro j; rfl
   | false => intro j; rfl
  have no : hasH (dL (rdG l 0)) h = false → V.bool false = V.bool (!Nat.beq (rdN l) 0 && (hasH (dL (rdG l 0)) h && matF u s m d now l (rdN l - 1) 1)) := fun e => by rw [e, Bool.false_and, Bool.and_false]
  rw [q1, q2, strs_isStr, q3, strs_strOf, q4]
  have nb : ∀ {k : Nat} {A : Prop}, rdN l ≠ k → Nat.beq (rdN l) k = true → A := fun h e => absurd (Nat.eq_of_beq_eq_true e) h
  have yb : ∀ {k : Nat} {A B : Prop}, rdN l = k → A → (bif Nat.beq (rdN l) k then A else B) := fun h a => by rw [h, Nat.beq_refl]; exact a
  have z0 : ∀ {A B : Prop}, rdN l ≠ 0 → B → (bif (rdN l : Int) == 0 then A else B) := fun h b => bif_intro (fun e => absurd (eq_of_beq e) (by omega)) (fun _ => b)
  have z1 : rdN l ≠ 0 → (true && decide (0 < (rdN l : Int))) = true := fun h => by rw [Bool.true_and]; exact decide_eq_true (by omega)
  rcases (by omega : rdN l = 0 ∨ rdN l = 1 ∨ rdN l = 2 ∨ rdN l = 3 ∨ rdN l = 4) with hj | hj | hj | hj | hj
  ·exact yb hj (by rw [hj]; rfl)
  ·refine bif_intro (fun e => nb (by omega) e) (fun _ => ?_)
   refine yb hj (z0 (by omega) (must_intro (z1 (by omega)) (must_intro rfl ?_)))
   exact bif_intro (fun e => no (by simpa using e)) (fun e => fin (by omega) (by unfold matS mA mB mN nmR rdT; rw [hj]; rfl) (by simpa using e))
  ·refine bif_intro (fun e => nb (by omega) e) (fun _ => ?_)
   refine bif_intro (fun e => nb (by omega) e) (fun _ => ?_)
   refine yb hj (z0 (by omega) (must_intro (z1 (by omega)) (must_intro rfl ?_)))
   exact bif_intro (fun e => no (by simpa using e)) (fun e => fin (by omega) (by unfold matS mA mB mN nmR rdT; rw [hj]; rfl) (by simpa using e))
  ·refine bif_intro (fun e => nb (by omega) e) (fun _ => ?_)
   refine bif_intro (fun e => nb (by omega) e) (fun _ => ?_)
   refine bif_intro (fun e => nb (by omega) e) (fun _ => ?_)
   refine yb hj (z0 (by omega) (must_intro (z1 (by omega)) (must_intro rfl ?_)))
   exact bif_intro (fun e => no (by simpa using e)) (fun e => fin (by omega) (by unfold matS mA mB mN nmR rdT; rw [hj]; rfl) (by simpa using e))
  ·refine bif_intro (fun e => nb (by omega) e) (fun _ => ?_)
   refine bif_intro (fun e => nb (by omega) e) (fun _ => ?_)
   refine bif_intro (fun e => nb (by omega) e) (fun _ => ?_)
   refine bif_intro (fun e => nb (by omega) e) (fun _ => ?_)
   refine yb hj (z0 (by omega) (must_intro (z1 (by omega)) (must_intro rfl ?_)))
   exact bif_intro (fun e => no (by simpa using e)) (fun e => fin (by omega) (by unfold matS mA mB mN nmR rdT; rw [hj]; rfl) (by simpa using e))
 ·cases h
end Go.Proofs.YthcoeoibejgaiaaDoor
