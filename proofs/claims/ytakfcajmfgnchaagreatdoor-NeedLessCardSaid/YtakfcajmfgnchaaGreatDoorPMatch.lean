/- Whether a policy matches a host: what it comes to. -/
import Derived.Test.YtakfcajmfgnchaaGreatDoorMatch
import Derived.Test.YtakfcajmfgnchaaGreatDoorBys
namespace Go.Proofs.YtakfcajmfgnchaaGreatDoor
open Go Go.Vm Go.RowKit
set_option linter.unusedVariables false
set_option maxRecDepth 100000
set_option linter.unusedSectionVars false
variable [Φ : Frz]
noncomputable def PC0 : Tab := ⟨addP noT 58 matchP, noL, aR 9⟩
theorem PC0_ok : TabOk3 Tryz.prog PC0 := ⟨aP aC match_ok, aD, am 9⟩
theorem pc_tree (s h : List UInt8) (R : V → Prop) : lookW PC0 57 [.str s, .ptr 0 0] [.ro false [.str h]] (fun v _ => R v) =
  (
 R (V.bool (dI s h))) := by kernel_rfl
def pcL : List V → St → Option (Bool × V)
 | [.str s, .ptr 0 0], [.ro false [.str h]] => some (true, .bool (dI s h))
 | _, _ => none
theorem pcL_ok (args : List V) (s : St) (v : V) (h : pcL args s = some (true, v)) : v.flat = true ∧ (∀ b ∈ s, aH b.cs = true) ∧ FnSat Tryz.prog 57 args s (fun u _ => u = v) := by
 unfold pcL at h
 split at h
 ·rename_i s h
  cases h
  refine ⟨rfl, by simp [Blk.cs, aH, V.flat], lookW_ok PC0_ok ?_⟩
  rw [pc_tree]
 ·cases h
noncomputable def PX0 : Tab := ⟨noT, addL noL 57 pcL, aR 9⟩
theorem PX0_ok : TabOk3 Tryz.prog PX0 := ⟨aC, addL_ok aD pcL_ok, am 9⟩
theorem px_round (x : Value) (n : Nat) (cs : List V) (h : List UInt8) (i : Int) (R : Exit → List (Option V) → St → Prop) : ap Tryz.prog PX0 9 10 (ai 9) 79 26 [0,1,4,7,8] [.lst x n cs, .func (.func 57) [] [.ptr 1 0], .int .i64 0, .int .i64 n, .int .i64 i] [.dead, .row [.str h] 9 1] R =
  (
 bif decide (i < (↑n : Int)) then bif decide (0 ≤ i) && decide (i < (↑n : Int)) then bif (i.toNat * 1).blt cs.length then bif aw (cs.getD (i.toNat * 1) (V.bool false))
 then bif dI (aa (cs.getD (i.toNat * 1) (V.bool false))) h then R Exit.ret [some (V.lst x n cs), some (V.func (Fn.func 57) [] [V.ptr 1 0]), some (V.int IntKind.i64
 i), some (V.int IntKind.i64 (↑n : Int)), some (V.int IntKind.i64 i)] [Blk.dead, Blk.row [V.str h] 9 1] else R Exit.normal [some (V.lst x n cs), some (V.func (Fn.func 57)
 [] [V.ptr 1 0]), some (V.int IntKind.i64 0), some (V.int IntKind.i64 (↑n : Int)), some (V.int IntKind.i64 (IntKind.i64.wrap (i + 1)))] [Blk.dead, Blk.row [V.str h] 9 1]
 else False else False else False else R (Exit.exit 0) [some (V.lst x n cs), some (V.func (Fn.func 57) [] [V.ptr 1 0]), some (V.int IntKind.i64 0), some (V.int IntKind.i64
 (↑n : Int)), some (V.int IntKind.i64 i)] [Blk.dead, Blk.row [V.str h] 9 1]) := by kernel_rfl
structure PX where
 x : Value
 n : Nat
 cs : List V
 h : List UInt8
 i : Nat
def pxV (y : PX) : List V := [.lst y.x y.n y.cs, .func (.func 57) [] [.ptr 1 0], .int .i64 0, .int .i64 y.n, .int .i64 y.i]
def pxJ (y : PX) : St := [.dead, .row [.str y.h] 9 1]
def pxPre (y : PX) : Bool := okS y.n y.cs && Nat.ble y.i y.n
def pxMu (y : PX) : Nat := y.n - y.i
def pxDec : List (Option V) → St → Option PX
 | [some (.lst x n cs), some (.func (.func 57) [] [.ptr 1 0]), some (.int .i64 0), some (.int .i64 _), some (.int .i64 0)], _ :: .row [.str h] _ _ :: _ => some ⟨x, n, cs, h, 0⟩
 | _, _ => none
def anyM (cs : List V) (h : List UInt8) : Bool := (cs.map aa).any fun s => dI s h
def pxOutG (x : Value) (n : Nat) (cs : List V) (h : List UInt8) (b : Bool) (K : Exit → List V → St → Prop) : Prop :=
 bif b then ∀ i : Nat, K .ret [.lst x n cs, .func (.func 57) [] [.ptr 1 0], .int .i64 i, .int .i64 n, .int .i64 i] [.dead, .row [.str h] 9 1] else K (.exit 0) [.lst x n cs, .func (.func 57) [] [.ptr 1 0], .int .i64 0, .int .i64 n, .int .i64 n] [.dead, .row [.str h] 9 1]
def pxOut : Asks PX := fun y K => pxOutG y.x y.n y.cs y.h (anyM (y.cs.drop y.i) y.h) K
theorem px_fits (v : V) (hv : v.flat = true) (n i a : Int) (b : Blk) (h : List UInt8) : Fits 2 [v, .func (.func 57) [] [.ptr 1 0], .int .i64 a, .int .i64 n, .int .i64 i] [.dead, .row [.str h] 9 1] [some v, some (.func (.func 57) [] [.ptr 1 0]), some (.int .i64 a), some (.int .i64 n), some (.int .i64 i)] [b, .row [.str h] 9 1] :=
 ⟨[0, 1], [v, .func (.func 57) [] [.ptr 1 0], .int .i64 a, .int .i64 n, .int .i64 i], rfl, by simp [renL, renV, cp v hv], FitsM.of ⟨.inl rfl, .inr ⟨_, .inl rfl, rfl⟩, trivial⟩, by decide, fun i hi => by
  match i, hi with
  | 0, _ | 1, _ => rfl⟩
theorem px_roundOk (y : PX) (px : pxPre y = true) : ap Tryz.prog PX0 9 10 (ai 9) 79 26 [0,1,4,7,8] (pxV y) (pxJ y) (aM 2 pxPre pxV pxJ pxMu pxOut y) := by
 obtain ⟨x, n, cs, h, i⟩ := y
 unfold pxPre at px
 rw [Bool.and_eq_true] at px
 have p1 : i ≤ n := Nat.le_of_ble_eq_true px.2
 have px1 : okS n cs = true := px.1
 obtain ⟨l, rfl, rfl, p2, p3⟩ := cF px1
 show ap Tryz.prog PX0 9 10 (ai 9) 79 26 [0,1,4,7,8] [.lst x l.length (strs l), .func (.func 57) [] [.ptr 1 0], .int .i64 0, .int .i64 l.length, .int .i64 i] [.dead, .row [.str h] 9 1] _
 rw [px_round]
 have ha : ∀ j, anyM ((strs l).drop j) h = (l.drop j).any fun s => dI s h := fun j => by
  unfold anyM; rw [List.map_drop, ao]
 have out : ∀ K, pxOut ⟨x, l.length, strs l, h, i⟩ K → pxOutG x l.length (strs l) h ((l.drop i).any fun s => dI s h) K := fun K hK => by
  have hK : pxOutG x l.length (strs l) h (anyM ((strs l).drop i) h) K := hK
  rw [ha] at hK; exact hK
 cases hd : l.drop i with
 | nil =>
  have hi := b9 hd p1
  rw [decide_eq_false (show ¬ ((i : Int) < (l.length : Int)) by omega), cond_false]
  refine ⟨_, _, fun K hK => ?_, px_fits _ rfl _ _ _ _ h⟩
  have hK := out K hK
  rw [hd] at hK
  rw [hi]; exact hK
 | cons c r =>
  obtain ⟨e1, e2, e3⟩ := bt hd
  obtain ⟨e4, e5⟩ := strs_at hd
  have q1 : decide ((i : Int) < (l.length : Int)) = true := decide_eq_true (by omega)
  have q2 : decide ((0 : Int) ≤ (i : Int)) = true := decide_eq_true (by omega)
  rw [q1, q2]
  simp only [Int.toNat_natCast, e4, e5, aw, aa, cond_true, Bool.and_true, show IntKind.i64.wrap ((i : Int) + 1) = ((i + 1 : Nat) : Int) by rw [IntWalk.i64_in _ ⟨by omega, by omega⟩]; omega]
  cases hc : dI c h with
  | true =>
   refine ⟨_, _, fun K hK => ?_, px_fits _ rfl _ _ _ _ h⟩
   have hK := out K hK
   rw [hd, List.any_cons, hc] at hK
   exact hK i
  | false =>
   refine ⟨⟨x, l.length, strs l, h, i + 1⟩, ?_, px_fits _ rfl _ _ _ _ h, by simp only [pxMu]; omega, fun K hK => ?_⟩
   ·unfold pxPre; rw [Bool.and_eq_true]; exact ⟨px1, Nat.ble_eq_true_of_le (show i + 1 ≤ l.length by omega)⟩
   ·have hK := out K hK
    show pxOutG x l.length (strs l) h (anyM ((strs l).drop (i + 1)) h) K
    rw [ha, e2]
    rw [hd, List.any_cons, hc, Bool.false_or] at hK
    exact hK
noncomputable def lkPX : Nat → Trans → Trans := bj 26 (b8 2 (szOf Tryz.prog 79) [0,1,4,7,8] pxDec pxPre pxV pxJ pxOut) (ai 9)
theorem lkPX_ok : aJ Tryz.prog 2 lkPX 79 := by
 unfold lkPX
 exact bP (bg 9 2 79) (by kernel_rfl) fun f st Q h => br (P := Tryz.prog) (T := PX0) (k := 2) (lim := 9) (n := 10) (g := 79) (p0 := 26) (lk := ai 9) ay PX0_ok (bi 9 _ _) pxMu px_roundOk h
noncomputable def PX1 : Tab := ⟨noT, noL, dv (aR 9) 79 2 lkPX⟩
theorem PX1_ok : TabOk3 Tryz.prog PX1 := ⟨aC, aD, bK (am 9) lkPX_ok⟩
theorem pm_tree (mo : Int) (x : Value) (n : Nat) (cs : List V) (ag : Int) (h : List UInt8) (R : V → Prop) : runW Tryz.prog PX1 9 10 34 [.agg [.int .u8 mo, .lst x n cs, .int .i64 ag], .str h] R =
  (
 Fits 2 [V.lst x n cs, V.func (Fn.func 57) [] [V.ptr 1 0], V.int IntKind.i64 0, V.int IntKind.i64 (↑n : Int), V.int IntKind.i64 0] [Blk.dead, Blk.row [V.str h] 9 1] [some
 (V.lst x n cs), some (V.func (Fn.func 57) [] [V.ptr 1 0]), some (V.int IntKind.i64 0), some (V.int IntKind.i64 (↑n : Int)), some (V.int IntKind.i64 0)] [Blk.row [V.int
 IntKind.u8 mo, V.lst x n cs, V.int IntKind.i64 ag] 28 3, Blk.row [V.str h] 9 1] ∧ bif pxPre { x := x, n := n, cs := cs, h := h, i := 0 } then bif anyM cs h then ∀ (i :
 Nat), R (V.bool true) else R (V.bool false) else False) := by kernel_rfl
def polM (l : List (List UInt8)) (h : List UInt8) : Bool := l.any fun s => dI s h
def polT : List V → Option (List (Bool × (V × St)))
 | [.agg [.int .u8 _, .lst _ n cs, .int .i64 _], .str h] => some [(okS n cs, (.bool (polM (cs.map aa) h), []))]
 | _ => none
theorem polT_ok (args : List V) (L : List (Bool × (V × St))) (o : V × St) (h : polT args = some L) (ho : aF L = some o) : FnSat Tryz.prog 34 args [] (Is o) := by
 unfold polT at h
 split at h
 ·rename_i mo x n cs ag h
  cases h
  obtain ⟨hk, rfl⟩ := aX ho
  refine az (lim := 9) (n := 10) ay PX1_ok rfl rfl ?_
  rw [pm_tree]
  have ha : anyM cs h = polM (cs.map aa) h := rfl
  rw [ha]
  refine ⟨px_fits _ rfl _ _ _ _ h, ad (by unfold pxPre; rw [hk]; exact Nat.ble_eq_true_of_le (Nat.zero_le _)) ?_⟩
  cases polM (cs.map aa) h with
  | false => rfl
  | true => intro _; rfl
 ·cases h
end Go.Proofs.YtakfcajmfgnchaaGreatDoor
