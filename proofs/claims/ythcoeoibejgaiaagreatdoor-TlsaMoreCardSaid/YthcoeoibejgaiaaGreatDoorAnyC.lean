/- Whether one of records matches a chain: what it comes to. -/
import Derived.Test.YthcoeoibejgaiaaGreatDoorUsables
namespace Go.Proofs.YthcoeoibejgaiaaGreatDoor
open Go Go.Vm Go.RowKit
set_option linter.unusedVariables false
set_option maxRecDepth 100000
set_option linter.unusedSectionVars false
variable [Φ : Frz]
noncomputable def AY0 : Tab := ⟨addT noT 9 matT, noL, noLks 9⟩
theorem AY0_ok : TabOk3 Tryz.prog AY0 := ⟨addT_ok noT_ok mat_ok, noL_ok, noLks_ok 9⟩
def ayF (y1 : Value) (p : Value) (k : Nat) (ds : List V) (y2 : Value) (h : List UInt8) (y3 : Value) (now : Int) : V := .func (.func 39) [] [.lptr y1 1 [.lst p k ds] 0, .lptr y2 1 [.str h] 0, .lptr y3 1 [.int .i64 now] 0]
theorem ay_round (x : Value) (n : Nat) (cs : List V) (y1 : Value) (p : Value) (k : Nat) (ds : List V) (y2 : Value) (h : List UInt8) (y3 : Value) (now : Int) (i : Int) (R : Exit → List (Option V) → St → Prop) : roundW Tryz.prog AY0 9 10 (rounds 9) 75 26 [0,1,4,7,8] [.lst x n cs, ayF y1 p k ds y2 h y3 now, .int .i64 0, .int .i64 n, .int .i64 i] [] R =
  (
 bif decide (i < (↑n : Int)) then bif decide (0 ≤ i) && decide (i < (↑n : Int)) then bif (i.toNat * 4 + 4).ble cs.length then bif isIntV IntKind.u8 (cs.getD (i.toNat * 4 +
 0) (V.bool false)) then bif isIntV IntKind.u8 (cs.getD (i.toNat * 4 + 1) (V.bool false)) then bif isIntV IntKind.u8 (cs.getD (i.toNat * 4 + 2) (V.bool false)) then bif
 isStrV (cs.getD (i.toNat * 4 + 3) (V.bool false)) then bif okS k ds && (u8B ((intOfV (cs.getD (i.toNat * 4 + 1) (V.bool false)))) && u8B ((intOfV (cs.getD (i.toNat * 4 +
 2) (V.bool false))))) then bif matB ((intOfV (cs.getD (i.toNat * 4 + 0) (V.bool false)))) ((intOfV (cs.getD (i.toNat * 4 + 1) (V.bool false)))) ((intOfV (cs.getD (i.toNat
 * 4 + 2) (V.bool false)))) ((strOfV (cs.getD (i.toNat * 4 + 3) (V.bool false)))) (List.map strOfV ds) (h) (now) then R Exit.ret [some (V.lst x n cs), some (V.func
 (Fn.func 39) [] [V.lptr y1 1 [V.lst p k ds] 0, V.lptr y2 1 [V.str h] 0, V.lptr y3 1 [V.int IntKind.i64 now] 0]), some (V.int IntKind.i64 i), some (V.int IntKind.i64 (↑n :
 Int)), some (V.int IntKind.i64 i)] [Blk.row [V.int IntKind.u8 (intOfV (cs.getD (i.toNat * 4 + 0) (V.bool false))), V.int IntKind.u8 (intOfV (cs.getD (i.toNat * 4 + 1)
 (V.bool false))), V.int IntKind.u8 (intOfV (cs.getD (i.toNat * 4 + 2) (V.bool false))), V.str (strOfV (cs.getD (i.toNat * 4 + 3) (V.bool false)))] 24 4] else R
 Exit.normal [some (V.lst x n cs), some (V.func (Fn.func 39) [] [V.lptr y1 1 [V.lst p k ds] 0, V.lptr y2 1 [V.str h] 0, V.lptr y3 1 [V.int IntKind.i64 now] 0]), some
 (V.int IntKind.i64 0), some (V.int IntKind.i64 (↑n : Int)), some (V.int IntKind.i64 (IntKind.i64.wrap (i + 1)))] [Blk.row [V.int IntKind.u8 (intOfV (cs.getD (i.toNat * 4
 + 0) (V.bool false))), V.int IntKind.u8 (intOfV (cs.getD (i.toNat * 4 + 1) (V.bool false))), V.int IntKind.u8 (intOfV (cs.getD (i.toNat * 4 + 2) (V.bool false))), V.str
 (strOfV (cs.getD (i.toNat * 4 + 3) (V.bool false)))] 24 4] else False else False else False else False else False else False else False else R (Exit.exit 0) [some (V.lst
 x n cs), some (V.func (Fn.func 39) [] [V.lptr y1 1 [V.lst p k ds] 0, V.lptr y2 1 [V.str h] 0, V.lptr y3 1 [V.int IntKind.i64 now] 0]), some (V.int IntKind.i64 0), some
 (V.int IntKind.i64 (↑n : Int)), some (V.int IntKind.i64 i)] []) := by kernel_rfl
def inU (r : TL) : Bool := u8B r.s && u8B r.m
def anyC (l : List TL) (ds : List (List UInt8)) (h : List UInt8) (now : Int) : Bool := l.any fun r => matB r.u r.s r.m r.d ds h now
structure AY where
 x : Value
 n : Nat
 cs : List V
 y1 : Value
 p : Value
 k : Nat
 ds : List V
 y2 : Value
 h : List UInt8
 y3 : Value
 now : Int
 i : Nat
def AY.f (z : AY) : V := ayF z.y1 z.p z.k z.ds z.y2 z.h z.y3 z.now
def ayV (z : AY) : List V := [.lst z.x z.n z.cs, ayF z.y1 z.p z.k z.ds z.y2 z.h z.y3 z.now, .int .i64 0, .int .i64 z.n, .int .i64 z.i]
def ayJ (_ : AY) : St := []
def ayPre (z : AY) : Bool := okT z.n z.cs && (okS z.k z.ds && ((tlD z.cs).all inU && Nat.ble z.i z.n))
def ayMu (z : AY) : Nat := z.n - z.i
def ayDec : List (Option V) → St → Option AY
 | [some (.lst x n cs), some (.func (.func 39) [] [.lptr y1 1 [.lst p k ds] 0, .lptr y2 1 [.str h] 0, .lptr y3 1 [.int .i64 now] 0]), some (.int .i64 0), some (.int .i64 _), some (.int .i64 0)], _ => some ⟨x, n, cs, y1, p, k, ds, y2, h, y3, now, 0⟩
 | _, _ => none
def ayW (cs ds : List V) (h : List UInt8) (now : Int) (i : Nat) : Bool := anyC ((tlD cs).drop i) (ds.map strOfV) h now
def ayOutG (x : Value) (n : Nat) (cs : List V) (f : V) (b : Bool) (K : Exit → List V → St → Prop) : Prop :=
 bif b then ∀ i : Nat, K .ret [.lst x n cs, f, .int .i64 i, .int .i64 n, .int .i64 i] [] else K (.exit 0) [.lst x n cs, f, .int .i64 0, .int .i64 n, .int .i64 n] []
def ayOut : Asks AY := fun z K => ayOutG z.x z.n z.cs (ayF z.y1 z.p z.k z.ds z.y2 z.h z.y3 z.now) (ayW z.cs z.ds z.h z.now z.i) K
theorem ay_roundOk (z : AY) (hx : ayPre z = true) : roundW Tryz.prog AY0 9 10 (rounds 9) 75 26 [0,1,4,7,8] (ayV z) (ayJ z) (RoundOkA 0 ayPre ayV ayJ ayMu ayOut z) := by
 obtain ⟨x, n, cs, y1, p, k, ds, y2, h, y3, now, i⟩ := z
 unfold ayPre at hx
 simp only [Bool.and_eq_true] at hx
 have hx1 : okT n cs = true := hx.1
 have hx2 : okS k ds = true := hx.2.1
 have hx3 : (tlD cs).all inU = true := hx.2.2.1
 have p1 : i ≤ n := Nat.le_of_ble_eq_true hx.2.2.2
 obtain ⟨l, rfl, rfl, p2, p3⟩ := okT_spec hx1
 rw [p3] at hx3
 show roundW Tryz.prog AY0 9 10 (rounds 9) 75 26 [0,1,4,7,8] [.lst x l.length (tls l), ayF y1 p k ds y2 h y3 now, .int .i64 0, .int .i64 l.length, .int .i64 i] [] _
 rw [ay_round]
 have out : ∀ K, ayOut ⟨x, l.length, tls l, y1, p, k, ds, y2, h, y3, now, i⟩ K → ayOutG x l.length (tls l) (ayF y1 p k ds y2 h y3 now) (anyC (l.drop i) (ds.map strOfV) h now) K := fun K hK => by
  have hK : ayOutG x l.length (tls l) (ayF y1 p k ds y2 h y3 now) (anyC ((tlD (tls l)).drop i) (ds.map strOfV) h now) K := hK
  rw [p3] at hK; exact hK
 have fl : ∀ a j : Int, flatL [.lst x l.length (tls l), ayF y1 p k ds y2 h y3 now, .int .i64 a, .int .i64 l.length, .int .i64 j] = true := fun _ _ => rfl
 cases hd : l.drop i with
 | nil =>
  have hi := dropA_nil hd p1
  rw [decide_eq_false (show ¬ ((i : Int) < (l.length : Int)) by omega), cond_false]
  refine ⟨_, [], fun K hK => ?_, vs_fits _ (fl 0 i) _ rfl _⟩
  have hK := out K hK
  rw [hd] at hK
  have hn : i = l.length := by omega
  rw [hn]; exact hK
 | cons c r =>
  obtain ⟨e1, e2, e3⟩ := dropA_cons hd
  have get : ∀ j, j < 4 → (tls l).getD (i * 4 + j) (.bool false) = c.cells.getD j (.bool false) := fun j hj => by
   obtain ⟨t1, t2⟩ := tls_at hd hj
   rw [List.getD_eq_getElem?_getD, List.getD_eq_getElem?_getD, Nat.mul_comm, t1]
  have g0 : (tls l).getD (i * 4 + 0) (.bool false) = .int .u8 c.u := get 0 (by omega)
  have g1 : (tls l).getD (i * 4 + 1) (.bool false) = .int .u8 c.s := get 1 (by omega)
  have g2 : (tls l).getD (i * 4 + 2) (.bool false) = .int .u8 c.m := get 2 (by omega)
  have g3 : (tls l).getD (i * 4 + 3) (.bool false) = .str c.d := get 3 (by omega)
  have hc : inU c = true := List.all_eq_true.1 hx3 c (List.mem_of_mem_drop (by rw [hd]; simp))
  have hc : (u8B c.s && u8B c.m) = true := hc
  have d1 : decide ((i : Int) < (l.length : Int)) = true := decide_eq_true (by omega)
  have d2 : decide ((0 : Int) ≤ (i : Int)) = true := decide_eq_true (by omega)
  have l4 : (i * 4 + 4).ble (tls l).length = true := Nat.ble_eq_true_of_le (by rw [tls_len]; omega)
  have w2 : IntKind.i64.wrap ((i : Int) + 1) = ((i + 1 : Nat) : Int) := by rw [IntWalk.i64_in _ ⟨by omega, by omega⟩]; omega
  simp only [d1, d2, Int.toNat_natCast, l4, g0, g1, g2, g3, isStrV, strOfV, isIntV, intOfV, decide_true, w2, hx2, hc, Bool.and_self, cond_true]
  have next : anyC (c :: r) (ds.map strOfV) h now = (matB c.u c.s c.m c.d (ds.map strOfV) h now || anyC r (ds.map strOfV) h now) := rfl
  refine bif_intro (fun e => ?_) (fun e => ?_)
  ·refine ⟨_, [], fun K hK => ?_, vs_fits _ (fl i i) _ rfl _⟩
   have hK := out K hK
   rw [hd, next, e] at hK
   exact hK i
  ·refine ⟨⟨x, l.length, tls l, y1, p, k, ds, y2, h, y3, now, i + 1⟩, ?_, vs_fits _ (fl 0 _) _ rfl _, by simp only [ayMu]; omega, fun K hK => ?_⟩
   ·unfold ayPre; simp only [Bool.and_eq_true]
    exact ⟨hx1, hx2, by rw [p3]; exact hx3, Nat.ble_eq_true_of_le (show i + 1 ≤ l.length by omega)⟩
   ·have hK := out K hK
    rw [hd, next, e, Bool.false_or] at hK
    show ayOutG x l.length (tls l) (ayF y1 p k ds y2 h y3 now) (anyC ((tlD (tls l)).drop (i + 1)) (ds.map strOfV) h now) K
    rw [p3, e2]; exact hK
noncomputable def lkAY : Nat → Trans → Trans := withLoop 26 (loopA 0 (szOf Tryz.prog 75) [0,1,4,7,8] ayDec ayPre ayV ayJ ayOut) (rounds 9)
theorem lkAY_ok : FnLoopsW Tryz.prog 0 lkAY 75 := by
 unfold lkAY
 exact fnLoopW (fnRoundsW 9 0 75) (by kernel_rfl) fun f st Q h => loopA_ok (P := Tryz.prog) (T := AY0) (k := 0) (lim := 9) (n := 10) (g := 75) (p0 := 26) (lk := rounds 9) mixed AY0_ok (roundsW 9 _ _) ayMu ay_roundOk h
noncomputable def AY1 : Tab := ⟨noT, noL, addLk (noLks 9) 75 0 lkAY⟩
theorem AY1_ok : TabOk3 Tryz.prog AY1 := ⟨noT_ok, noL_ok, addLk_ok (noLks_ok 9) lkAY_ok⟩
theorem ay_tree (x : Value) (n : Nat) (cs : List V) (y1 : Value) (p : Value) (k : Nat) (ds : List V) (y2 : Value) (h : List UInt8) (y3 : Value) (now : Int) (R : V → Prop) : runW Tryz.prog AY1 9 10 38 [.lst x n cs, .func (.func 39) [] [.lptr y1 1 [.lst p k ds] 0, .lptr y2 1 [.str h] 0, .lptr y3 1 [.int .i64 now] 0]] R =
  (
 Fits 0 [V.lst x n cs, V.func (Fn.func 39) [] [V.lptr y1 1 [V.lst p k ds] 0, V.lptr y2 1 [V.str h] 0, V.lptr y3 1 [V.int IntKind.i64 now] 0], V.int IntKind.i64 0, V.int
 IntKind.i64 (↑n : Int), V.int IntKind.i64 0] [] [some (V.lst x n cs), some (V.func (Fn.func 39) [] [V.lptr y1 1 [V.lst p k ds] 0, V.lptr y2 1 [V.str h] 0, V.lptr y3 1
 [V.int IntKind.i64 now] 0]), some (V.int IntKind.i64 0), some (V.int IntKind.i64 (↑n : Int)), some (V.int IntKind.i64 0)] [] ∧ bif ayPre { x := x, n := n, cs := cs, y1 := y1, p := p, k := k, ds := ds, y2 := y2, h := h, y3 := y3, now := now, i := 0 }
 then bif ayW cs ds h now 0 then ∀ (i : Nat), R (V.bool true) else R (V.bool false) else False) := by kernel_rfl
theorem ay_sat (x : Value) (n : Nat) (cs : List V) (y1 : Value) (p : Value) (k : Nat) (ds : List V) (y2 : Value) (h : List UInt8) (y3 : Value) (now : Int) (h1 : okT n cs = true) (h2 : okS k ds = true) (h3 : (tlD cs).all inU = true) : FnSat Tryz.prog 38 [.lst x n cs, .func (.func 39) [] [.lptr y1 1 [.lst p k ds] 0, .lptr y2 1 [.str h] 0, .lptr y3 1 [.int .i64 now] 0]] [] (Is (.bool (anyC (tlD cs) (ds.map strOfV) h now), [])) := by
 refine pureW_of (lim := 9) (n := 10) mixed AY1_ok rfl rfl ?_
 rw [ay_tree]
 have e : ayW cs ds h now 0 = anyC (tlD cs) (ds.map strOfV) h now := rfl
 rw [e]
 refine ⟨vs_fits _ rfl _ rfl _, must_intro (by unfold ayPre; rw [h1, h2, h3]; exact Nat.ble_eq_true_of_le (Nat.zero_le _)) ?_⟩
 cases anyC (tlD cs) (ds.map strOfV) h now with
 | false => rfl
 | true => intro _; rfl
end Go.Proofs.YthcoeoibejgaiaaGreatDoor
