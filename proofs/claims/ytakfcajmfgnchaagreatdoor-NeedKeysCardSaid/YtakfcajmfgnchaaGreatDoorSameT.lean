/- Lists of records: whether two are the same. -/
import Derived.Test.YtakfcajmfgnchaaGreatDoorUsables
namespace Go.Proofs.YtakfcajmfgnchaaGreatDoor
open Go Go.Vm Go.RowKit
set_option linter.unusedVariables false
set_option linter.unusedSectionVars false
set_option maxRecDepth 100000
variable [Φ : Frz]
noncomputable def G0 : Tab := ⟨noT, noL, noLks 9⟩
theorem G0_ok : TabOk3 Tryz.prog G0 := ⟨noT_ok, noL_ok, noLks_ok 9⟩
theorem eq_round (x y : Value) (n m : Nat) (cs ds : List V) (i : Int) (R : Exit → List (Option V) → St → Prop) : roundW Tryz.prog G0 9 10 (rounds 9) 38 58 [0,1,4,12,13] [.lst x n cs, .lst y m ds, .bool false, .int .i64 n, .int .i64 i] [] R =
  (
 bif decide (i < (↑n : Int)) then bif decide (0 ≤ i) && decide (i < (↑n : Int)) then bif (i.toNat * 4 + 4).ble cs.length then bif isIntV IntKind.u8 (cs.getD (i.toNat * 4 +
 0) (V.bool false)) then bif isIntV IntKind.u8 (cs.getD (i.toNat * 4 + 1) (V.bool false)) then bif isIntV IntKind.u8 (cs.getD (i.toNat * 4 + 2) (V.bool false)) then bif
 isStrV (cs.getD (i.toNat * 4 + 3) (V.bool false)) then bif decide (0 ≤ i) && decide (i < (↑m : Int)) then bif (i.toNat * 4 + 4).ble ds.length then bif isIntV IntKind.u8
 (ds.getD (i.toNat * 4 + 0) (V.bool false)) then bif isIntV IntKind.u8 (ds.getD (i.toNat * 4 + 1) (V.bool false)) then bif isIntV IntKind.u8 (ds.getD (i.toNat * 4 + 2)
 (V.bool false)) then bif isStrV (ds.getD (i.toNat * 4 + 3) (V.bool false)) then bif intOfV (cs.getD (i.toNat * 4 + 0) (V.bool false)) == intOfV (ds.getD (i.toNat * 4 + 0)
 (V.bool false)) then bif intOfV (cs.getD (i.toNat * 4 + 1) (V.bool false)) == intOfV (ds.getD (i.toNat * 4 + 1) (V.bool false)) then bif intOfV (cs.getD (i.toNat * 4 + 2)
 (V.bool false)) == intOfV (ds.getD (i.toNat * 4 + 2) (V.bool false)) then bif strOfV (cs.getD (i.toNat * 4 + 3) (V.bool false)) == strOfV (ds.getD (i.toNat * 4 + 3)
 (V.bool false)) then R Exit.normal [some (V.lst x n cs), some (V.lst y m ds), some (V.bool false), some (V.int IntKind.i64 (↑n : Int)), some (V.int IntKind.i64
 (IntKind.i64.wrap (i + 1)))] [] else R Exit.ret [some (V.lst x n cs), some (V.lst y m ds), some (V.bool false), some (V.int IntKind.i64 (↑n : Int)), some (V.int
 IntKind.i64 i)] [] else R Exit.ret [some (V.lst x n cs), some (V.lst y m ds), some (V.bool false), some (V.int IntKind.i64 (↑n : Int)), some (V.int IntKind.i64 i)] []
 else R Exit.ret [some (V.lst x n cs), some (V.lst y m ds), some (V.bool false), some (V.int IntKind.i64 (↑n : Int)), some (V.int IntKind.i64 i)] [] else R Exit.ret [some
 (V.lst x n cs), some (V.lst y m ds), some (V.bool false), some (V.int IntKind.i64 (↑n : Int)), some (V.int IntKind.i64 i)] [] else False else False else False else False
 else False else False else False else False else False else False else False else False else R (Exit.exit 0) [some (V.lst x n cs), some (V.lst y m ds), some (V.bool
 false), some (V.int IntKind.i64 (↑n : Int)), some (V.int IntKind.i64 i)] []) := by kernel_rfl
theorem tls_get {l r : List TL} {i : Nat} {c : TL} (h : l.drop i = c :: r) : (i * 4 + 4).ble (tls l).length = true ∧ (tls l).getD (i * 4 + 0) (.bool false) = .int .u8 c.u ∧ (tls l).getD (i * 4 + 1) (.bool false) = .int .u8 c.s ∧ (tls l).getD (i * 4 + 2) (.bool false) = .int .u8 c.m ∧ (tls l).getD (i * 4 + 3) (.bool false) = .str c.d := by
 have g : ∀ j, j < 4 → (tls l).getD (i * 4 + j) (.bool false) = c.cells.getD j (.bool false) := fun j hj => by
  have := (tls_at h hj).1
  rw [List.getD_eq_getElem?_getD, Nat.mul_comm, this, ← List.getD_eq_getElem?_getD]
 refine ⟨Nat.ble_eq_true_of_le ?_, g 0 (by omega), g 1 (by omega), g 2 (by omega), g 3 (by omega)⟩
 have := (tls_at h (j := 3) (by omega)).2
 omega
structure EQ where
 x : Value
 y : Value
 n : Nat
 cs : List V
 ds : List V
 i : Nat
def eqV' (x : EQ) : List V := [.lst x.x x.n x.cs, .lst x.y x.n x.ds, .bool false, .int .i64 x.n, .int .i64 x.i]
def eqJ (_ : EQ) : St := []
def eqPre (x : EQ) : Bool := okT x.n x.cs && (okT x.n x.ds && Nat.ble x.i x.n)
def eqMu (x : EQ) : Nat := x.n - x.i
def eqDec : List (Option V) → St → Option EQ
 | [some (.lst x n cs), some (.lst y m ds), some (.bool false), some (.int .i64 _), some (.int .i64 0)], _ => some ⟨x, y, n, cs, ds, 0⟩
 | _, _ => none
def eqB (a b : TL) : Bool := (a.u == b.u) && ((a.s == b.s) && ((a.m == b.m) && (a.d == b.d)))
def eqsB : List TL → List TL → Bool
 | [], [] => true
 | a :: l, b :: k => eqB a b && eqsB l k
 | _, _ => false
theorem eqsB_self : ∀ l : List TL, eqsB l l = true
 | [] => rfl
 | a :: l => by simp only [eqsB, eqB, eqsB_self l, beq_self_eq_true, Bool.and_self]
theorem eqsB_len : ∀ {l k : List TL}, l.length ≠ k.length → eqsB l k = false
 | [], [], h => absurd rfl h
 | [], _ :: _, _ => rfl
 | _ :: _, [], _ => rfl
 | a :: l, b :: k, h => by
  simp only [eqsB]
  rw [eqsB_len (l := l) (k := k) (fun e => h (by simp [e])), Bool.and_false]
def eqOutG (x y : Value) (n : Nat) (cs ds : List V) (b : Bool) (K : Exit → List V → St → Prop) : Prop :=
 bif b then K (.exit 0) [.lst x n cs, .lst y n ds, .bool false, .int .i64 n, .int .i64 n] [] else ∀ i : Nat, K .ret [.lst x n cs, .lst y n ds, .bool false, .int .i64 n, .int .i64 i] []
def sameV (cs ds : List V) (i : Nat) : Bool := eqsB ((tlD cs).drop i) ((tlD ds).drop i)
def eqOut : Asks EQ := fun x K => eqOutG x.x x.y x.n x.cs x.ds (sameV x.cs x.ds x.i) K
theorem eq_roundOk (x : EQ) (hx : eqPre x = true) : roundW Tryz.prog G0 9 10 (rounds 9) 38 58 [0,1,4,12,13] (eqV' x) (eqJ x) (RoundOkA 0 eqPre eqV' eqJ eqMu eqOut x) := by
 obtain ⟨x, y, n, cs, ds, i⟩ := x
 unfold eqPre at hx
 simp only [Bool.and_eq_true] at hx
 have hx1 : okT n cs = true := hx.1
 have hx2 : okT n ds = true := hx.2.1
 have p1 : i ≤ n := Nat.le_of_ble_eq_true hx.2.2
 obtain ⟨l, rfl, rfl, p2, p3⟩ := okT_spec hx1
 obtain ⟨k, rfl, hlk, p4, p5⟩ := okT_spec hx2
 show roundW Tryz.prog G0 9 10 (rounds 9) 38 58 [0,1,4,12,13] [.lst x l.length (tls l), .lst y l.length (tls k), .bool false, .int .i64 l.length, .int .i64 i] [] _
 rw [eq_round]
 have ha : ∀ j, sameV (tls l) (tls k) j = eqsB (l.drop j) (k.drop j) := fun j => by
  unfold sameV; rw [tlD_tls, tlD_tls]
 have out : ∀ K, eqOut ⟨x, y, l.length, tls l, tls k, i⟩ K → eqOutG x y l.length (tls l) (tls k) (eqsB (l.drop i) (k.drop i)) K := fun K hK => by
  have hK : eqOutG x y l.length (tls l) (tls k) (sameV (tls l) (tls k) i) K := hK
  rw [ha] at hK; exact hK
 cases hd : l.drop i with
 | nil =>
  have hi : i = l.length := by
   have := congrArg List.length hd
   rw [List.length_drop] at this
   simp at this; omega
  have hk : k.drop i = [] := List.drop_eq_nil_of_le (by omega)
  rw [decide_eq_false (show ¬ ((i : Int) < (l.length : Int)) by omega), cond_false]
  refine ⟨[.lst x l.length (tls l), .lst y l.length (tls k), .bool false, .int .i64 l.length, .int .i64 i], [], fun K hK => ?_, vs_fits _ rfl _ rfl _⟩
  have hK := out K hK
  rw [hd, hk] at hK
  rw [hi]; exact hK
 | cons c r =>
  have dropT : ∀ {l r : List TL} {c : TL}, l.drop i = c :: r → l.drop (i + 1) = r ∧ i < l.length := fun {l r c} h => by
   refine ⟨?_, ?_⟩
   ·rw [← List.drop_drop, h]; rfl
   ·have := congrArg List.length h
    rw [List.length_drop] at this
    simp at this; omega
  obtain ⟨e2, e3⟩ := dropT hd
  obtain ⟨a0, a1, a2, a3, a4⟩ := tls_get hd
  obtain ⟨c', r', hd'⟩ : ∃ c' r', k.drop i = c' :: r' := by
   cases h : k.drop i with
   | nil =>
    have := congrArg List.length h
    rw [List.length_drop] at this
    simp at this; omega
   | cons a b => exact ⟨a, b, rfl⟩
  obtain ⟨f2, f3⟩ := dropT hd'
  obtain ⟨b0, b1, b2, b3, b4⟩ := tls_get hd'
  have q1 : decide ((i : Int) < (l.length : Int)) = true := decide_eq_true (by omega)
  have q2 : decide ((0 : Int) ≤ (i : Int)) = true := decide_eq_true (by omega)
  simp only [q1, q2, Int.toNat_natCast, a0, a1, a2, a3, a4, b0, b1, b2, b3, b4, isStrV, isIntV, strOfV, intOfV, decide_true, cond_true, Bool.and_true, show IntKind.i64.wrap ((i : Int) + 1) = ((i + 1 : Nat) : Int) by rw [IntWalk.i64_in _ ⟨by omega, by omega⟩]; omega]
  have hcons : eqsB (l.drop i) (k.drop i) = (eqB c c' && eqsB r r') := by rw [hd, hd']; rfl
  have away : eqB c c' = false → RoundOkA 0 eqPre eqV' eqJ eqMu eqOut ⟨x, y, l.length, tls l, tls k, i⟩ Exit.ret [some (.lst x l.length (tls l)), some (.lst y l.length (tls k)), some (.bool false), some (.int .i64 l.length), some (.int .i64 i)] [] := fun hc => by
   refine ⟨[.lst x l.length (tls l), .lst y l.length (tls k), .bool false, .int .i64 l.length, .int .i64 i], [], fun K hK => ?_, vs_fits _ rfl _ rfl _⟩
   have hK := out K hK
   rw [hcons, hc] at hK
   exact hK i
  have hB : eqB c c' = ((c.u == c'.u) && ((c.s == c'.s) && ((c.m == c'.m) && (c.d == c'.d)))) := rfl
  refine bif_intro (fun g1 => ?_) (fun g1 => away (by rw [hB, g1]; rfl))
  refine bif_intro (fun g2 => ?_) (fun g2 => away (by rw [hB, g1, g2]; rfl))
  refine bif_intro (fun g3 => ?_) (fun g3 => away (by rw [hB, g1, g2, g3]; rfl))
  refine bif_intro (fun g4 => ?_) (fun g4 => away (by rw [hB, g1, g2, g3, g4]; rfl))
  refine ⟨⟨x, y, l.length, tls l, tls k, i + 1⟩, ?_, vs_fits _ rfl _ rfl _, by simp only [eqMu]; omega, fun K hK => ?_⟩
  ·unfold eqPre; simp only [Bool.and_eq_true]; exact ⟨hx1, hx2, Nat.ble_eq_true_of_le (show i + 1 ≤ l.length by omega)⟩
  ·have hK := out K hK
   show eqOutG x y l.length (tls l) (tls k) (sameV (tls l) (tls k) (i + 1)) K
   rw [ha, e2, f2]
   rw [hcons, hB, g1, g2, g3, g4, Bool.true_and, Bool.true_and, Bool.true_and, Bool.true_and] at hK
   exact hK
noncomputable def lk47 : Nat → Trans → Trans := withLoop 58 (loopA 0 (szOf Tryz.prog 38) [0,1,4,12,13] eqDec eqPre eqV' eqJ eqOut) (rounds 9)
theorem lk47_ok : FnLoopsW Tryz.prog 0 lk47 38 := by
 unfold lk47
 exact fnLoopW (fnRoundsW 9 0 38) (by kernel_rfl) fun f st Q h => loopA_ok (P := Tryz.prog) (T := G0) (k := 0) (lim := 9) (n := 10) (g := 38) (p0 := 58) (lk := rounds 9) mixed G0_ok (roundsW 9 _ _) eqMu eq_roundOk h
noncomputable def G1 : Tab := ⟨noT, noL, addLk (noLks 9) 38 0 lk47⟩
theorem G1_ok : TabOk3 Tryz.prog G1 := ⟨noT_ok, noL_ok, addLk_ok (noLks_ok 9) lk47_ok⟩
theorem eqf_tree (x y : Value) (n m : Nat) (cs ds : List V) (R : V → Prop) : runW Tryz.prog G1 9 10 38 [.lst x n cs, .lst y m ds] R =
  (
 bif (↑n : Int) != (↑m : Int) then R (V.bool false) else Fits 0 [V.lst x n cs, V.lst y n ds, V.bool false, V.int IntKind.i64 (↑n : Int), V.int IntKind.i64 0] [] [some
 (V.lst x n cs), some (V.lst y m ds), some (V.bool false), some (V.int IntKind.i64 (↑n : Int)), some (V.int IntKind.i64 0)] [] ∧ bif eqPre { x := x, y := y, n := n, cs := cs, ds := ds, i := 0 }
 then bif sameV cs ds 0 then R (V.bool true) else ∀ (i : Nat), R (V.bool false) else False) := by kernel_rfl
theorem eq_sat (x : Value) (l : List TL) (y : Value) (k : List TL) (h1 : l.length ≤ 9223372036854775807) (h2 : k.length ≤ 9223372036854775807) :
  FnSat Tryz.prog 38 [lstT x l, lstT y k] [] (Is (.bool (eqsB l k), [])) := by
 refine pureW_of (lim := 9) (n := 10) mixed G1_ok rfl rfl ?_
 unfold lstT
 rw [eqf_tree]
 have hs : sameV (tls l) (tls k) 0 = eqsB l k := by unfold sameV; rw [tlD_tls, tlD_tls]; rfl
 rw [hs]
 refine bif_intro (fun h => ?_) (fun h => ?_)
 ·have h : (l.length : Int) ≠ k.length := by simpa using h
  rw [eqsB_len (fun e => h (by rw [e]))]
 ·have h : (l.length : Int) = k.length := by simpa using h
  have h : l.length = k.length := by omega
  rw [h]
  refine ⟨vs_fits _ rfl _ rfl _, must_intro ?_ ?_⟩
  ·unfold eqPre; simp only [Bool.and_eq_true]
   exact ⟨by rw [← h]; exact okT_mk h1, okT_mk h2, Nat.ble_eq_true_of_le (Nat.zero_le _)⟩
  ·refine bif_intro (fun h => by rw [h]) (fun h => by intro _; rw [h])
end Go.Proofs.YtakfcajmfgnchaaGreatDoor
