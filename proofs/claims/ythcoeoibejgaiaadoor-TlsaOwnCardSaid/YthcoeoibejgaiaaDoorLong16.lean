/- How long what is asked is: what the statements' own function comes to. -/
import Derived.Test.YthcoeoibejgaiaaDoorSum
import Derived.Test.YthcoeoibejgaiaaDoorVmc
namespace Go.Proofs.YthcoeoibejgaiaaDoor
open Go Go.Vm Go.RowKit
set_option linter.unusedVariables false
set_option linter.unusedSectionVars false
set_option maxRecDepth 100000
variable [Φ : Frz]
noncomputable def LG0 : Tab := ⟨noT, noL, noLks 9⟩
theorem LG0_ok : TabOk3 Tryd.prog LG0 := ⟨noT_ok, noL_ok, noLks_ok 9⟩
theorem fl_fits (vs : List V) (h : flatL vs = true) (l : List (Option V)) (hl : l = vs.map some) (st : St) : Fits 0 vs [] l st := ⟨[], vs, hl, renL_of_flat vs h, FitsM.of trivial, by simp, fun i hi => by omega⟩
theorem l1_round (x y : Value) (n m : Nat) (cs ds : List V) (a i : Int) (R : Exit → List (Option V) → St → Prop) : roundW Tryd.prog LG0 9 10 (rounds 9) 5 58 [0,1,4,5,6] [.lst x n cs, .lst y m ds, .bool false, .int .i64 a, .int .i64 i] [] R =
  (
 bif decide (i < (↑n : Int)) then bif decide (a < 9000) then bif decide (0 ≤ i) && decide (i < (↑n : Int)) then bif (i.toNat * 1).blt cs.length then bif isStrV (cs.getD
 (i.toNat * 1) (V.bool false)) then R Exit.normal [some (V.lst x n cs), some (V.lst y m ds), some (V.bool false), some (V.int IntKind.i64 (IntKind.i64.wrap
 (IntKind.i64.wrap (a + 10) + if (↑(strOfV (cs.getD (i.toNat * 1) (V.bool false))).length : Int) < 9000 then (↑(strOfV (cs.getD (i.toNat * 1) (V.bool false))).length :
 Int) else 9000))), some (V.int IntKind.i64 (IntKind.i64.wrap (i + 1)))] [] else False else False else False else R (Exit.exit 0) [some (V.lst x n cs), some (V.lst y m
 ds), some (V.bool false), some (V.int IntKind.i64 a), some (V.int IntKind.i64 i)] [] else R (Exit.exit 0) [some (V.lst x n cs), some (V.lst y m ds), some (V.bool false),
 some (V.int IntKind.i64 a), some (V.int IntKind.i64 i)] []) := by kernel_rfl
theorem l2_round (x y : Value) (n m : Nat) (cs ds : List V) (a i : Int) (R : Exit → List (Option V) → St → Prop) : roundW Tryd.prog LG0 9 10 (rounds 9) 5 122 [1,4,5,7] [.lst y m ds, .bool false, .int .i64 a, .int .i64 i] [] R =
  (
 bif decide (i < (↑m : Int)) then bif decide (a < 9000) then bif decide (0 ≤ i) && decide (i < (↑m : Int)) then bif (i.toNat * 4 + 3).blt ds.length then bif isStrV
 (ds.getD (i.toNat * 4 + 3) (V.bool false)) then R Exit.normal [some (V.lst y m ds), some (V.bool false), some (V.int IntKind.i64 (IntKind.i64.wrap (IntKind.i64.wrap (a +
 10) + if (↑(strOfV (ds.getD (i.toNat * 4 + 3) (V.bool false))).length : Int) < 9000 then (↑(strOfV (ds.getD (i.toNat * 4 + 3) (V.bool false))).length : Int) else 9000))),
 some (V.int IntKind.i64 (IntKind.i64.wrap (i + 1)))] [] else False else False else False else R (Exit.exit 2) [some (V.lst y m ds), some (V.bool false), some (V.int
 IntKind.i64 a), some (V.int IntKind.i64 i)] [] else R (Exit.exit 2) [some (V.lst y m ds), some (V.bool false), some (V.int IntKind.i64 a), some (V.int IntKind.i64 i)] []) := by kernel_rfl
def l1N : Nat → List (List UInt8) → Nat
 | n, [] => n
 | n, s :: r => if n < 9000 then l1N (n + 10 + min 9000 s.length) r else n
def l2N : Nat → List TL → Nat
 | n, [] => n
 | n, s :: r => if n < 9000 then l2N (n + 10 + min 9000 s.d.length) r else n
theorem l1N_le : ∀ (l : List (List UInt8)) (n : Nat), n ≤ 20000 → l1N n l ≤ 20000
 | [], n, h => h
 | s :: r, n, h => by
  unfold l1N
  split
  ·exact l1N_le r _ (by omega)
  ·exact h
structure L1 where
 x : Value
 y : Value
 n : Nat
 m : Nat
 cs : List V
 ds : List V
 a : Nat
 i : Nat
def l1V (q : L1) : List V := [.lst q.x q.n q.cs, .lst q.y q.m q.ds, .bool false, .int .i64 q.a, .int .i64 q.i]
def l1J (_ : L1) : St := []
def l1Pre (q : L1) : Bool := okS q.n q.cs && (Nat.ble q.i q.n && Nat.ble q.a 20000)
def l1Mu (q : L1) : Nat := q.n - q.i
def l1Dec : List (Option V) → St → Option L1
 | [some (.lst x n cs), some (.lst y m ds), some (.bool false), some (.int .i64 a), some (.int .i64 0)], _ => some ⟨x, y, n, m, cs, ds, a.toNat, 0⟩
 | _, _ => none
def l1S (a : Nat) (cs : List V) : Nat := l1N a (cs.map strOfV)
def l1OutG (x y : Value) (n m : Nat) (cs ds : List V) (a : Nat) (K : Exit → List V → St → Prop) : Prop := ∀ j : Nat, K (.exit 0) [.lst x n cs, .lst y m ds, .bool false, .int .i64 a, .int .i64 j] []
def l1Out : Asks L1 := fun q K => l1OutG q.x q.y q.n q.m q.cs q.ds (l1S q.a (q.cs.drop q.i)) K
theorem l1_roundOk (q : L1) (hx : l1Pre q = true) : roundW Tryd.prog LG0 9 10 (rounds 9) 5 58 [0,1,4,5,6] (l1V q) (l1J q) (RoundOkA 0 l1Pre l1V l1J l1Mu l1Out q) := by
 obtain ⟨x, y, n, m, cs, ds, a, i⟩ := q
 unfold l1Pre at hx
 simp only [Bool.and_eq_true] at hx
 have hx1 : okS n cs = true := hx.1
 have p1 : i ≤ n := Nat.le_of_ble_eq_true hx.2.1
 have p0 : a ≤ 20000 := Nat.le_of_ble_eq_true hx.2.2
 obtain ⟨l, rfl, rfl, p2, p3⟩ := okS_spec hx1
 show roundW Tryd.prog LG0 9 10 (rounds 9) 5 58 [0,1,4,5,6] [.lst x l.length (strs l), .lst y m ds, .bool false, .int .i64 a, .int .i64 i] [] _
 rw [l1_round]
 have ha : ∀ b j, l1S b ((strs l).drop j) = l1N b (l.drop j) := fun b j => by
  unfold l1S; rw [List.map_drop, strs_strOf]
 have out : ∀ K, l1Out ⟨x, y, l.length, m, strs l, ds, a, i⟩ K → l1OutG x y l.length m (strs l) ds (l1N a (l.drop i)) K := fun K hK => by
  have hK : l1OutG x y l.length m (strs l) ds (l1S a ((strs l).drop i)) K := hK
  rw [ha] at hK; exact hK
 have fin : l1N a (l.drop i) = a → RoundOkA 0 l1Pre l1V l1J l1Mu l1Out ⟨x, y, l.length, m, strs l, ds, a, i⟩ (.exit 0) [some (.lst x l.length (strs l)), some (.lst y m ds), some (.bool false), some (.int .i64 a), some (.int .i64 i)] [] := fun h => by
  refine ⟨[.lst x l.length (strs l), .lst y m ds, .bool false, .int .i64 a, .int .i64 i], _, fun K hK => ?_, fl_fits _ rfl _ rfl _⟩
  have hK := out K hK
  rw [h] at hK
  exact hK i
 cases hd : l.drop i with
 | nil =>
  have hi := dropA_nil hd p1
  rw [decide_eq_false (show ¬ ((i : Int) < (l.length : Int)) by omega), cond_false]
  exact fin (by rw [hd]; rfl)
 | cons c r =>
  obtain ⟨e1, e2, e3⟩ := dropA_cons hd
  obtain ⟨e4, e5⟩ := strs_at hd
  rw [decide_eq_true (show ((i : Int) < (l.length : Int)) by omega), cond_true]
  refine bif_intro (fun h => ?_) (fun h => ?_)
  ·have h := of_decide_eq_true h
   have q1 : decide ((i : Int) < (l.length : Int)) = true := decide_eq_true (by omega)
   have q2 : decide ((0 : Int) ≤ (i : Int)) = true := decide_eq_true (by omega)
   simp only [q1, q2, Int.toNat_natCast, e4, e5, isStrV, strOfV, cond_true, Bool.and_true, show IntKind.i64.wrap ((i : Int) + 1) = ((i + 1 : Nat) : Int) by rw [IntWalk.i64_in _ ⟨by omega, by omega⟩]; omega]
   have q3 : IntKind.i64.wrap (IntKind.i64.wrap ((a : Int) + 10) + if (c.length : Int) < 9000 then (c.length : Int) else 9000) = ((a + 10 + min 9000 c.length : Nat) : Int) := by
    rw [IntWalk.i64_in ((a : Int) + 10) ⟨by omega, by omega⟩]
    split
    ·rw [IntWalk.i64_in _ ⟨by omega, by omega⟩]; omega
    ·rw [IntWalk.i64_in _ ⟨by omega, by omega⟩]; omega
   rw [q3]
   refine ⟨⟨x, y, l.length, m, strs l, ds, a + 10 + min 9000 c.length, i + 1⟩, ?_, fl_fits _ rfl _ rfl _, by simp only [l1Mu]; omega, fun K hK => ?_⟩
   ·unfold l1Pre; simp only [Bool.and_eq_true]
    exact ⟨hx1, Nat.ble_eq_true_of_le (show i + 1 ≤ l.length by omega), Nat.ble_eq_true_of_le (show a + 10 + min 9000 c.length ≤ 20000 by omega)⟩
   ·have hK := out K hK
    show l1OutG x y l.length m (strs l) ds (l1S (a + 10 + min 9000 c.length) ((strs l).drop (i + 1))) K
    rw [ha, e2]
    rw [hd, l1N, if_pos (by omega)] at hK
    exact hK
  ·have h := of_decide_eq_false h
   exact fin (by rw [hd, l1N, if_neg (by omega)])
structure L2 where
 y : Value
 m : Nat
 ds : List V
 a : Nat
 i : Nat
def l2V (q : L2) : List V := [.lst q.y q.m q.ds, .bool false, .int .i64 q.a, .int .i64 q.i]
def l2J (_ : L2) : St := []
def l2Pre (q : L2) : Bool := okT q.m q.ds && (Nat.ble q.i q.m && Nat.ble q.a 40000)
def l2Mu (q : L2) : Nat := q.m - q.i
def l2Dec : List (Option V) → St → Option L2
 | [some (.lst y m ds), some (.bool false), some (.int .i64 a), some (.int .i64 0)], _ => some ⟨y, m, ds, a.toNat, 0⟩
 | _, _ => none
def l2S (a : Nat) (ds : List V) (i : Nat) : Nat := l2N a ((tlD ds).drop i)
def l2OutG (y : Value) (m : Nat) (ds : List V) (a : Nat) (K : Exit → List V → St → Prop) : Prop := ∀ j : Nat, K (.exit 2) [.lst y m ds, .bool false, .int .i64 a, .int .i64 j] []
def l2Out : Asks L2 := fun q K => l2OutG q.y q.m q.ds (l2S q.a q.ds q.i) K
theorem l2_roundOk (q : L2) (hx : l2Pre q = true) : roundW Tryd.prog LG0 9 10 (rounds 9) 5 122 [1,4,5,7] (l2V q) (l2J q) (RoundOkA 0 l2Pre l2V l2J l2Mu l2Out q) := by
 obtain ⟨y, m, ds, a, i⟩ := q
 unfold l2Pre at hx
 simp only [Bool.and_eq_true] at hx
 have hx1 : okT m ds = true := hx.1
 have p1 : i ≤ m := Nat.le_of_ble_eq_true hx.2.1
 have p0 : a ≤ 40000 := Nat.le_of_ble_eq_true hx.2.2
 obtain ⟨l, rfl, rfl, p2, p3⟩ := okT_spec hx1
 show roundW Tryd.prog LG0 9 10 (rounds 9) 5 122 [1,4,5,7] [.lst y l.length (tls l), .bool false, .int .i64 a, .int .i64 i] [] _
 rw [l2_round (.slice none 0 0) y 0 l.length [] (tls l)]
 have out : ∀ K, l2Out ⟨y, l.length, tls l, a, i⟩ K → l2OutG y l.length (tls l) (l2N a (l.drop i)) K := fun K hK => by
  have hK : l2OutG y l.length (tls l) (l2S a (tls l) i) K := hK
  unfold l2S at hK; rw [p3] at hK; exact hK
 have fin : l2N a (l.drop i) = a → RoundOkA 0 l2Pre l2V l2J l2Mu l2Out ⟨y, l.length, tls l, a, i⟩ (.exit 2) [some (.lst y l.length (tls l)), some (.bool false), some (.int .i64 a), some (.int .i64 i)] [] := fun h => by
  refine ⟨[.lst y l.length (tls l), .bool false, .int .i64 a, .int .i64 i], _, fun K hK => ?_, fl_fits _ rfl _ rfl _⟩
  have hK := out K hK
  rw [h] at hK
  exact hK i
 cases hd : l.drop i with
 | nil =>
  have hi := dropA_nil hd p1
  rw [decide_eq_false (show ¬ ((i : Int) < (l.length : Int)) by omega), cond_false]
  exact fin (by rw [hd]; rfl)
 | cons c r =>
  obtain ⟨e1, e2, e3⟩ := dropA_cons hd
  obtain ⟨f4, f5⟩ := tls_at (j := 3) hd (by omega)
  have e5 : (i * 4 + 3).blt (tls l).length = true := Nat.ble_eq_true_of_le (by rw [Nat.mul_comm i 4]; exact f5)
  have e4 : (tls l).getD (i * 4 + 3) (V.bool false) = .str c.d := by
   rw [List.getD_eq_getElem?_getD, Nat.mul_comm i 4, f4]; rfl
  rw [decide_eq_true (show ((i : Int) < (l.length : Int)) by omega), cond_true]
  refine bif_intro (fun h => ?_) (fun h => ?_)
  ·have h := of_decide_eq_true h
   have q1 : decide ((i : Int) < (l.length : Int)) = true := decide_eq_true (by omega)
   have q2 : decide ((0 : Int) ≤ (i : Int)) = true := decide_eq_true (by omega)
   simp only [q1, q2, Int.toNat_natCast, e4, e5, isStrV, strOfV, cond_true, Bool.and_true, show IntKind.i64.wrap ((i : Int) + 1) = ((i + 1 : Nat) : Int) by rw [IntWalk.i64_in _ ⟨by omega, by omega⟩]; omega]
   have q3 : IntKind.i64.wrap (IntKind.i64.wrap ((a : Int) + 10) + if (c.d.length : Int) < 9000 then (c.d.length : Int) else 9000) = ((a + 10 + min 9000 c.d.length : Nat) : Int) := by
    rw [IntWalk.i64_in ((a : Int) + 10) ⟨by omega, by omega⟩]
    split
    ·rw [IntWalk.i64_in _ ⟨by omega, by omega⟩]; omega
    ·rw [IntWalk.i64_in _ ⟨by omega, by omega⟩]; omega
   rw [q3]
   refine ⟨⟨y, l.length, tls l, a + 10 + min 9000 c.d.length, i + 1⟩, ?_, fl_fits _ rfl _ rfl _, by simp only [l2Mu]; omega, fun K hK => ?_⟩
   ·unfold l2Pre; simp only [Bool.and_eq_true]
    exact ⟨hx1, Nat.ble_eq_true_of_le (show i + 1 ≤ l.length by omega), Nat.ble_eq_true_of_le (show a + 10 + min 9000 c.d.length ≤ 40000 by omega)⟩
   ·have hK := out K hK
    show l2OutG y l.length (tls l) (l2S (a + 10 + min 9000 c.d.length) (tls l) (i + 1)) K
    unfold l2S; rw [p3, e2]
    rw [hd, l2N, if_pos (by omega)] at hK
    exact hK
  ·have h := of_decide_eq_false h
   exact fin (by rw [hd, l2N, if_neg (by omega)])
noncomputable def lkLa : Nat → Trans → Trans := withLoop 58 (loopA 0 (szOf Tryd.prog 5) [0,1,4,5,6] l1Dec l1Pre l1V l1J l1Out) (rounds 9)
theorem lkLa_ok : FnLoopsW Tryd.prog 0 lkLa 5 := by
 unfold lkLa
 exact fnLoopW (fnRoundsW 9 0 5) (by kernel_rfl) fun f st Q h => loopA_ok (P := Tryd.prog) (T := LG0) (k := 0) (lim := 9) (n := 10) (g := 5) (p0 := 58) (lk := rounds 9) mixed LG0_ok (roundsW 9 _ _) l1Mu l1_roundOk h
noncomputable def lkLb : Nat → Trans → Trans := withLoop 122 (loopA 0 (szOf Tryd.prog 5) [1,4,5,7] l2Dec l2Pre l2V l2J l2Out) lkLa
theorem lkLb_ok : FnLoopsW Tryd.prog 0 lkLb 5 := by
 unfold lkLb
 exact fnLoopW lkLa_ok (by kernel_rfl) fun f st Q h => loopA_ok (P := Tryd.prog) (T := LG0) (k := 0) (lim := 9) (n := 10) (g := 5) (p0 := 122) (lk := rounds 9) mixed LG0_ok (roundsW 9 _ _) l2Mu l2_roundOk h
noncomputable def LG1 : Tab := ⟨noT, noL, addLk (noLks 9) 5 0 lkLb⟩
theorem LG1_ok : TabOk3 Tryd.prog LG1 := ⟨noT_ok, noL_ok, addLk_ok (noLks_ok 9) lkLb_ok⟩
theorem long_tree (x y : Value) (n m : Nat) (cs ds : List V) (R : V → Prop) : runW Tryd.prog LG1 9 10 5 [.lst x n cs, .lst y m ds] R =
  (
 Fits 0 [V.lst x n cs, V.lst y m ds, V.bool false, V.int IntKind.i64 0, V.int IntKind.i64 0] [] [some (V.lst x n cs), some (V.lst y m ds), some (V.bool false), some (V.int
 IntKind.i64 0), some (V.int IntKind.i64 0)] [] ∧ bif l1Pre { x := x, y := y, n := n, m := m, cs := cs, ds := ds, a := 0, i := 0 } then ∀ (j : Nat), Fits 0 [V.lst y m ds,
 V.bool false, V.int IntKind.i64 (↑(↑(l1S 0 cs) : Int).toNat : Int), V.int IntKind.i64 0] [] [some (V.lst y m ds), some (V.bool false), some (V.int IntKind.i64 (↑(l1S 0
 cs) : Int)), some (V.int IntKind.i64 0)] [] ∧ bif l2Pre { y := y, m := m, ds := ds, a := (↑(l1S 0 cs) : Int).toNat, i := 0 } then ∀ (j : Nat), R (V.bool (decide ((↑(l2S
 (↑(l1S 0 cs) : Int).toNat ds 0) : Int) ≥ 9000))) else False else False) := by kernel_rfl
def longN (l : List (List UInt8)) (r : List TL) : Nat := l2N (l1N 0 l) r
def longB (l : List (List UInt8)) (r : List TL) : Bool := decide (9000 ≤ (longN l r : Int))
theorem long_sat (x y : Value) (l : List (List UInt8)) (r : List TL) (h1 : l.length ≤ 9223372036854775807) (h2 : r.length ≤ 9223372036854775807) : FnSat Tryd.prog 5 [lstS x l, lstT y r] [] (Is (.bool (longB l r), [])) := by
 refine pureW_of (lim := 9) (n := 10) mixed LG1_ok rfl rfl ?_
 unfold lstS lstT
 rw [long_tree]
 have hs : l1S 0 (strs l) = l1N 0 l := by unfold l1S; rw [strs_strOf]
 have ho : okS l.length (strs l) = true := by
  unfold okS; rw [strs_isStr, strs_len, Nat.beq_refl, Nat.ble_eq_true_of_le h1]; rfl
 have hl := l1N_le l 0 (by omega)
 rw [hs, Int.toNat_natCast]
 refine ⟨fl_fits _ rfl _ rfl _, ?_⟩
 have e1 : l1Pre ⟨x, y, l.length, r.length, strs l, tls r, 0, 0⟩ = true := by
  unfold l1Pre
  show (okS l.length (strs l) && (Nat.ble 0 l.length && Nat.ble 0 20000)) = true
  rw [ho]; rfl
 rw [e1, cond_true]
 intro j
 refine ⟨fl_fits _ rfl _ rfl _, ?_⟩
 have e2 : l2Pre ⟨y, r.length, tls r, l1N 0 l, 0⟩ = true := by
  unfold l2Pre
  show (okT r.length (tls r) && (Nat.ble 0 r.length && Nat.ble (l1N 0 l) 40000)) = true
  rw [okT_mk h2, Nat.ble_eq_true_of_le (show l1N 0 l ≤ 40000 by omega)]; rfl
 rw [e2, cond_true]
 intro j'
 have e3 : l2S (l1N 0 l) (tls r) 0 = longN l r := by unfold l2S longN; rw [tlD_tls]; rfl
 rw [e3]
 rfl
def longOK (p q : V) (st : St) : Bool := match viewS st p, viewT st q with
 | some (b, l), some (c, r) => b && (c && (Nat.ble l.length 9223372036854775807 && Nat.ble r.length 9223372036854775807))
 | _, _ => false
def longV (p q : V) (st : St) : Bool := match viewS st p, viewT st q with
 | some (_, l), some (_, r) => longB l r
 | _, _ => false
def longGV (OK LB : V → V → St → Bool) : List V → St → Option (List (Bool × (V × St)))
 | [p, q], st => some [(OK p q st, (.bool (LB p q st), st))]
 | _, _ => none
theorem longG_ok (args : List V) (s : St) (l : List (Bool × (V × St))) (o : V × St) (h : longGV longOK longV args s = some l) (ho : pickO l = some o) : FnSat Tryd.prog 5 args s (Is o) := by
 unfold longGV at h
 split at h
 ·rename_i p q
  cases h
  obtain ⟨hb, rfl⟩ := pickO_one ho
  unfold longOK at hb
  split at hb
  ·rename_i b ls c rs hv hw
   simp only [Bool.and_eq_true] at hb
   obtain ⟨rfl, rfl, h1, h2⟩ := hb
   have hL : longV p q s = longB ls rs := by unfold longV; rw [hv, hw]
   rw [hL]
   refine frz_sat rfl fun B W0 w m rargs hr ha => ?_
   obtain ⟨x, r, q1, q2, rfl⟩ := realL_cons ha
   obtain ⟨y, r', q3, q4, rfl⟩ := realL_cons q2
   simp only [realL, Option.some.injEq] at q4
   subst q4
   have g1 := viewS_ok hr hv q1
   have g2 := viewT_ok hr hw q3
   exact ⟨[lstS x ls, lstT y rs], by simp only [realL, g1, g2], @long_sat (Frz.of w) x y ls rs (Nat.le_of_ble_eq_true h1) (Nat.le_of_ble_eq_true h2)⟩
  ·cases hb
 ·cases h
end Go.Proofs.YthcoeoibejgaiaaDoor
