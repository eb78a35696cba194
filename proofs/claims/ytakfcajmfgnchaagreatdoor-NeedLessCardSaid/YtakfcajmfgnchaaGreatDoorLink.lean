/- Whether certificates are linked: what it comes to. -/
import Derived.Test.YtakfcajmfgnchaaGreatDoorHost
import Derived.Test.YtakfcajmfgnchaaGreatDoorCert2
import Derived.Test.YtakfcajmfgnchaaGreatDoorDig
namespace Go.Proofs.YtakfcajmfgnchaaGreatDoor
open Go Go.Vm Go.RowKit
set_option linter.unusedVariables false
set_option maxRecDepth 100000
set_option linter.unusedSectionVars false
variable [Φ : Frz]
noncomputable def DG0 : Tab := ⟨addT (addP noT 68 spkiP) 69 sumT, noL, aR 9⟩
theorem DG0_ok : TabOk3 Tryz.prog DG0 := ⟨ba (aP aC spki_ok) sum_ok, aD, am 9⟩
theorem dig_tree (k : List UInt8) (R : V → Prop) : runW Tryz.prog DG0 9 10 46 [.str k] R =
  (
 bif spkiB k == [] then R (V.str []) else bif okL (spkiB k) then R (V.str (sumF (spkiB k))) else False) := by kernel_rfl
def digB (k : List UInt8) : List UInt8 := bif spkiB k == [] then [] else sumF (spkiB k)
def digP : List V → Option V
 | [.str k] => some (.str (digB k))
 | _ => none
theorem dig_ok (args : List V) (v : V) (h : digP args = some v) : FnSat Tryz.prog 46 args [] (Is (v, [])) := by
 unfold digP at h
 split at h
 ·rename_i k
  cases h
  refine az (lim := 9) (n := 10) ay DG0_ok rfl rfl ?_
  rw [dig_tree]
  unfold digB
  refine ac (fun h => ?_) (fun h => ?_)
  ·rw [h]; rfl
  ·rw [h]
   have hk : okL (spkiB k) = true := by
    refine decide_eq_true ?_
    unfold spkiB
    split
    ·simp
    ·split
     ·simp
     ·have h1 := putB_le 4 k
      have h2 := putB_le 48 (putB 4 k)
      omega
   rw [hk]; rfl
 ·cases h
def lkT : List (Nat × V) := [(2, .ptr 0 0)]
noncomputable def lkRg : Array Tmp × Code × Code := (dB (bodyOf Tryz.prog 53)).getD (#[], .skip, .skip)
noncomputable def lkAs : Code := lkRg.2.1
noncomputable def lkBd : Code := lkRg.2.2
noncomputable def lkL (s : LoopState) (p : Option Code) : Blk := rgLoopN Tryz.prog 53 s p lkT 2
noncomputable def LK0 : Tab := ⟨addP noT 46 digP, noL, aR 9⟩
theorem LK0_ok : TabOk3 Tryz.prog LK0 := ⟨aP aC dig_ok, aD, am 9⟩
theorem lk_round (b : Bool) (x : Value) (n : Nat) (cs : List V) (i : Int) (R : Exit → List (Option V) → St → Prop) : ap Tryz.prog LK0 9 10 (ai 9) 97 6 [0,1,3] [.yield 3, .ptr 1 0, .int .i64 i] [.row [.bool b] 4 1, .row [.lst x n cs] 66 1, .defd, lkL .ready none] R =
  (
 bif decide (i < (↑n : Int)) then bif decide (0 ≤ i) && decide (i < (↑n : Int)) then bif (i.toNat * 6 + 5).blt cs.length then bif c8 (cs.getD (i.toNat * 6 + 5)
 (V.bool false)) then bif cC (cs.getD (i.toNat * 6 + 5) (V.bool false)) then bif decide (0 ≤ IntKind.i64.wrap (i - 1)) && decide (IntKind.i64.wrap (i - 1) < (↑n :
 Int)) then bif ((IntKind.i64.wrap (i - 1)).toNat * 6 + 1).blt cs.length then bif aw (cs.getD ((IntKind.i64.wrap (i - 1)).toNat * 6 + 1) (V.bool false)) then bif
 decide (0 ≤ i) && decide (i < (↑n : Int)) then bif (i.toNat * 6 + 0).blt cs.length then bif aw (cs.getD (i.toNat * 6 + 0) (V.bool false)) then bif aa (cs.getD
 ((IntKind.i64.wrap (i - 1)).toNat * 6 + 1) (V.bool false)) == digB (aa (cs.getD (i.toNat * 6 + 0) (V.bool false))) then R Exit.normal [some (V.yield 3), some (V.ptr 1
 0), some (V.int IntKind.i64 (IntKind.i64.wrap (i + 1)))] [Blk.row [V.bool b] 4 1, Blk.row [V.lst x n cs] 66 1, Blk.defd, lkL LoopState.ready none] else R Exit.ret [some
 (V.yield 3), some (V.ptr 1 0), some (V.int IntKind.i64 i)] [Blk.row [V.bool false] 4 1, Blk.row [V.lst x n cs] 66 1, Blk.defd, lkL LoopState.done (some Code.ret)] else
 False else False else False else False else False else False else R Exit.ret [some (V.yield 3), some (V.ptr 1 0), some (V.int IntKind.i64 i)] [Blk.row [V.bool false] 4 1,
 Blk.row [V.lst x n cs] 66 1, Blk.defd, lkL LoopState.done (some Code.ret)] else False else False else False else R (Exit.exit 0) [some (V.yield 3), some (V.ptr 1 0), some
 (V.int IntKind.i64 i)] [Blk.row [V.bool b] 4 1, Blk.row [V.lst x n cs] 66 1, Blk.defd, lkL LoopState.ready none]) := by kernel_rfl
def linkC : List CR → Bool
 | a :: b :: r => b.ca && ((a.g == digB b.k) && linkC (b :: r))
 | _ => true
structure LK where
 b : Bool
 x : Value
 n : Nat
 cs : List V
 i : Nat
def lkV (y : LK) : List V := [.yield 3, .ptr 1 0, .int .i64 (y.i + 1 : Nat)]
noncomputable def lkM (b : Bool) (x : Value) (n : Nat) (cs : List V) (s : LoopState) (p : Option Code) : St := [.row [.bool b] 4 1, .row [.lst x n cs] 66 1, .defd, lkL s p]
noncomputable def lkJ (y : LK) : St := lkM y.b y.x y.n y.cs .ready none
def lkPre (y : LK) : Bool := okR y.n y.cs && Nat.ble y.i y.n
def lkMu (y : LK) : Nat := y.n - y.i
def lkDec : List (Option V) → St → Option LK
 | [some (.yield 3), some (.ptr 1 0), some (.int .i64 1)], .row [.bool b] _ _ :: .row [.lst x n cs] _ _ :: _ => some ⟨b, x, n, cs, 0⟩
 | _, _ => none
def linkV (cs : List V) (i : Nat) : Bool := linkC ((crD [] cs).drop i)
noncomputable def lkOutG (b : Bool) (x : Value) (n : Nat) (cs : List V) (c : Bool) (K : Exit → List V → St → Prop) : Prop :=
 bif c then ∀ j : Int, K (.exit 0) [.yield 3, .ptr 1 0, .int .i64 j] (lkM b x n cs .ready none) else ∀ j : Int, K .ret [.yield 3, .ptr 1 0, .int .i64 j] (lkM false x n cs .done (some .ret))
noncomputable def lkOut : Asks LK := fun y K => lkOutG y.b y.x y.n y.cs (linkV y.cs y.i) K
theorem lkL_fit (σ : List Nat) (h0 : σ[0]? = some 0) (h2 : σ[2]? = some 2) (s : LoopState) (p : Option Code) : FitB σ (lkL s p) (lkL s p) := by
 unfold lkL rgLoopN
 split
 ·refine .inr ⟨_, _, _, _, _, _, _, _, _, _, rfl, rfl, h2, FitT.of (fun t v hm => ?_)⟩
  simp only [lkT, List.mem_cons, Prod.mk.injEq, List.not_mem_nil, or_false] at hm
  obtain ⟨rfl, rfl⟩ := hm
  exact ⟨.ptr 0 0, by simp [renV, h0], rfl⟩
 ·exact .inl rfl
theorem lk_fits (b : Bool) (x : Value) (n : Nat) (cs : List V) (j : Int) (s : LoopState) (p : Option Code) : Fits 4 [.yield 3, .ptr 1 0, .int .i64 j] (lkM b x n cs s p) [some (.yield 3), some (.ptr 1 0), some (.int .i64 j)] (lkM b x n cs s p) :=
 ⟨[0, 1, 2, 3], [.yield 3, .ptr 1 0, .int .i64 j], rfl, rfl, FitsM.of ⟨.inr ⟨_, .inl rfl, rfl⟩, .inr ⟨_, .inl rfl, rfl⟩, .inr ⟨_, .inl rfl, rfl⟩, .inr ⟨_, lkL_fit _ rfl rfl s p, rfl⟩, trivial⟩, by decide, fun i hi => by
  match i, hi with
  | 0, _ | 1, _ | 2, _ | 3, _ => rfl⟩
theorem lk_roundOk (y : LK) (hx : lkPre y = true) : ap Tryz.prog LK0 9 10 (ai 9) 97 6 [0,1,3] (lkV y) (lkJ y) (aM 4 lkPre lkV lkJ lkMu lkOut y) := by
 obtain ⟨b, x, n, cs, i⟩ := y
 unfold lkPre at hx
 rw [Bool.and_eq_true] at hx
 have p1 : i ≤ n := Nat.le_of_ble_eq_true hx.2
 have hx1 : okR n cs = true := hx.1
 obtain ⟨p2, p3, p4, p5⟩ := okR_spec hx1
 show ap Tryz.prog LK0 9 10 (ai 9) 97 6 [0,1,3] [.yield 3, .ptr 1 0, .int .i64 ((i + 1 : Nat) : Int)] [.row [.bool b] 4 1, .row [.lst x n cs] 66 1, .defd, lkL .ready none] _
 rw [lk_round]
 have out : ∀ K, lkOut ⟨b, x, n, cs, i⟩ K → lkOutG b x n cs (linkC ((crD [] cs).drop i)) K := fun K hK => hK
 by_cases hi : i + 1 < n
 ·obtain ⟨a, r, ha⟩ : ∃ a r, (crD [] cs).drop i = a :: r := by
   cases hd : (crD [] cs).drop i with
   | nil => have := congrArg List.length hd; simp at this; omega
   | cons a r => exact ⟨a, r, rfl⟩
  obtain ⟨_, ha2, _⟩ := bt ha
  obtain ⟨c, q, hc⟩ : ∃ c q, r = c :: q := by
   cases r with
   | nil => have := congrArg List.length ha; simp at this; omega
   | cons c q => exact ⟨c, q, rfl⟩
  subst hc
  have A := cr_at p2 ha
  have C := cr_at p2 ha2
  have w1 : IntKind.i64.wrap (((i + 1 : Nat) : Int) - 1) = (i : Int) := by rw [IntWalk.i64_in _ ⟨by omega, by omega⟩]; omega
  have w2 : IntKind.i64.wrap (((i + 1 : Nat) : Int) + 1) = ((i + 1 + 1 : Nat) : Int) := by rw [IntWalk.i64_in _ ⟨by omega, by omega⟩]; omega
  have d1 : decide (((i + 1 : Nat) : Int) < (n : Int)) = true := decide_eq_true (by omega)
  have d2 : decide ((0 : Int) ≤ ((i + 1 : Nat) : Int)) = true := decide_eq_true (by omega)
  have d3 : decide ((i : Int) < (n : Int)) = true := decide_eq_true (by omega)
  have d4 : decide ((0 : Int) ≤ (i : Int)) = true := decide_eq_true (by omega)
  have l5 : ((i + 1) * 6 + 5).blt cs.length = true := Nat.ble_eq_true_of_le (by omega)
  have l1 : (i * 6 + 1).blt cs.length = true := Nat.ble_eq_true_of_le (by omega)
  have l0 : ((i + 1) * 6 + 0).blt cs.length = true := Nat.ble_eq_true_of_le (by omega)
  simp only [w1, w2, d1, d2, d3, d4, Int.toNat_natCast, l5, l1, l0, A.g, C.ca, C.k, c8, cC, aw, aa, Bool.and_self, cond_true]
  have next : (linkC ((crD [] cs).drop i)) = (c.ca && ((a.g == digB c.k) && linkC ((crD [] cs).drop (i + 1)))) := by rw [ha, ha2]; rfl
  have bad : linkC ((crD [] cs).drop i) = false → aM 4 lkPre lkV lkJ lkMu lkOut ⟨b, x, n, cs, i⟩ .ret [some (.yield 3), some (.ptr 1 0), some (.int .i64 ((i + 1 : Nat) : Int))] [.row [.bool false] 4 1, .row [.lst x n cs] 66 1, .defd, lkL .done (some .ret)] := fun h => by
   refine ⟨_, _, fun K hK => ?_, lk_fits false x n cs _ .done (some .ret)⟩
   have hK := out K hK
   rw [h] at hK
   exact hK _
  refine ac (fun h1 => ?_) (fun h1 => bad (by rw [next, h1]; rfl))
  refine ac (fun h2 => ?_) (fun h2 => bad (by rw [next, h1, h2]; rfl))
  rw [h1, h2, Bool.true_and, Bool.true_and] at next
  refine ⟨⟨b, x, n, cs, i + 1⟩, ?_, lk_fits b x n cs _ .ready none, by simp only [lkMu]; omega, fun K hK => ?_⟩
  ·unfold lkPre; rw [Bool.and_eq_true]; exact ⟨hx1, Nat.ble_eq_true_of_le (show i + 1 ≤ n by omega)⟩
  ·have hK := out K hK
   rw [next] at hK
   exact hK
 ·rw [decide_eq_false (show ¬ (((i + 1 : Nat) : Int) < (n : Int)) by omega), cond_false]
  refine ⟨_, _, fun K hK => ?_, lk_fits b x n cs _ .ready none⟩
  have hK := out K hK
  have : linkC ((crD [] cs).drop i) = true := by
   match hd : (crD [] cs).drop i with
   | [] => rfl
   | [_] => rfl
   | _ :: _ :: _ => have := congrArg List.length hd; simp at this; omega
  rw [this] at hK
  exact hK _
noncomputable def lkLK : Nat → Trans → Trans := bj 6 (b8 4 (szOf Tryz.prog 97) [0,1,3] lkDec lkPre lkV lkJ lkOut) (ai 9)
theorem lkLK_ok : aJ Tryz.prog 4 lkLK 97 := by
 unfold lkLK
 exact bP (bg 9 4 97) (by kernel_rfl) fun f st Q h => br (P := Tryz.prog) (T := LK0) (k := 4) (lim := 9) (n := 10) (g := 97) (p0 := 6) (lk := ai 9) ay LK0_ok (bi 9 _ _) lkMu lk_roundOk h
noncomputable def LK1 : Tab := ⟨addP noT 46 digP, noL, dv (aR 9) 97 4 lkLK⟩
theorem LK1_ok : TabOk3 Tryz.prog LK1 := ⟨aP aC dig_ok, aD, bK (am 9) lkLK_ok⟩
theorem link_tree (x : Value) (n : Nat) (cs : List V) (R : V → Prop) : runW Tryz.prog LK1 9 10 53 [.lst x n cs] R =
  (
 Fits 4 [V.yield 3, V.ptr 1 0, V.int IntKind.i64 1] [Blk.row [V.bool false] 4 1, Blk.row [V.lst x n cs] 66 1, Blk.defd, lkL LoopState.ready none] [some (V.yield 3), some
 (V.ptr 1 0), some (V.int IntKind.i64 1)] [Blk.row [V.bool false] 4 1, Blk.row [V.lst x n cs] 66 1, Blk.defd, Blk.loop LoopState.ready none 11 ((Tr.lf.nd none (Tr.lf.nd
 (some (V.lst x n cs)) Tr.lf)).nd (some (V.lst x n cs)) (Tr.lf.nd (some (V.ptr 0 0)) (Tr.lf.nd (some (V.func (Fn.func 97) [] [V.ptr 1 0])) Tr.lf))) { toList := [7, 8] }
 lkAs lkBd 2] ∧ bif lkPre { b := false, x := x, n := n, cs := cs, i := 0 } then bif linkV cs 0 then ∀ (j : Int), R (V.bool true) else ∀ (j : Int), R (V.bool false) else
 False) := by kernel_rfl
theorem lk_enter (b : Bool) (x : Value) (n : Nat) (cs : List V) (T2 : Tr) (h2 : T2.get 2 = some (.ptr 0 0)) :
  Fits 4 [.yield 3, .ptr 1 0, .int .i64 1] [.row [.bool b] 4 1, .row [.lst x n cs] 66 1, .defd, lkL .ready none] [some (.yield 3), some (.ptr 1 0), some (.int .i64 1)] [.row [.bool b] 4 1, .row [.lst x n cs] 66 1, .defd, .loop .ready none 11 T2 { toList := [7, 8] } lkAs lkBd 2] := by
 have hL : lkL .ready none = .loop .ready none 11 (putsT .lf lkT) { toList := [7, 8] } lkAs lkBd 2 := by kernel_rfl
 refine ⟨[0, 1, 2, 3], [.yield 3, .ptr 1 0, .int .i64 1], rfl, rfl, FitsM.of ?_, by decide, fun i hi => by
  match i, hi with
  | 0, _ | 1, _ | 2, _ | 3, _ => rfl⟩
 refine ⟨.inr ⟨_, .inl rfl, rfl⟩, .inr ⟨_, .inl rfl, rfl⟩, .inr ⟨_, .inl rfl, rfl⟩, .inr ⟨_, ?_, rfl⟩, trivial⟩
 rw [hL]
 refine .inr ⟨_, _, _, _, _, _, _, _, _, _, rfl, rfl, rfl, FitT.of fun t v hm => ?_⟩
 simp only [lkT, List.mem_cons, Prod.mk.injEq, List.not_mem_nil, or_false] at hm
 obtain ⟨rfl, rfl⟩ := hm
 exact ⟨_, rfl, h2⟩
theorem link_sat (x : Value) (n : Nat) (cs : List V) (h : okR n cs = true) : FnSat Tryz.prog 53 [.lst x n cs] [] (Is (.bool (linkC (crD [] cs)), [])) := by
 refine az (lim := 9) (n := 10) ay LK1_ok rfl rfl ?_
 rw [link_tree]
 refine ⟨lk_enter _ _ _ _ _ rfl, ad ?_ ?_⟩
 ·unfold lkPre; rw [Bool.and_eq_true]; exact ⟨h, Nat.ble_eq_true_of_le (Nat.zero_le _)⟩
 ·have e : linkV cs 0 = linkC (crD [] cs) := rfl
  rw [← e]
  cases linkV cs 0 with
  | true => intro j; rfl
  | false => intro j; rfl
def linkG : List V → St → Option (List (Bool × (V × St)))
 | [p], st => match viewR st p with
  | some (b, l) => some [(b && Nat.ble l.length 9223372036854775807, (.bool (linkC l), st))]
  | none => none
 | _, _ => none
theorem linkG_ok (args : List V) (s : St) (l : List (Bool × (V × St))) (o : V × St) (h : linkG args s = some l) (ho : aF l = some o) : FnSat Tryz.prog 53 args s (Is o) := by
 unfold linkG at h
 split at h
 ·rename_i p
  split at h
  ·rename_i b ls hv
   cases h
   obtain ⟨hb, rfl⟩ := aX ho
   rw [Bool.and_eq_true] at hb
   obtain ⟨rfl, h1⟩ := hb
   refine cO rfl fun B W0 w m rargs hr ha => ?_
   obtain ⟨a, r, q1, q2, rfl⟩ := af ha
   obtain ⟨L, e1, e2, e3⟩ := viewR_ok hr hv q1
   have q3 := bm (Ψ := Frz.of w) (m' := []) _ _ rfl q2
   have hl : L.length ≤ 9223372036854775807 := by rw [← List.length_map (f := (·.c)), e1]; exact Nat.le_of_ble_eq_true h1
   have := @link_sat (Frz.of w) a L.length (crs L) (okR_mk hl e3)
   rw [crD_crs, e1] at this
   exact ⟨[lstR a L], @au _ (Frz.of w) [] _ _ _ _ e2 q3, this⟩
  ·cases h
 ·cases h
theorem in_round (x : Value) (n : Nat) (cs : List V) (s : List UInt8) (i : Int) (R : Exit → List (Option V) → St → Prop) : ap Tryz.prog T3 9 10 (ai 9) 90 26 [0,1,4,7,8] [.lst x n cs, .str s, .int .i64 0, .int .i64 n, .int .i64 i] [] R =
  (
 bif decide (i < (↑n : Int)) then bif decide (0 ≤ i) && decide (i < (↑n : Int)) then bif (i.toNat * 1).blt cs.length then bif aw (cs.getD (i.toNat * 1) (V.bool false))
 then bif s == aa (cs.getD (i.toNat * 1) (V.bool false)) then R Exit.ret [some (V.lst x n cs), some (V.str s), some (V.int IntKind.i64 i), some (V.int IntKind.i64 (↑n
 : Int)), some (V.int IntKind.i64 i)] [] else R Exit.normal [some (V.lst x n cs), some (V.str s), some (V.int IntKind.i64 0), some (V.int IntKind.i64 (↑n : Int)), some
 (V.int IntKind.i64 (IntKind.i64.wrap (i + 1)))] [] else False else False else False else R (Exit.exit 0) [some (V.lst x n cs), some (V.str s), some (V.int IntKind.i64 0),
 some (V.int IntKind.i64 (↑n : Int)), some (V.int IntKind.i64 i)] []) := by kernel_rfl
structure IN where
 x : Value
 n : Nat
 cs : List V
 s : List UInt8
 i : Nat
def inV (y : IN) : List V := [.lst y.x y.n y.cs, .str y.s, .int .i64 0, .int .i64 y.n, .int .i64 y.i]
def inJ (_ : IN) : St := []
def inPre (y : IN) : Bool := okS y.n y.cs && Nat.ble y.i y.n
def inMu (y : IN) : Nat := y.n - y.i
def inDec : List (Option V) → St → Option IN
 | [some (.lst x n cs), some (.str s), some (.int .i64 0), some (.int .i64 _), some (.int .i64 0)], _ => some ⟨x, n, cs, s, 0⟩
 | _, _ => none
def hasV (cs : List V) (s : List UInt8) : Bool := (cs.map aa).any (fun t => s == t)
def inOutG (x : Value) (n : Nat) (cs : List V) (s : List UInt8) (b : Bool) (K : Exit → List V → St → Prop) : Prop :=
 bif b then ∀ i : Nat, K .ret [.lst x n cs, .str s, .int .i64 i, .int .i64 n, .int .i64 i] [] else K (.exit 0) [.lst x n cs, .str s, .int .i64 0, .int .i64 n, .int .i64 n] []
def inOut : Asks IN := fun y K => inOutG y.x y.n y.cs y.s (hasV (y.cs.drop y.i) y.s) K
theorem in_roundOk (y : IN) (hx : inPre y = true) : ap Tryz.prog T3 9 10 (ai 9) 90 26 [0,1,4,7,8] (inV y) (inJ y) (aM 0 inPre inV inJ inMu inOut y) := by
 obtain ⟨x, n, cs, s, i⟩ := y
 unfold inPre at hx
 rw [Bool.and_eq_true] at hx
 have p1 : i ≤ n := Nat.le_of_ble_eq_true hx.2
 have hx1 : okS n cs = true := hx.1
 obtain ⟨l, rfl, rfl, p2, p3⟩ := cF hx1
 show ap Tryz.prog T3 9 10 (ai 9) 90 26 [0,1,4,7,8] [.lst x l.length (strs l), .str s, .int .i64 0, .int .i64 l.length, .int .i64 i] [] _
 rw [in_round]
 have ha : ∀ j, hasV ((strs l).drop j) s = (l.drop j).any fun t => s == t := fun j => by
  unfold hasV; rw [List.map_drop, ao]
 have out : ∀ K, inOut ⟨x, l.length, strs l, s, i⟩ K → inOutG x l.length (strs l) s ((l.drop i).any fun t => s == t) K := fun K hK => by
  have hK : inOutG x l.length (strs l) s (hasV ((strs l).drop i) s) K := hK
  rw [ha] at hK; exact hK
 cases hd : l.drop i with
 | nil =>
  have hi := b9 hd p1
  rw [decide_eq_false (show ¬ ((i : Int) < (l.length : Int)) by omega), cond_false]
  refine ⟨_, [], fun K hK => ?_, a9 [.lst x l.length (strs l), .str s, .int .i64 0, .int .i64 l.length, .int .i64 i] rfl _ rfl _⟩
  have hK := out K hK
  rw [hd] at hK
  rw [hi]; exact hK
 | cons c r =>
  obtain ⟨e1, e2, e3⟩ := bt hd
  obtain ⟨e4, e5⟩ := strs_at hd
  have q1 : decide ((i : Int) < (l.length : Int)) = true := decide_eq_true (by omega)
  have q2 : decide ((0 : Int) ≤ (i : Int)) = true := decide_eq_true (by omega)
  rw [q1, q2]
  simp only [Int.toNat_natCast, e4, e5, aw, aa, cond_true, Bool.and_true, show IntKind.i64.wrap ((i : Int) + 1) = ((i + 1 : Nat) : Int) by rw [IntWalk.i64_in _ ⟨by omega, by omega⟩]; omega]
  cases hc : (s == c) with
  | true =>
   refine ⟨_, [], fun K hK => ?_, a9 [.lst x l.length (strs l), .str s, .int .i64 i, .int .i64 l.length, .int .i64 i] rfl _ rfl _⟩
   have hK := out K hK
   rw [hd, List.any_cons, hc] at hK
   exact hK i
  | false =>
   refine ⟨⟨x, l.length, strs l, s, i + 1⟩, ?_, a9 _ rfl _ rfl _, by simp only [inMu]; omega, fun K hK => ?_⟩
   ·unfold inPre; rw [Bool.and_eq_true]; exact ⟨hx1, Nat.ble_eq_true_of_le (show i + 1 ≤ l.length by omega)⟩
   ·have hK := out K hK
    show inOutG x l.length (strs l) s (hasV ((strs l).drop (i + 1)) s) K
    rw [ha, e2]
    rw [hd, List.any_cons, hc, Bool.false_or] at hK
    exact hK
noncomputable def lkIN : Nat → Trans → Trans := bj 26 (b8 0 (szOf Tryz.prog 90) [0,1,4,7,8] inDec inPre inV inJ inOut) (ai 9)
theorem lkIN_ok : aJ Tryz.prog 0 lkIN 90 := by
 unfold lkIN
 exact bP (bg 9 0 90) (by kernel_rfl) fun f st Q h => br (P := Tryz.prog) (T := T3) (k := 0) (lim := 9) (n := 10) (g := 90) (p0 := 26) (lk := ai 9) ay T3_ok (bi 9 _ _) inMu in_roundOk h
noncomputable def IN1 : Tab := ⟨noT, noL, dv (aR 9) 90 0 lkIN⟩
theorem IN1_ok : TabOk3 Tryz.prog IN1 := ⟨aC, aD, bK (am 9) lkIN_ok⟩
theorem in_tree (x : Value) (n : Nat) (cs : List V) (s : List UInt8) (R : V → Prop) : runW Tryz.prog IN1 9 10 67 [.lst x n cs, .str s] R =
  (
 Fits 0 [V.lst x n cs, V.str s, V.int IntKind.i64 0, V.int IntKind.i64 (↑n : Int), V.int IntKind.i64 0] [] [some (V.lst x n cs), some (V.str s), some (V.int IntKind.i64
 0), some (V.int IntKind.i64 (↑n : Int)), some (V.int IntKind.i64 0)] [] ∧ bif inPre { x := x, n := n, cs := cs, s := s, i := 0 } then bif hasV cs s then ∀ (i : Nat), R
 (V.bool true) else R (V.bool false) else False) := by kernel_rfl
theorem in_sat (x : Value) (l : List (List UInt8)) (s : List UInt8) (hl : l.length ≤ 9223372036854775807) : FnSat Tryz.prog 67 [lstS x l, .str s] [] (Is (.bool (l.any fun t => s == t), [])) := by
 refine az (lim := 9) (n := 10) ay IN1_ok rfl rfl ?_
 unfold lstS
 rw [in_tree]
 have ha : hasV (strs l) s = l.any fun t => s == t := by unfold hasV; rw [ao]
 rw [ha]
 refine ⟨a9 _ rfl _ rfl _, ad (by unfold inPre; rw [okS_mk hl]; exact Nat.ble_eq_true_of_le (Nat.zero_le _)) ?_⟩
 cases l.any fun t => s == t with
 | false => rfl
 | true => intro _; rfl
def hasS (l : List (List UInt8)) (s : List UInt8) : Bool := l.any fun t => s == t
def inG : List V → St → Option (List (Bool × (V × St)))
 | [p, .str s], st => match bv st p with
  | some (b, l) => some [(b && Nat.ble l.length 9223372036854775807, (.bool (hasS l s), st))]
  | none => none
 | _, _ => none
theorem inG_ok (args : List V) (s : St) (l : List (Bool × (V × St))) (o : V × St) (h : inG args s = some l) (ho : aF l = some o) : FnSat Tryz.prog 67 args s (Is o) := by
 unfold inG at h
 split at h
 ·rename_i p t
  split at h
  ·rename_i b ls hv
   cases h
   obtain ⟨hb, rfl⟩ := aX ho
   rw [Bool.and_eq_true] at hb
   obtain ⟨rfl, h1⟩ := hb
   refine cO rfl fun B W0 w m rargs hr ha => ?_
   obtain ⟨a, r, q1, q2, rfl⟩ := af ha
   have hy := cR hr hv q1
   have q3 := bm (Ψ := Frz.of w) (m' := []) _ _ rfl q2
   exact ⟨[lstS a ls, .str t], @au _ (Frz.of w) [] _ _ _ _ hy q3, @in_sat (Frz.of w) a ls t (Nat.le_of_ble_eq_true h1)⟩
  ·cases h
 ·cases h
end Go.Proofs.YtakfcajmfgnchaaGreatDoor
