/- Whether certificates are linked: what it comes to. -/
import Derived.Test.YthcoeoibejgaiaaDoorHost
import Derived.Test.YthcoeoibejgaiaaDoorCert2
import Derived.Test.YthcoeoibejgaiaaDoorDig
namespace Go.Proofs.YthcoeoibejgaiaaDoor
open Go Go.Vm Go.RowKit
set_option linter.unusedVariables false
set_option maxRecDepth 100000
set_option linter.unusedSectionVars false
variable [Φ : Frz]
noncomputable def DG0 : Tab := ⟨addT (addP noT 27 spkiP) 28 sumT, noL, noLks 9⟩
theorem DG0_ok : TabOk3 Tryd.prog DG0 := ⟨addT_ok (addP_ok noT_ok spki_ok) sum_ok, noL_ok, noLks_ok 9⟩
theorem dig_tree (k : List UInt8) (R : V → Prop) : runW Tryd.prog DG0 9 10 13 [.str k] R =
  (
 bif spkiB k == [] then R (V.str []) else bif okL (spkiB k) then R (V.str (sumF (spkiB k))) else False) := by kernel_rfl
def digB (k : List UInt8) : List UInt8 := bif spkiB k == [] then [] else sumF (spkiB k)
def digP : List V → Option V
 | [.str k] => some (.str (digB k))
 | _ => none
theorem dig_ok (args : List V) (v : V) (h : digP args = some v) : FnSat Tryd.prog 13 args [] (Is (v, [])) := by
 unfold digP at h
 split at h
 ·rename_i k
  cases h
  refine pureW_of (lim := 9) (n := 10) mixed DG0_ok rfl rfl ?_
  rw [dig_tree]
  unfold digB
  refine bif_intro (fun h => ?_) (fun h => ?_)
  ·rw [h]; rfl
  ·rw [h]
   have hk : okL (spkiB k) = true := by
    refine decide_eq_true ?_
    unfold spkiB
    split
    ·simp
    ·split
     ·simp
     ·have h1 := putB_le 4 k
      have h2 := putB_le 48 (putB 4 k)
      omega
   rw [hk]; rfl
 ·cases h
def lkT : List (Nat × V) := [(2, .ptr 0 0)]
noncomputable def lkRg : Array Tmp × Code × Code := (rangeOfN (bodyOf Tryd.prog 11)).getD (#[], .skip, .skip)
noncomputable def lkAs : Code := lkRg.2.1
noncomputable def lkBd : Code := lkRg.2.2
noncomputable def lkL (s : LoopState) (p : Option Code) : Blk := rgLoopN Tryd.prog 11 s p lkT 2
noncomputable def LK0 : Tab := ⟨addP noT 13 digP, noL, noLks 9⟩
theorem LK0_ok : TabOk3 Tryd.prog LK0 := ⟨addP_ok noT_ok dig_ok, noL_ok, noLks_ok 9⟩
theorem lk_round (b : Bool) (x : Value) (n : Nat) (cs : List V) (i : Int) (R : Exit → List (Option V) → St → Prop) : roundW Tryd.prog LK0 9 10 (rounds 9) 45 6 [0,1,3] [.yield 3, .ptr 1 0, .int .i64 i] [.row [.bool b] 4 1, .row [.lst x n cs] 30 1, .defd, lkL .ready none] R =
  (
 bif decide (i < (↑n : Int)) then bif decide (0 ≤ i) && decide (i < (↑n : Int)) then bif (i.toNat * 6 + 5).blt cs.length then bif isBoolV (cs.getD (i.toNat * 6 + 5)
 (V.bool false)) then bif boolOfV (cs.getD (i.toNat * 6 + 5) (V.bool false)) then bif decide (0 ≤ IntKind.i64.wrap (i - 1)) && decide (IntKind.i64.wrap (i - 1) < (↑n :
 Int)) then bif ((IntKind.i64.wrap (i - 1)).toNat * 6 + 1).blt cs.length then bif isStrV (cs.getD ((IntKind.i64.wrap (i - 1)).toNat * 6 + 1) (V.bool false)) then bif
 decide (0 ≤ i) && decide (i < (↑n : Int)) then bif (i.toNat * 6 + 0).blt cs.length then bif isStrV (cs.getD (i.toNat * 6 + 0) (V.bool false)) then bif strOfV (cs.getD
 ((IntKind.i64.wrap (i - 1)).toNat * 6 + 1) (V.bool false)) == digB (strOfV (cs.getD (i.toNat * 6 + 0) (V.bool false))) then R Exit.normal [some (V.yield 3), some (V.ptr 1
 0), some (V.int IntKind.i64 (IntKind.i64.wrap (i + 1)))] [Blk.row [V.bool b] 4 1, Blk.row [V.lst x n cs] 30 1, Blk.defd, lkL LoopState.ready none] else R Exit.ret [some
 (V.yield 3), some (V.ptr 1 0), some (V.int IntKind.i64 i)] [Blk.row [V.bool false] 4 1, Blk.row [V.lst x n cs] 30 1, Blk.defd, lkL LoopState.done (some Code.ret)] else
 False else False else False else False else False else False else R Exit.ret [some (V.yield 3), some (V.ptr 1 0), some (V.int IntKind.i64 i)] [Blk.row [V.bool false] 4 1,
 Blk.row [V.lst x n cs] 30 1, Blk.defd, lkL LoopState.done (some Code.ret)] else False else False else False else R (Exit.exit 0) [some (V.yield 3), some (V.ptr 1 0), some
 (V.int IntKind.i64 i)] [Blk.row [V.bool b] 4 1, Blk.row [V.lst x n cs] 30 1, Blk.defd, lkL LoopState.ready none]) := by kernel_rfl
def linkC : List CR → Bool
 | a :: b :: r => b.ca && ((a.g == digB b.k) && linkC (b :: r))
 | _ => true
structure LK where
 b : Bool
 x : Value
 n : Nat
 cs : List V
 i : Nat
def lkV (y : LK) : List V := [.yield 3, .ptr 1 0, .int .i64 (y.i + 1 : Nat)]
noncomputable def lkM (b : Bool) (x : Value) (n : Nat) (cs : List V) (s : LoopState) (p : Option Code) : St := [.row [.bool b] 4 1, .row [.lst x n cs] 30 1, .defd, lkL s p]
noncomputable def lkJ (y : LK) : St := lkM y.b y.x y.n y.cs .ready none
def lkPre (y : LK) : Bool := okR y.n y.cs && Nat.ble y.i y.n
def lkMu (y : LK) : Nat := y.n - y.i
def lkDec : List (Option V) → St → Option LK
 | [some (.yield 3), some (.ptr 1 0), some (.int .i64 1)], .row [.bool b] _ _ :: .row [.lst x n cs] _ _ :: _ => some ⟨b, x, n, cs, 0⟩
 | _, _ => none
def linkV (cs : List V) (i : Nat) : Bool := linkC ((crD [] cs).drop i)
noncomputable def lkOutG (b : Bool) (x : Value) (n : Nat) (cs : List V) (c : Bool) (K : Exit → List V → St → Prop) : Prop :=
 bif c then ∀ j : Int, K (.exit 0) [.yield 3, .ptr 1 0, .int .i64 j] (lkM b x n cs .ready none) else ∀ j : Int, K .ret [.yield 3, .ptr 1 0, .int .i64 j] (lkM false x n cs .done (some .ret))
noncomputable def lkOut : Asks LK := fun y K => lkOutG y.b y.x y.n y.cs (linkV y.cs y.i) K
theorem lkL_fit (σ : List Nat) (h0 : σ[0]? = some 0) (h2 : σ[2]? = some 2) (s : LoopState) (p : Option Code) : FitB σ (lkL s p) (lkL s p) := by
 unfold lkL rgLoopN
 split
 ·refine .inr ⟨_, _, _, _, _, _, _, _, _, _, rfl, rfl, h2, FitT.of (fun t v hm => ?_)⟩
  simp only [lkT, List.mem_cons, Prod.mk.injEq, List.not_mem_nil, or_false] at hm
  obtain ⟨rfl, rfl⟩ := hm
  exact ⟨.ptr 0 0, by simp [renV, h0], rfl⟩
 ·exact .inl rfl
theorem lk_fits (b : Bool) (x : Value) (n : Nat) (cs : List V) (j : Int) (s : LoopState) (p : Option Code) : Fits 4 [.yield 3, .ptr 1 0, .int .i64 j] (lkM b x n cs s p) [some (.yield 3), some (.ptr 1 0), some (.int .i64 j)] (lkM b x n cs s p) :=
 ⟨[0, 1, 2, 3], [.yield 3, .ptr 1 0, .int .i64 j], rfl, rfl, FitsM.of ⟨.inr ⟨_, .inl rfl, rfl⟩, .inr ⟨_, .inl rfl, rfl⟩, .inr ⟨_, .inl rfl, rfl⟩, .inr ⟨_, lkL_fit _ rfl rfl s p, rfl⟩, trivial⟩, by decide, fun i hi => by
  match i, hi with
  | 0, _ | 1, _ | 2, _ | 3, _ => rfl⟩
theorem lk_roundOk (y : LK) (hx : lkPre y = true) : roundW Tryd.prog LK0 9 10 (rounds 9) 45 6 [0,1,3] (lkV y) (lkJ y) (RoundOkA 4 lkPre lkV lkJ lkMu lkOut y) := by
 obtain ⟨b, x, n, cs, i⟩ := y
 unfold lkPre at hx
 rw [Bool.and_eq_true] at hx
 have p1 : i ≤ n := Nat.le_of_ble_eq_true hx.2
 have hx1 : okR n cs = true := hx.1
 obtain ⟨p2, p3, p4, p5⟩ := okR_spec hx1
 show roundW Tryd.prog LK0 9 10 (rounds 9) 45 6 [0,1,3] [.yield 3, .ptr 1 0, .int .i64 ((i + 1 : Nat) : Int)] [.row [.bool b] 4 1, .row [.lst x n cs] 30 1, .defd, lkL .ready none] _
 rw [lk_round]
 have out : ∀ K, lkOut ⟨b, x, n, cs, i⟩ K → lkOutG b x n cs (linkC ((crD [] cs).drop i)) K := fun K hK => hK
 by_cases hi : i + 1 < n
 ·obtain ⟨a, r, ha⟩ : ∃ a r, (crD [] cs).drop i = a :: r := by
   cases hd : (crD [] cs).drop i with
   | nil => have := congrArg List.length hd; simp at this; omega
   | cons a r => exact ⟨a, r, rfl⟩
  obtain ⟨_, ha2, _⟩ := dropA_cons ha
  obtain ⟨c, q, hc⟩ : ∃ c q, r = c :: q := by
   cases r with
   | nil => have := congrArg List.length ha; simp at this; omega
   | cons c q => exact ⟨c, q, rfl⟩
  subst hc
  have A := cr_at p2 ha
  have C := cr_at p2 ha2
  have w1 : IntKind.i64.wrap (((i + 1 : Nat) : Int) - 1) = (i : Int) := by rw [IntWalk.i64_in _ ⟨by omega, by omega⟩]; omega
  have w2 : IntKind.i64.wrap (((i + 1 : Nat) : Int) + 1) = ((i + 1 + 1 : Nat) : Int) := by rw [IntWalk.i64_in _ ⟨by omega, by omega⟩]; omega
  have d1 : decide (((i + 1 : Nat) : Int) < (n : Int)) = true := decide_eq_true (by omega)
  have d2 : decide ((0 : Int) ≤ ((i + 1 : Nat) : Int)) = true := decide_eq_true (by omega)
  have d3 : decide ((i : Int) < (n : Int)) = true := decide_eq_true (by omega)
  have d4 : decide ((0 : Int) ≤ (i : Int)) = true := decide_eq_true (by omega)
  have l5 : ((i + 1) * 6 + 5).blt cs.length = true := Nat.ble_eq_true_of_le (by omega)
  have l1 : (i * 6 + 1).blt cs.length = true := Nat.ble_eq_true_of_le (by omega)
  have l0 : ((i + 1) * 6 + 0).blt cs.length = true := Nat.ble_eq_true_of_le (by omega)
  simp only [w1, w2, d1, d2, d3, d4, Int.toNat_natCast, l5, l1, l0, A.g, C.ca, C.k, isBoolV, boolOfV, isStrV, strOfV, Bool.and_self, cond_true]
  have next : (linkC ((crD [] cs).drop i)) = (c.ca && ((a.g == digB c.k) && linkC ((crD [] cs).drop (i + 1)))) := by rw [ha, ha2]; rfl
  have bad : linkC ((crD [] cs).drop i) = false → RoundOkA 4 lkPre lkV lkJ lkMu lkOut ⟨b, x, n, cs, i⟩ .ret [some (.yield 3), some (.ptr 1 0), some (.int .i64 ((i + 1 : Nat) : Int))] [.row [.bool false] 4 1, .row [.lst x n cs] 30 1, .defd, lkL .done (some .ret)] := fun h => by
   refine ⟨_, _, fun K hK => ?_, lk_fits false x n cs _ .done (some .ret)⟩
   have hK := out K hK
   rw [h] at hK
   exact hK _
  refine bif_intro (fun h1 => ?_) (fun h1 => bad (by rw [next, h1]; rfl))
  refine bif_intro (fun h2 => ?_) (fun h2 => bad (by rw [next, h1, h2]; rfl))
  rw [h1, h2, Bool.true_and, Bool.true_and] at next
  refine ⟨⟨b, x, n, cs, i + 1⟩, ?_, lk_fits b x n cs _ .ready none, by simp only [lkMu]; omega, fun K hK => ?_⟩
  ·unfold lkPre; rw [Bool.and_eq_true]; exact ⟨hx1, Nat.ble_eq_true_of_le (show i + 1 ≤ n by omega)⟩
  ·have hK := out K hK
   rw [next] at hK
   exact hK
 ·rw [decide_eq_false (show ¬ (((i + 1 : Nat) : Int) < (n : Int)) by omega), cond_false]
  refine ⟨_, _, fun K hK => ?_, lk_fits b x n cs _ .ready none⟩
  have hK := out K hK
  have : linkC ((crD [] cs).drop i) = true := by
   match hd : (crD [] cs).drop i with
   | [] => rfl
   | [_] => rfl
   | _ :: _ :: _ => have := congrArg List.length hd; simp at this; omega
  rw [this] at hK
  exact hK _
noncomputable def lkLK : Nat → Trans → Trans := withLoop 6 (loopA 4 (szOf Tryd.prog 45) [0,1,3] lkDec lkPre lkV lkJ lkOut) (rounds 9)
theorem lkLK_ok : FnLoopsW Tryd.prog 4 lkLK 45 := by
 unfold lkLK
 exact fnLoopW (fnRoundsW 9 4 45) (by kernel_rfl) fun f st Q h => loopA_ok (P := Tryd.prog) (T := LK0) (k := 4) (lim := 9) (n := 10) (g := 45) (p0 := 6) (lk := rounds 9) mixed LK0_ok (roundsW 9 _ _) lkMu lk_roundOk h
noncomputable def LK1 : Tab := ⟨addP noT 13 digP, noL, addLk (noLks 9) 45 4 lkLK⟩
theorem LK1_ok : TabOk3 Tryd.prog LK1 := ⟨addP_ok noT_ok dig_ok, noL_ok, addLk_ok (noLks_ok 9) lkLK_ok⟩
theorem link_tree (x : Value) (n : Nat) (cs : List V) (R : V → Prop) : runW Tryd.prog LK1 9 10 11 [.lst x n cs] R =
  (
 Fits 4 [V.yield 3, V.ptr 1 0, V.int IntKind.i64 1] [Blk.row [V.bool false] 4 1, Blk.row [V.lst x n cs] 30 1, Blk.defd, lkL LoopState.ready none] [some (V.yield 3), some
 (V.ptr 1 0), some (V.int IntKind.i64 1)] [Blk.row [V.bool false] 4 1, Blk.row [V.lst x n cs] 30 1, Blk.defd, Blk.loop LoopState.ready none 11 ((Tr.lf.nd none (Tr.lf.nd
 (some (V.lst x n cs)) Tr.lf)).nd (some (V.lst x n cs)) (Tr.lf.nd (some (V.ptr 0 0)) (Tr.lf.nd (some (V.func (Fn.func 45) [] [V.ptr 1 0])) Tr.lf))) { toList := [7, 8] }
 lkAs lkBd 2] ∧ bif lkPre { b := false, x := x, n := n, cs := cs, i := 0 } then bif linkV cs 0 then ∀ (j : Int), R (V.bool true) else ∀ (j : Int), R (V.bool false) else
 False) := by kernel_rfl
theorem lk_enter (b : Bool) (x : Value) (n : Nat) (cs : List V) (T2 : Tr) (h2 : T2.get 2 = some (.ptr 0 0)) :
  Fits 4 [.yield 3, .ptr 1 0, .int .i64 1] [.row [.bool b] 4 1, .row [.lst x n cs] 30 1, .defd, lkL .ready none] [some (.yield 3), some (.ptr 1 0), some (.int .i64 1)] [.row [.bool b] 4 1, .row [.lst x n cs] 30 1, .defd, .loop .ready none 11 T2 { toList := [7, 8] } lkAs lkBd 2] := by
 have hL : lkL .ready none = .loop .ready none 11 (putsT .lf lkT) { toList := [7, 8] } lkAs lkBd 2 := by kernel_rfl
 refine ⟨[0, 1, 2, 3], [.yield 3, .ptr 1 0, .int .i64 1], rfl, rfl, FitsM.of ?_, by decide, fun i hi => by
  match i, hi with
  | 0, _ | 1, _ | 2, _ | 3, _ => rfl⟩
 refine ⟨.inr ⟨_, .inl rfl, rfl⟩, .inr ⟨_, .inl rfl, rfl⟩, .inr ⟨_, .inl rfl, rfl⟩, .inr ⟨_, ?_, rfl⟩, trivial⟩
 rw [hL]
 refine .inr ⟨_, _, _, _, _, _, _, _, _, _, rfl, rfl, rfl, FitT.of fun t v hm => ?_⟩
 simp only [lkT, List.mem_cons, Prod.mk.injEq, List.not_mem_nil, or_false] at hm
 obtain ⟨rfl, rfl⟩ := hm
 exact ⟨_, rfl, h2⟩
theorem link_sat (x : Value) (n : Nat) (cs : List V) (h : okR n cs = true) : FnSat Tryd.prog 11 [.lst x n cs] [] (Is (.bool (linkC (crD [] cs)), [])) := by
 refine pureW_of (lim := 9) (n := 10) mixed LK1_ok rfl rfl ?_
 rw [link_tree]
 refine ⟨lk_enter _ _ _ _ _ rfl, must_intro ?_ ?_⟩
 ·unfold lkPre; rw [Bool.and_eq_true]; exact ⟨h, Nat.ble_eq_true_of_le (Nat.zero_le _)⟩
 ·have e : linkV cs 0 = linkC (crD [] cs) := rfl
  rw [← e]
  cases linkV cs 0 with
  | true => intro j; rfl
  | false => intro j; rfl
def linkG : List V → St → Option (List (Bool × (V × St)))
 | [p], st => match viewR st p with
  | some (b, l) => some [(b && Nat.ble l.length 9223372036854775807, (.bool (linkC l), st))]
  | none => none
 | _, _ => none
theorem linkG_ok (args : List V) (s : St) (l : List (Bool × (V × St))) (o : V × St) (h : linkG args s = some l) (ho : pickO l = some o) : FnSat Tryd.prog 11 args s (Is o) := by
 unfold linkG at h
 split at h
 ·rename_i p
  split at h
  ·rename_i b ls hv
   cases h
   obtain ⟨hb, rfl⟩ := pickO_one ho
   rw [Bool.and_eq_true] at hb
   obtain ⟨rfl, h1⟩ := hb
   refine frz_sat rfl fun B W0 w m rargs hr ha => ?_
   obtain ⟨a, r, q1, q2, rfl⟩ := realL_cons ha
   obtain ⟨L, e1, e2, e3⟩ := viewR_ok hr hv q1
   have q3 := realL_plain (Ψ := Frz.of w) (m' := []) _ _ rfl q2
   have hl : L.length ≤ 9223372036854775807 := by rw [← List.length_map (f := (·.c)), e1]; exact Nat.le_of_ble_eq_true h1
   have := @link_sat (Frz.of w) a L.length (crs L) (okR_mk hl e3)
   rw [crD_crs, e1] at this
   exact ⟨[lstR a L], @realL_mk _ (Frz.of w) [] _ _ _ _ e2 q3, this⟩
  ·cases h
 ·cases h
end Go.Proofs.YthcoeoibejgaiaaDoor
