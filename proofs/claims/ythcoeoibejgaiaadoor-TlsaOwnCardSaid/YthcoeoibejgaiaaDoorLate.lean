/- Whether one of certificates is late: what it comes to. -/
import Derived.Test.YthcoeoibejgaiaaDoorTlsa
namespace Go.Proofs.YthcoeoibejgaiaaDoor
open Go Go.Vm Go.RowKit
set_option linter.unusedVariables false
set_option maxRecDepth 100000
set_option linter.unusedSectionVars false
theorem ptr_frz {Φ : Frz} {B : Nat} {W0 w : World} {m : List MB} {st : St} (hr : Rel B W0 m st w) {b : Nat} {v : V} {t : TypeId} {sz : Nat} (hb : st[b]? = some (.row [v] t sz)) (hv : leafV v = true) {x : Value} (hx : real m (.ptr b 0) = some x) : ∃ y, @real _ (Frz.of w) [] (.lptr y 1 [v] 0) = some x := by
 obtain ⟨e, he, hk⟩ := hr.at hb
 obtain ⟨g1, g0, arr, xs, ⟨fz, _, g2⟩, g3, g4, _⟩ := hk
 obtain ⟨a, r, q1, q2, rfl⟩ := realL_cons g3
 simp only [realL, Option.some.injEq] at q2
 subst q2
 have h0 : @real0 (Frz.of w) v = some a := real0_more hr.more _ _ (leaf_real0 hv q1)
 have hx2 : x = .pointer (some ⟨e.blk, e.off + 0, none⟩) := by
  simp only [real] at hx
  cases h1 : at? m b with
  | none => rw [h1] at hx; cases hx
  | some e' =>
   rw [h1] at hx
   have := at_get h1
   rw [he] at this
   cases this
   simpa using hx.symm
 subst hx2
 refine ⟨.slice (some ⟨e.blk, e.off, none⟩) 1 1, @real_lptr_mk _ (Frz.of w) [] e.blk e.off 1 1 0 [v] [a] arr t fz (by simp only [real0L, h0]) (by omega) (by omega) g2 (fun i y hy => ?_)⟩
 cases i with
 | zero =>
  simp only [List.getElem?_cons_zero, Option.some.injEq] at hy
  subst hy
  rw [g0]
  have := congrArg (fun l => l[0]?) g4
  simpa using this
 | succ i => simp at hy
theorem func1 {Φ Ψ : Frz} {m m' : List MB} {fn : Fn} {v : V} {x : Value} (h : @real _ Φ m (.func fn [] [v]) = some x) : ∃ y, @real _ Φ m v = some y ∧ ∀ v', @real _ Ψ m' v' = some y → @real _ Ψ m' (.func fn [] [v']) = some x := by
 cases hv : @real _ Φ m v with
 | none => simp [real, realL, hv] at h
 | some y =>
  refine ⟨y, rfl, fun v' hv' => ?_⟩
  simp only [real, realL, hv] at h
  simp only [real, realL, hv']
  exact h
variable [Φ : Frz]
noncomputable def LT0 : Tab := ⟨noT, addS noL 10 datesG, noLks 9⟩
theorem LT0_ok : TabOk3 Tryd.prog LT0 := ⟨noT_ok, addS_ok noL_ok datesG_ok, noLks_ok 9⟩
theorem lt_round (x : Value) (n : Nat) (cs : List V) (y : Value) (now : Int) (i : Int) (R : Exit → List (Option V) → St → Prop) : roundW Tryd.prog LT0 9 10 (rounds 9) 32 26 [0,1,4,7,8] [.lst x n cs, .func (.func 17) [] [.lptr y 1 [.int .i64 now] 0], .int .i64 0, .int .i64 n, .int .i64 i] [] R =
  (
 bif decide (i < (↑n : Int)) then bif decide (0 ≤ i) && decide (i < (↑n : Int)) then bif (i.toNat * 6 + 6).ble cs.length then bif isStrV (cs.getD (i.toNat * 6 + 0) (V.bool
 false)) then bif isStrV (cs.getD (i.toNat * 6 + 1) (V.bool false)) then bif isLstV (cs.getD (i.toNat * 6 + 2) (V.bool false)) then bif isIntV IntKind.i64 (cs.getD
 (i.toNat * 6 + 3) (V.bool false)) then bif isIntV IntKind.i64 (cs.getD (i.toNat * 6 + 4) (V.bool false)) then bif isBoolV (cs.getD (i.toNat * 6 + 5) (V.bool false)) then
 bif (csOfV (cs.getD (i.toNat * 6 + 2) (V.bool false))).length.beq (nOfV (cs.getD (i.toNat * 6 + 2) (V.bool false)) * 1) && ((csOfV (cs.getD (i.toNat * 6 + 2) (V.bool
 false))).all isStrV && (csOfV (cs.getD (i.toNat * 6 + 2) (V.bool false))).length.beq (nOfV (cs.getD (i.toNat * 6 + 2) (V.bool false)))) then bif !datesB ((intOfV (cs.getD
 (i.toNat * 6 + 3) (V.bool false)))) ((intOfV (cs.getD (i.toNat * 6 + 4) (V.bool false)))) (now) then R Exit.ret [some (V.lst x n cs), some (V.func (Fn.func 17) [] [V.lptr
 y 1 [V.int IntKind.i64 now] 0]), some (V.int IntKind.i64 i), some (V.int IntKind.i64 (↑n : Int)), some (V.int IntKind.i64 i)] [Blk.row [V.str (strOfV (cs.getD (i.toNat *
 6 + 0) (V.bool false))), V.str (strOfV (cs.getD (i.toNat * 6 + 1) (V.bool false))), V.lst (xOfV (cs.getD (i.toNat * 6 + 2) (V.bool false))) (nOfV (cs.getD (i.toNat * 6 +
 2) (V.bool false))) (csOfV (cs.getD (i.toNat * 6 + 2) (V.bool false))), V.int IntKind.i64 (intOfV (cs.getD (i.toNat * 6 + 3) (V.bool false))), V.int IntKind.i64 (intOfV
 (cs.getD (i.toNat * 6 + 4) (V.bool false))), V.bool (boolOfV (cs.getD (i.toNat * 6 + 5) (V.bool false)))] 34 6] else R Exit.normal [some (V.lst x n cs), some (V.func
 (Fn.func 17) [] [V.lptr y 1 [V.int IntKind.i64 now] 0]), some (V.int IntKind.i64 0), some (V.int IntKind.i64 (↑n : Int)), some (V.int IntKind.i64 (IntKind.i64.wrap (i +
 1)))] [Blk.row [V.str (strOfV (cs.getD (i.toNat * 6 + 0) (V.bool false))), V.str (strOfV (cs.getD (i.toNat * 6 + 1) (V.bool false))), V.lst (xOfV (cs.getD (i.toNat * 6 +
 2) (V.bool false))) (nOfV (cs.getD (i.toNat * 6 + 2) (V.bool false))) (csOfV (cs.getD (i.toNat * 6 + 2) (V.bool false))), V.int IntKind.i64 (intOfV (cs.getD (i.toNat * 6
 + 3) (V.bool false))), V.int IntKind.i64 (intOfV (cs.getD (i.toNat * 6 + 4) (V.bool false))), V.bool (boolOfV (cs.getD (i.toNat * 6 + 5) (V.bool false)))] 34 6] else
 False else False else False else False else False else False else False else False else False else R (Exit.exit 0) [some (V.lst x n cs), some (V.func (Fn.func 17) []
 [V.lptr y 1 [V.int IntKind.i64 now] 0]), some (V.int IntKind.i64 0), some (V.int IntKind.i64 (↑n : Int)), some (V.int IntKind.i64 i)] []) := by kernel_rfl
def lateC (now : Int) (L : List CR) : Bool := L.any fun c => !datesB c.f c.u now
structure LT where
 x : Value
 n : Nat
 cs : List V
 y : Value
 now : Int
 i : Nat
def ltV (z : LT) : List V := [.lst z.x z.n z.cs, .func (.func 17) [] [.lptr z.y 1 [.int .i64 z.now] 0], .int .i64 0, .int .i64 z.n, .int .i64 z.i]
def ltJ (_ : LT) : St := []
def ltPre (z : LT) : Bool := okR z.n z.cs && Nat.ble z.i z.n
def ltMu (z : LT) : Nat := z.n - z.i
def ltDec : List (Option V) → St → Option LT
 | [some (.lst x n cs), some (.func (.func 17) [] [.lptr y 1 [.int .i64 now] 0]), some (.int .i64 0), some (.int .i64 _), some (.int .i64 0)], _ => some ⟨x, n, cs, y, now, 0⟩
 | _, _ => none
def lateV (now : Int) (cs : List V) (i : Nat) : Bool := lateC now ((crD [] cs).drop i)
def ltOutG (x : Value) (n : Nat) (cs : List V) (y : Value) (now : Int) (b : Bool) (K : Exit → List V → St → Prop) : Prop :=
 bif b then ∀ i : Nat, K .ret [.lst x n cs, .func (.func 17) [] [.lptr y 1 [.int .i64 now] 0], .int .i64 i, .int .i64 n, .int .i64 i] [] else K (.exit 0) [.lst x n cs, .func (.func 17) [] [.lptr y 1 [.int .i64 now] 0], .int .i64 0, .int .i64 n, .int .i64 n] []
def ltOut : Asks LT := fun z K => ltOutG z.x z.n z.cs z.y z.now (lateV z.now z.cs z.i) K
theorem lt_roundOk (z : LT) (hx : ltPre z = true) : roundW Tryd.prog LT0 9 10 (rounds 9) 32 26 [0,1,4,7,8] (ltV z) (ltJ z) (RoundOkA 0 ltPre ltV ltJ ltMu ltOut z) := by
 obtain ⟨x, n, cs, y, now, i⟩ := z
 unfold ltPre at hx
 rw [Bool.and_eq_true] at hx
 have hx1 : okR n cs = true := hx.1
 have p1 : i ≤ n := Nat.le_of_ble_eq_true hx.2
 obtain ⟨p2, p3, p4, p5⟩ := okR_spec hx1
 show roundW Tryd.prog LT0 9 10 (rounds 9) 32 26 [0,1,4,7,8] [.lst x n cs, .func (.func 17) [] [.lptr y 1 [.int .i64 now] 0], .int .i64 0, .int .i64 n, .int .i64 i] [] _
 rw [lt_round]
 have out : ∀ K, ltOut ⟨x, n, cs, y, now, i⟩ K → ltOutG x n cs y now (lateC now ((crD [] cs).drop i)) K := fun K hK => hK
 have fl : ∀ a j : Int, flatL [.lst x n cs, .func (.func 17) [] [.lptr y 1 [.int .i64 now] 0], .int .i64 a, .int .i64 n, .int .i64 j] = true := fun _ _ => rfl
 cases hd : (crD [] cs).drop i with
 | nil =>
  have hi := dropA_nil hd (by omega)
  rw [decide_eq_false (show ¬ ((i : Int) < (n : Int)) by omega), cond_false]
  refine ⟨_, [], fun K hK => ?_, vs_fits _ (fl 0 i) _ rfl _⟩
  have hK := out K hK
  rw [hd] at hK
  have hn : i = n := by omega
  rw [hn]; exact hK
 | cons c r =>
  obtain ⟨e1, e2, e3⟩ := dropA_cons hd
  have C := cr_at p2 hd
  obtain ⟨xn, hn⟩ := C.l
  have d1 : decide ((i : Int) < (n : Int)) = true := decide_eq_true (by omega)
  have d2 : decide ((0 : Int) ≤ (i : Int)) = true := decide_eq_true (by omega)
  have l6 : (i * 6 + 6).ble cs.length = true := Nat.ble_eq_true_of_le (by omega)
  have w2 : IntKind.i64.wrap ((i : Int) + 1) = ((i + 1 : Nat) : Int) := by rw [IntWalk.i64_in _ ⟨by omega, by omega⟩]; omega
  have q5 : (strs c.l).length.beq (c.l.length * 1) = true := by rw [strs_len, Nat.mul_one]; exact Nat.beq_refl _
  have q6 : (strs c.l).length.beq c.l.length = true := by rw [strs_len]; exact Nat.beq_refl _
  simp only [d1, d2, Int.toNat_natCast, l6, C.k, C.g, hn, C.f, C.u, C.ca, isStrV, strOfV, isLstV, xOfV, nOfV, csOfV, isIntV, intOfV, isBoolV, boolOfV, decide_true, w2, q5, q6, strs_isStr, Bool.and_self, cond_true]
  have next : lateC now (c :: r) = (!datesB c.f c.u now || lateC now r) := rfl
  refine bif_intro (fun h => ?_) (fun h => ?_)
  ·refine ⟨_, [], fun K hK => ?_, vs_fits _ (fl i i) _ rfl _⟩
   have hK := out K hK
   rw [hd, next, h] at hK
   exact hK i
  ·refine ⟨⟨x, n, cs, y, now, i + 1⟩, ?_, vs_fits _ (fl 0 _) _ rfl _, by simp only [ltMu]; omega, fun K hK => ?_⟩
   ·unfold ltPre; rw [Bool.and_eq_true]; exact ⟨hx1, Nat.ble_eq_true_of_le (show i + 1 ≤ n by omega)⟩
   ·have hK := out K hK
    rw [hd, next, h, Bool.false_or] at hK
    show ltOutG x n cs y now (lateV now cs (i + 1)) K
    unfold lateV
    rw [e2]; exact hK
noncomputable def lkLT : Nat → Trans → Trans := withLoop 26 (loopA 0 (szOf Tryd.prog 32) [0,1,4,7,8] ltDec ltPre ltV ltJ ltOut) (rounds 9)
theorem lkLT_ok : FnLoopsW Tryd.prog 0 lkLT 32 := by
 unfold lkLT
 exact fnLoopW (fnRoundsW 9 0 32) (by kernel_rfl) fun f st Q h => loopA_ok (P := Tryd.prog) (T := LT0) (k := 0) (lim := 9) (n := 10) (g := 32) (p0 := 26) (lk := rounds 9) mixed LT0_ok (roundsW 9 _ _) ltMu lt_roundOk h
noncomputable def LT1 : Tab := ⟨noT, noL, addLk (noLks 9) 32 0 lkLT⟩
theorem LT1_ok : TabOk3 Tryd.prog LT1 := ⟨noT_ok, noL_ok, addLk_ok (noLks_ok 9) lkLT_ok⟩
theorem late_tree (x : Value) (n : Nat) (cs : List V) (y : Value) (now : Int) (R : V → Prop) : runW Tryd.prog LT1 9 10 16 [.lst x n cs, .func (.func 17) [] [.lptr y 1 [.int .i64 now] 0]] R =
  (
 Fits 0 [V.lst x n cs, V.func (Fn.func 17) [] [V.lptr y 1 [V.int IntKind.i64 now] 0], V.int IntKind.i64 0, V.int IntKind.i64 (↑n : Int), V.int IntKind.i64 0] [] [some
 (V.lst x n cs), some (V.func (Fn.func 17) [] [V.lptr y 1 [V.int IntKind.i64 now] 0]), some (V.int IntKind.i64 0), some (V.int IntKind.i64 (↑n : Int)), some (V.int
 IntKind.i64 0)] [] ∧ bif ltPre { x := x, n := n, cs := cs, y := y, now := now, i := 0 } then bif lateV now cs 0 then ∀ (i : Nat), R (V.bool true) else R (V.bool false)
 else False) := by kernel_rfl
theorem late_sat (x : Value) (n : Nat) (cs : List V) (y : Value) (now : Int) (h : okR n cs = true) : FnSat Tryd.prog 16 [.lst x n cs, .func (.func 17) [] [.lptr y 1 [.int .i64 now] 0]] [] (Is (.bool (lateC now (crD [] cs)), [])) := by
 refine pureW_of (lim := 9) (n := 10) mixed LT1_ok rfl rfl ?_
 rw [late_tree]
 have e : lateV now cs 0 = lateC now (crD [] cs) := rfl
 rw [e]
 refine ⟨vs_fits _ rfl _ rfl _, must_intro (by unfold ltPre; rw [Bool.and_eq_true]; exact ⟨h, Nat.ble_eq_true_of_le (Nat.zero_le _)⟩) ?_⟩
 cases lateC now (crD [] cs) with
 | false => rfl
 | true => intro _; rfl
def lateG : List V → St → Option (List (Bool × (V × St)))
 | [p, .func (.func 17) [] [.ptr b 0]], st => match viewR st p, st[b]? with
  | some (c, l), some (.row [.int .i64 now] _ _) => some [(c && Nat.ble l.length 9223372036854775807, (.bool (lateC now l), st))]
  | _, _ => none
 | _, _ => none
theorem lateG_ok (args : List V) (s : St) (l : List (Bool × (V × St))) (o : V × St) (h : lateG args s = some l) (ho : pickO l = some o) : FnSat Tryd.prog 16 args s (Is o) := by
 unfold lateG at h
 split at h
 ·rename_i p b
  split at h
  ·rename_i c ls now t sz hv hb
   cases h
   obtain ⟨hk, rfl⟩ := pickO_one ho
   rw [Bool.and_eq_true] at hk
   obtain ⟨rfl, h1⟩ := hk
   refine frz_sat rfl fun B W0 w m rargs hr ha => ?_
   obtain ⟨a, r, q1, q2, rfl⟩ := realL_cons ha
   obtain ⟨a2, r2, q3, q4, rfl⟩ := realL_cons q2
   simp only [realL, Option.some.injEq] at q4
   subst q4
   obtain ⟨L, e1, e2, e3⟩ := viewR_ok hr hv q1
   have hl : L.length ≤ 9223372036854775807 := by rw [← List.length_map (f := (·.c)), e1]; exact Nat.le_of_ble_eq_true h1
   have hf : ∃ y, @real _ (Frz.of w) [] (.func (.func 17) [] [.lptr y 1 [.int .i64 now] 0]) = some a2 := by
    obtain ⟨xp, hp, hf⟩ := func1 (Ψ := Frz.of w) (m' := []) q3
    obtain ⟨y, hy⟩ := ptr_frz hr hb rfl hp
    exact ⟨y, hf _ hy⟩
   obtain ⟨y, hy⟩ := hf
   have := @late_sat (Frz.of w) a L.length (crs L) y now (okR_mk hl e3)
   rw [crD_crs, e1] at this
   exact ⟨[lstR a L, .func (.func 17) [] [.lptr y 1 [.int .i64 now] 0]], @realL_mk _ (Frz.of w) [] _ _ _ _ e2 (@realL_mk _ (Frz.of w) [] _ _ _ _ hy rfl), this⟩
  ·cases h
 ·cases h
end Go.Proofs.YthcoeoibejgaiaaDoor
