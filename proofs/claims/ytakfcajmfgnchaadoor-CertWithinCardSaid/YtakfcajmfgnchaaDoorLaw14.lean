/- Certificates: how large one is; the examples of layer 14. -/
import Derived.Test.YtakfcajmfgnchaaDoorDec
namespace Go.Proofs.YtakfcajmfgnchaaDoor
open Go Go.Vm Go.RowKit
set_option linter.unusedVariables false
set_option linter.unusedSectionVars false
set_option maxRecDepth 100000
variable [Φ : Frz]
noncomputable def G0' : Tab := ⟨noT, noL, noLks 9⟩
theorem G0'_ok : TabOk3 Tryd.prog G0' := ⟨noT_ok, noL_ok, noLks_ok 9⟩
/-! ### how large one is -/
theorem lg_round (k g : List UInt8) (x : Value) (n : Nat) (cs : List V) (f u : Int) (ca : Bool) (a i : Int) (R : Exit → List (Option V) → St → Prop) : roundW Tryd.prog G0' 9 10 (rounds 9) 10 58 [1,2,3,4] [.ptr 0 0, .bool false, .int .i64 a, .int .i64 i] [.row [.str k, .str g, .lst x n cs, .int .i64 f, .int .i64 u, .bool ca] 24 6] R =
   (
 bif decide (i < (↑n : Int)) then bif decide (a < 9000) then bif decide (0 ≤ i) && decide (i < (↑n : Int)) then bif (i.toNat * 1).blt cs.length then bif isStrV (cs.getD
 (i.toNat * 1) (V.bool false)) then R Exit.normal [some (V.ptr 0 0), some (V.bool false), some (V.int IntKind.i64 (IntKind.i64.wrap (IntKind.i64.wrap (a + 10) + if
 (↑(strOfV (cs.getD (i.toNat * 1) (V.bool false))).length : Int) < 9000 then (↑(strOfV (cs.getD (i.toNat * 1) (V.bool false))).length : Int) else 9000))), some (V.int
 IntKind.i64 (IntKind.i64.wrap (i + 1)))] [Blk.row [V.str k, V.str g, V.lst x n cs, V.int IntKind.i64 f, V.int IntKind.i64 u, V.bool ca] 24 6] else False else False else
 False else R (Exit.exit 0) [some (V.ptr 0 0), some (V.bool false), some (V.int IntKind.i64 a), some (V.int IntKind.i64 i)] [Blk.row [V.str k, V.str g, V.lst x n cs, V.int
 IntKind.i64 f, V.int IntKind.i64 u, V.bool ca] 24 6] else R (Exit.exit 0) [some (V.ptr 0 0), some (V.bool false), some (V.int IntKind.i64 a), some (V.int IntKind.i64 i)]
 [Blk.row [V.str k, V.str g, V.lst x n cs, V.int IntKind.i64 f, V.int IntKind.i64 u, V.bool ca] 24 6]) := by kernel_rfl
def lgN : Nat → List (List UInt8) → Nat
  | n, [] => n
  | n, s :: r => if n < 9000 then lgN (n + 10 + min 9000 s.length) r else n
structure LG where
  c : CT
  a : Nat
  i : Nat
def lgV (x : LG) : List V := [.ptr 0 0, .bool false, .int .i64 x.a, .int .i64 x.i]
def lgJ (x : LG) : St := [.row x.c.cells 24 6]
def lgPre (x : LG) : Bool := okS x.c.n x.c.cs && (Nat.ble x.i x.c.n && Nat.ble x.a 20000)
def lgMu (x : LG) : Nat := x.c.n - x.i
def lgDec : List (Option V) → St → Option LG
  | [some (.ptr 0 0), some (.bool false), some (.int .i64 a), some (.int .i64 0)], .row [.str k, .str g, .lst x n cs, .int .i64 f, .int .i64 u, .bool ca] _ _ :: _ => some ⟨⟨k, g, x, n, cs, f, u, ca⟩, a.toNat, 0⟩
  | _, _ => none
def lgOutG (c : CT) (a : Nat) (K : Exit → List V → St → Prop) : Prop := ∀ j : Nat, K (.exit 0) [.ptr 0 0, .bool false, .int .i64 a, .int .i64 j] [.row c.cells 24 6]
def lgS (a : Nat) (cs : List V) : Nat := lgN a (cs.map strOfV)
def lgOut : Asks LG := fun x K => lgOutG x.c (lgS x.a (x.c.cs.drop x.i)) K
theorem lg_fits (c : CT) (a : Int) (i : Int) : Fits 0 [.ptr 0 0, .bool false, .int .i64 a, .int .i64 i] [.row c.cells 24 6] [some (.ptr 0 0), some (.bool false), some (.int .i64 a), some (.int .i64 i)] [.row c.cells 24 6] :=
  ⟨[0], [.ptr 0 0, .bool false, .int .i64 a, .int .i64 i], rfl, rfl, FitsM.of ⟨.inr ⟨_, .inl rfl, rfl⟩, trivial⟩, by decide, fun i hi => by omega⟩
theorem lg_roundOk (x : LG) (hx : lgPre x = true) : roundW Tryd.prog G0' 9 10 (rounds 9) 10 58 [1,2,3,4] (lgV x) (lgJ x) (RoundOkA 0 lgPre lgV lgJ lgMu lgOut x) := by
  obtain ⟨⟨k, g, y, n, cs, f, u, ca⟩, a, i⟩ := x
  unfold lgPre at hx
  simp only [Bool.and_eq_true] at hx
  have hx1 : okS n cs = true := hx.1
  have p1 : i ≤ n := Nat.le_of_ble_eq_true hx.2.1
  have p0 : a ≤ 20000 := Nat.le_of_ble_eq_true hx.2.2
  obtain ⟨l, rfl, rfl, p2, p3⟩ := okS_spec hx1
  show roundW Tryd.prog G0' 9 10 (rounds 9) 10 58 [1,2,3,4] [.ptr 0 0, .bool false, .int .i64 a, .int .i64 i] [.row [.str k, .str g, .lst y l.length (strs l), .int .i64 f, .int .i64 u, .bool ca] 24 6] _
  rw [lg_round]
  have ha : ∀ b j, lgS b ((strs l).drop j) = lgN b (l.drop j) := fun b j => by
    unfold lgS; rw [List.map_drop, strs_strOf]
  have out : ∀ K, lgOut ⟨⟨k, g, y, l.length, strs l, f, u, ca⟩, a, i⟩ K → lgOutG ⟨k, g, y, l.length, strs l, f, u, ca⟩ (lgN a (l.drop i)) K := fun K hK => by
    have hK : lgOutG ⟨k, g, y, l.length, strs l, f, u, ca⟩ (lgS a ((strs l).drop i)) K := hK
    rw [ha] at hK; exact hK
  have fin : lgN a (l.drop i) = a → RoundOkA 0 lgPre lgV lgJ lgMu lgOut ⟨⟨k, g, y, l.length, strs l, f, u, ca⟩, a, i⟩ (.exit 0) [some (.ptr 0 0), some (.bool false), some (.int .i64 a), some (.int .i64 i)] [.row [.str k, .str g, .lst y l.length (strs l), .int .i64 f, .int .i64 u, .bool ca] 24 6] := fun h => by
    refine ⟨[.ptr 0 0, .bool false, .int .i64 a, .int .i64 i], _, fun K hK => ?_, lg_fits ⟨k, g, y, l.length, strs l, f, u, ca⟩ a i⟩
    have hK := out K hK
    rw [h] at hK
    exact hK i
  cases hd : l.drop i with
  | nil =>
    have hi := dropA_nil hd p1
    rw [decide_eq_false (show ¬ ((i : Int) < (l.length : Int)) by omega), cond_false]
    exact fin (by rw [hd]; rfl)
  | cons c r =>
    obtain ⟨e1, e2, e3⟩ := dropA_cons hd
    obtain ⟨e4, e5⟩ := strs_at hd
    rw [decide_eq_true (show ((i : Int) < (l.length : Int)) by omega), cond_true]
    refine bif_intro (fun h => ?_) (fun h => ?_)
    · have h := of_decide_eq_true h
      have q1 : decide ((i : Int) < (l.length : Int)) = true := decide_eq_true (by omega)
      have q2 : decide ((0 : Int) ≤ (i : Int)) = true := decide_eq_true (by omega)
      simp only [q1, q2, Int.toNat_natCast, e4, e5, isStrV, strOfV, cond_true, Bool.and_true, show IntKind.i64.wrap ((i : Int) + 1) = ((i + 1 : Nat) : Int) by rw [IntWalk.i64_in _ ⟨by omega, by omega⟩]; omega]
      have q3 : IntKind.i64.wrap (IntKind.i64.wrap ((a : Int) + 10) + if (c.length : Int) < 9000 then (c.length : Int) else 9000) = ((a + 10 + min 9000 c.length : Nat) : Int) := by
        rw [IntWalk.i64_in ((a : Int) + 10) ⟨by omega, by omega⟩]
        split
        · rw [IntWalk.i64_in _ ⟨by omega, by omega⟩]; omega
        · rw [IntWalk.i64_in _ ⟨by omega, by omega⟩]; omega
      rw [q3]
      refine ⟨⟨⟨k, g, y, l.length, strs l, f, u, ca⟩, a + 10 + min 9000 c.length, i + 1⟩, ?_, lg_fits ⟨k, g, y, l.length, strs l, f, u, ca⟩ _ _, by simp only [lgMu]; omega, fun K hK => ?_⟩
      · unfold lgPre; simp only [Bool.and_eq_true]
        exact ⟨hx1, Nat.ble_eq_true_of_le (show i + 1 ≤ l.length by omega), Nat.ble_eq_true_of_le (show a + 10 + min 9000 c.length ≤ 20000 by omega)⟩
      · have hK := out K hK
        show lgOutG ⟨k, g, y, l.length, strs l, f, u, ca⟩ (lgS (a + 10 + min 9000 c.length) ((strs l).drop (i + 1))) K
        rw [ha, e2]
        rw [hd, lgN, if_pos (by omega)] at hK
        exact hK
    · have h := of_decide_eq_false h
      exact fin (by rw [hd, lgN, if_neg (by omega)])
noncomputable def lk28 : Nat → Trans → Trans := withLoop 58 (loopA 0 (szOf Tryd.prog 10) [1,2,3,4] lgDec lgPre lgV lgJ lgOut) (rounds 9)
theorem lk28_ok : FnLoopsW Tryd.prog 0 lk28 10 := by
  unfold lk28
  exact fnLoopW (fnRoundsW 9 0 10) (by kernel_rfl) fun f st Q h => loopA_ok (P := Tryd.prog) (T := G0') (k := 0) (lim := 9) (n := 10) (g := 10) (p0 := 58) (lk := rounds 9) mixed G0'_ok (roundsW 9 _ _) lgMu lg_roundOk h
noncomputable def G3 : Tab := ⟨noT, noL, addLk (noLks 9) 10 0 lk28⟩
theorem G3_ok : TabOk3 Tryd.prog G3 := ⟨noT_ok, noL_ok, addLk_ok (noLks_ok 9) lk28_ok⟩
theorem lg_tree (k g : List UInt8) (x : Value) (n : Nat) (cs : List V) (f u : Int) (ca : Bool) (R : V → Prop) : runW Tryd.prog G3 9 10 10 [.agg [.str k, .str g, .lst x n cs, .int .i64 f, .int .i64 u, .bool ca]] R =
   (
 Fits 0 [V.ptr 0 0, V.bool false, V.int IntKind.i64 (↑(IntKind.i64.wrap ((if (↑k.length : Int) < 9000 then (↑k.length : Int) else 9000) + if (↑g.length : Int) < 9000 then
 (↑g.length : Int) else 9000)).toNat : Int), V.int IntKind.i64 0] [Blk.row [V.str k, V.str g, V.lst x n cs, V.int IntKind.i64 f, V.int IntKind.i64 u, V.bool ca] 24 6]
 [some (V.ptr 0 0), some (V.bool false), some (V.int IntKind.i64 (IntKind.i64.wrap ((if (↑k.length : Int) < 9000 then (↑k.length : Int) else 9000) + if (↑g.length : Int) <
 9000 then (↑g.length : Int) else 9000))), some (V.int IntKind.i64 0)] [Blk.row [V.str k, V.str g, V.lst x n cs, V.int IntKind.i64 f, V.int IntKind.i64 u, V.bool ca] 24 6]
 ∧ bif lgPre { c := { k := k, g := g, x := x, n := n, cs := cs, f := f, u := u, ca := ca }, a := (IntKind.i64.wrap ((if (↑k.length : Int) < 9000 then (↑k.length : Int) else 9000) + if (↑g.length : Int) < 9000 then (↑g.length : Int) else 9000)).toNat, i := 0 }
 then ∀ (j : Nat), R (V.bool (decide ((↑(lgS (IntKind.i64.wrap ((if (↑k.length : Int) < 9000 then (↑k.length : Int) else 9000) + if (↑g.length : Int) < 9000 then
 (↑g.length : Int) else 9000)).toNat cs) : Int) ≥ 9000))) else False) := by kernel_rfl
theorem closed_sat {P : Program} (hm : P.follows .mixedOrders = true) {g : FuncId} {lim n : Nat} (h : isTrue (E P noTable lim n (.fn g) [] []) = true) : FnSat P g [] [] (Is (.bool true, [])) := by
  obtain ⟨s, hE⟩ := isTrue_spec h
  exact FnSat.flatK rfl ((E_ok hm noTable_ok lim n (.fn g) [] [] _ hE).mono fun u s h => by cases h; rfl)
theorem works_run : isTrue (E Tryd.prog noTable 100000 30 (.fn 9) [] []) = true := by kernel_rfl
theorem works_sat : FnSat Tryd.prog 9 [] [] (Is (.bool true, [])) := closed_sat mixed works_run
def worksF : List V → Option V
  | [] => some (.bool true)
  | _ => none
theorem worksF_ok (args : List V) (v : V) (h : worksF args = some v) : FnSat Tryd.prog 9 args [] (Is (v, [])) := by
  unfold worksF at h
  split at h
  · cases h; exact works_sat
  · cases h
end Go.Proofs.YtakfcajmfgnchaaDoor
