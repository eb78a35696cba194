/- Certificates: which may be, one's bytes: what they come to. -/
import Derived.Test.YthcoeoibejgaiaaDoorCert1
import Derived.Test.YthcoeoibejgaiaaDoorDInts
import Derived.Test.YthcoeoibejgaiaaDoorDBool
import Derived.Test.YthcoeoibejgaiaaDoorDBack
namespace Go.Proofs.YthcoeoibejgaiaaDoor
open Go Go.Vm Go.RowKit
set_option linter.unusedVariables false
set_option maxRecDepth 100000
set_option linter.unusedSectionVars false
variable [Φ : Frz]
noncomputable def D0 : Tab := ⟨addT noT 20 cfP, noL, noLks 9⟩
theorem D0_ok : TabOk3 Tryd.prog D0 := ⟨addT_ok noT_ok cf_ok, noL_ok, noLks_ok 9⟩
theorem cmay_tree (k g : List UInt8) (x : Value) (n : Nat) (cs : List V) (f u : Int) (ca : Bool) (R : V → Prop) : runW Tryd.prog D0 9 10 37 [.agg [.str k, .str g, .lst x n cs, .int .i64 f, .int .i64 u, .bool ca]] R =
  (
 bif decide ((↑k.length : Int) > 0) then bif decide ((↑k.length : Int) ≤ 64) then bif (↑g.length : Int) == 32 then bif decide (f ≥ 0) then bif decide (f ≤ 1099511627776)
 then bif decide (u ≥ 0) then bif decide (u ≤ 1099511627776) then bif okS n cs then R (V.bool !!allP cs) else False else R (V.bool false) else R (V.bool false) else R
 (V.bool false) else R (V.bool false) else R (V.bool false) else R (V.bool false) else R (V.bool false)) := by kernel_rfl
structure CT where
 k : List UInt8
 g : List UInt8
 x : Value
 n : Nat
 cs : List V
 f : Int
 u : Int
 ca : Bool
def CT.cells (c : CT) : List V := [.str c.k, .str c.g, .lst c.x c.n c.cs, .int .i64 c.f, .int .i64 c.u, .bool c.ca]
def CT.v (c : CT) : V := .agg [.str c.k, .str c.g, .lst c.x c.n c.cs, .int .i64 c.f, .int .i64 c.u, .bool c.ca]
def mayC (k g : List UInt8) (f u : Int) : Bool := decide ((k.length : Int) > 0) && (decide ((k.length : Int) ≤ 64) && (((g.length : Int) == 32) && (decide (f ≥ 0) && (decide (f ≤ 1099511627776) && (decide (u ≥ 0) && decide (u ≤ 1099511627776))))))
def mayG : List V → St → Option (List (Bool × (V × St)))
 | [.agg [.str k, .str g, p, .int .i64 f, .int .i64 u, .bool _]], st => match viewS st p with
  | some (b, l) => some [(b && Nat.ble l.length 9223372036854775807, (.bool (mayC k g f u && l.all patN), st))]
  | none => none
 | _, _ => none
theorem cmay_sat (k g : List UInt8) (x : Value) (l : List (List UInt8)) (f u : Int) (ca : Bool) (hl : l.length ≤ 9223372036854775807) : FnSat Tryd.prog 37 [.agg [.str k, .str g, lstS x l, .int .i64 f, .int .i64 u, .bool ca]] [] (Is (.bool (mayC k g f u && l.all patN), [])) := by
 refine pureW_of (lim := 9) (n := 10) mixed D0_ok rfl rfl ?_
 unfold lstS
 rw [cmay_tree, okS_mk hl]
 have ha : allP (strs l) = l.all patN := by unfold allP; rw [strs_strOf]
 rw [ha]
 unfold mayC
 refine bif_intro (fun h => ?_) (fun h => by rw [h]; rfl)
 rw [h]
 refine bif_intro (fun h => ?_) (fun h => by rw [h]; rfl)
 rw [h]
 refine bif_intro (fun h => ?_) (fun h => by rw [h]; rfl)
 rw [h]
 refine bif_intro (fun h => ?_) (fun h => by rw [h]; rfl)
 rw [h]
 refine bif_intro (fun h => ?_) (fun h => by rw [h]; rfl)
 rw [h]
 refine bif_intro (fun h => ?_) (fun h => by rw [h]; rfl)
 rw [h]
 refine bif_intro (fun h => ?_) (fun h => by rw [h]; rfl)
 rw [h]
 simp only [cond_true, Bool.true_and, Bool.not_not]
theorem real_agg6 {m : List MB} {a b c d e f : V} {x : Value} (h : real m (.agg [a, b, c, d, e, f]) = some x) : ∃ a' b' c' d' e' f', x = .agg #[a', b', c', d', e', f'] ∧ real m a = some a' ∧ real m b = some b' ∧ real m c = some c' ∧ real m d = some d' ∧ real m e = some e' ∧ real m f = some f' := by
 obtain ⟨xs, h1, rfl⟩ := real_agg h
 obtain ⟨a', r1, q1, g1, rfl⟩ := realL_cons h1
 obtain ⟨b', r2, q2, g2, rfl⟩ := realL_cons g1
 obtain ⟨c', r3, q3, g3, rfl⟩ := realL_cons g2
 obtain ⟨d', r4, q4, g4, rfl⟩ := realL_cons g3
 obtain ⟨e', r5, q5, g5, rfl⟩ := realL_cons g4
 obtain ⟨f', r6, q6, g6, rfl⟩ := realL_cons g5
 simp only [realL, Option.some.injEq] at g6
 subst g6
 exact ⟨a', b', c', d', e', f', rfl, q1, q2, q3, q4, q5, q6⟩
theorem real_agg_mk {m : List MB} {l : List V} {xs : List Value} (h : realL m l = some xs) : real m (.agg l) = some (.agg xs.toArray) := by simp only [real, h]
theorem cert_frz {B : Nat} {W0 w : World} {m : List MB} {st : St} (hr : Rel B W0 m st w) {k g : List UInt8} {p : V} {l : List (List UInt8)} {f u : Int} {ca : Bool} {x : Value} (hv : viewS st p = some (true, l)) (hx : real m (.agg [.str k, .str g, p, .int .i64 f, .int .i64 u, .bool ca]) = some x) :
  ∃ y, @real gl (Frz.of w) [] (.agg [.str k, .str g, lstS y l, .int .i64 f, .int .i64 u, .bool ca]) = some x := by
 obtain ⟨a', b', c', d', e', f', rfl, q1, q2, q3, q4, q5, q6⟩ := real_agg6 hx
 have h3 := viewS_ok hr hv q3
 refine ⟨c', ?_⟩
 have h1 := real_plain (Ψ := Frz.of w) (m' := []) (.str k) a' rfl q1
 have h2 := real_plain (Ψ := Frz.of w) (m' := []) (.str g) b' rfl q2
 have h4 := real_plain (Ψ := Frz.of w) (m' := []) (.int .i64 f) d' rfl q4
 have h5 := real_plain (Ψ := Frz.of w) (m' := []) (.int .i64 u) e' rfl q5
 have h6 := real_plain (Ψ := Frz.of w) (m' := []) (.bool ca) f' rfl q6
 have mk : ∀ {v : V} {r : List V} {a : Value} {b : List Value}, @real gl (Frz.of w) [] v = some a → @realL gl (Frz.of w) [] r = some b → @realL gl (Frz.of w) [] (v :: r) = some (a :: b) := fun h1 h2 => @realL_mk gl (Frz.of w) [] _ _ _ _ h1 h2
 exact @real_agg_mk (Frz.of w) [] _ [a', b', c', d', e', f'] (mk h1 (mk h2 (mk h3 (mk h4 (mk h5 (mk h6 rfl))))))
theorem mayG_ok (args : List V) (s : St) (l : List (Bool × (V × St))) (o : V × St) (h : mayG args s = some l) (ho : pickO l = some o) : FnSat Tryd.prog 37 args s (Is o) := by
 unfold mayG at h
 split at h
 ·rename_i k g p f u ca
  split at h
  ·rename_i b ls hv
   cases h
   obtain ⟨hb, rfl⟩ := pickO_one ho
   simp only [Bool.and_eq_true] at hb
   obtain ⟨rfl, h1⟩ := hb
   refine frz_sat rfl fun B W0 w m rargs hr ha => ?_
   obtain ⟨a, r, q1, q2, rfl⟩ := realL_cons ha
   simp only [realL, Option.some.injEq] at q2
   subst q2
   obtain ⟨y, hy⟩ := cert_frz hr hv q1
   exact ⟨[.agg [.str k, .str g, lstS y ls, .int .i64 f, .int .i64 u, .bool ca]], by simp only [realL, hy], @cmay_sat (Frz.of w) k g y ls f u ca (Nat.le_of_ble_eq_true h1)⟩
  ·cases h
 ·cases h
noncomputable def D1 : Tab := ⟨noT, addS noL 46 thG, noLks 9⟩
theorem D1_ok : TabOk3 Tryd.prog D1 := ⟨noT_ok, addS_ok noL_ok thG_ok, noLks_ok 9⟩
theorem spki_tree (k : List UInt8) (R : V → Prop) : runW Tryd.prog D1 9 10 27 [.str k] R =
  (
 bif k == [] then R (V.str []) else bif decide ((↑k.length : Int) > 64) then R (V.str []) else bif true && (true && (true && (k.append []).length.ble 1099511627776)) then
 bif true && (true && (true && ((putB 4 (k.append [])).append []).length.ble 1099511627776)) then R (V.str (putB 48 ((putB 4 (k.append [])).append []))) else False else
 False) := by kernel_rfl
def spkiB (k : List UInt8) : List UInt8 := if k = [] then [] else if k.length > 64 then [] else putB 48 (putB 4 k)
def spkiP : List V → Option V
 | [.str k] => some (.str (spkiB k))
 | _ => none
theorem putB_le (t : Int) (x : List UInt8) : (putB t x).length ≤ x.length + 4 := putB_len t x
theorem spki_ok (args : List V) (v : V) (h : spkiP args = some v) : FnSat Tryd.prog 27 args [] (Is (v, [])) := by
 unfold spkiP at h
 split at h
 ·rename_i k
  cases h
  refine pureW_of (lim := 9) (n := 10) mixed D1_ok rfl rfl ?_
  rw [spki_tree]
  unfold spkiB
  refine bif_intro (fun h => ?_) (fun h => ?_)
  ·rw [if_pos (by simpa using h)]
  rw [if_neg (by simpa using h)]
  refine bif_intro (fun h1 => ?_) (fun h1 => ?_)
  ·rw [if_pos (by have := of_decide_eq_true h1; omega)]
  have h1 := of_decide_eq_false h1
  rw [if_neg (by omega)]
  have e1 : k.append [] = k := List.append_nil k
  have e2 : (putB 4 k).append [] = putB 4 k := List.append_nil _
  have := putB_le 4 k
  simp only [e1, e2, Bool.true_and]
  refine must_intro (Nat.ble_eq_true_of_le (by omega)) (must_intro (Nat.ble_eq_true_of_le (by omega)) trivial)
 ·cases h
structure EN where
 c : CT
 i : Nat
end Go.Proofs.YthcoeoibejgaiaaDoor
