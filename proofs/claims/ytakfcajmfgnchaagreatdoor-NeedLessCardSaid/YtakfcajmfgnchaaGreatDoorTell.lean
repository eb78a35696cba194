/- need.Tell: its parts. -/
import Derived.Test.YtakfcajmfgnchaaGreatDoorAdeq
import Derived.Test.YtakfcajmfgnchaaGreatDoorPMatch
import Derived.Test.YtakfcajmfgnchaaGreatDoorVmc
namespace Go.Proofs.YtakfcajmfgnchaaGreatDoor
open Go Go.Vm Go.RowKit
set_option linter.unusedVariables false
set_option maxRecDepth 100000
set_option linter.unusedSectionVars false
theorem row_frz {Φ : Frz} {B : Nat} {W0 w : World} {m : List MB} {st : St} (hr : Rel B W0 m st w) {b : Nat} {cs : List V} {t : TypeId} {sz : Nat} (hb : st[b]? = some (.row cs t sz)) (hv : cs.all leafV = true) {x : Value} (hx : real m (.ptr b 0) = some x) : ∃ y, @real _ (Frz.of w) [] (.lptr y 1 cs 0) = some x := by
 obtain ⟨e, he, hk⟩ := hr.at hb
 obtain ⟨g1, g0, arr, xs, ⟨fz, _, g2⟩, g3, g4, _⟩ := hk
 have h0 : @aE (Frz.of w) cs = some xs := dO hr.more _ _ (leafL_real0 hv g3)
 have hx2 : x = .pointer (some ⟨e.blk, e.off + 0, none⟩) := by
  simp only [real] at hx
  cases h1 : at? m b with
  | none => rw [h1] at hx; cases hx
  | some e' =>
   rw [h1] at hx
   have := bk h1
   rw [he] at this
   cases this
   simpa using hx.symm
 subst hx2
 refine ⟨.slice (some ⟨e.blk, e.off, none⟩) 1 1, @dj _ (Frz.of w) [] e.blk e.off 1 1 0 cs xs arr t fz h0 (by omega) (by omega) g2 (fun i y hy => ?_)⟩
 have h1 : (arr.toList.take xs.length)[i]? = some y := by rw [g4]; exact hy
 have hi : i < xs.length := (List.getElem?_eq_some_iff.1 hy).1
 rw [List.getElem?_take_of_lt hi] at h1
 rw [g0, Nat.zero_add]
 simpa using h1
variable [Φ : Frz]
theorem pl_tree (pl rq : Bool) (h : List UInt8) (mx : Bool) (co : Int) (se : Bool) (x1 : Value) (n1 : Nat) (c1 : List V) (x2 : Value) (n2 : Nat) (c2 : List V) (x3 : Value) (n3 : Nat) (c3 : List V) (ha : Bool) (mo : Int) (x4 : Value) (n4 : Nat) (c4 : List V) (ag : Int) (R : V → Prop) : runW Tryz.prog T3 9 10 30 [.agg [.bool pl, .bool rq, .str h, .bool mx, .int .u8 co, .bool se, .lst x1 n1 c1, .lst x2 n2 c2, .lst x3 n3 c3, .bool ha, .int .u8 mo, .lst x4 n4 c4, .int .i64 ag]] R =
  (
 bif pl then R (V.bool !rq) else R (V.bool false)) := by kernel_rfl
theorem sy_tree (pl rq : Bool) (h : List UInt8) (mx : Bool) (co : Int) (se : Bool) (x1 : Value) (n1 : Nat) (c1 : List V) (x2 : Value) (n2 : Nat) (c2 : List V) (x3 : Value) (n3 : Nat) (c3 : List V) (ha : Bool) (mo : Int) (x4 : Value) (n4 : Nat) (c4 : List V) (ag : Int) (R : V → Prop) : runW Tryz.prog T3 9 10 33 [.agg [.bool pl, .bool rq, .str h, .bool mx, .int .u8 co, .bool se, .lst x1 n1 c1, .lst x2 n2 c2, .lst x3 n3 c3, .bool ha, .int .u8 mo, .lst x4 n4 c4, .int .i64 ag]] R =
  (
 bif ha then bif mo == 3 then R (V.bool true) else R (V.bool (mo == 2)) else R (V.bool false)) := by kernel_rfl
def plT : List V → Option V
 | [.agg [.bool pl, .bool rq, .str _, .bool _, .int .u8 _, .bool _, .lst _ _ _, .lst _ _ _, .lst _ _ _, .bool _, .int .u8 _, .lst _ _ _, .int .i64 _]] => some (.bool (pl && !rq))
 | _ => none
def syB (ha : Bool) (mo : Int) : Bool := ha && (mo == 3 || mo == 2)
def syT : List V → Option V
 | [.agg [.bool _, .bool _, .str _, .bool _, .int .u8 _, .bool _, .lst _ _ _, .lst _ _ _, .lst _ _ _, .bool ha, .int .u8 mo, .lst _ _ _, .int .i64 _]] => some (.bool (syB ha mo))
 | _ => none
theorem pl_ok (args : List V) (v : V) (h : plT args = some v) : FnSat Tryz.prog 30 args [] (Is (v, [])) := by
 unfold plT at h
 split at h
 ·cases h
  refine az (lim := 9) (n := 10) ay T3_ok rfl rfl ?_
  rename_i pl rq h mx co se x1 n1 c1 x2 n2 c2 x3 n3 c3 ha mo x4 n4 c4 ag
  rw [pl_tree]
  cases pl <;> cases rq <;> rfl
 ·cases h
theorem sy_ok (args : List V) (v : V) (h : syT args = some v) : FnSat Tryz.prog 33 args [] (Is (v, [])) := by
 unfold syT at h
 split at h
 ·cases h
  refine az (lim := 9) (n := 10) ay T3_ok rfl rfl ?_
  rename_i pl rq h mx co se x1 n1 c1 x2 n2 c2 x3 n3 c3 ha mo x4 n4 c4 ag
  rw [sy_tree]
  unfold syB
  cases ha <;> cases mo == 3 <;> rfl
 ·cases h
noncomputable def EF : Tab := ⟨addP noT 30 plT, noL, aR 9⟩
theorem EF_ok : TabOk3 Tryz.prog EF := ⟨aP aC pl_ok, aD, am 9⟩
theorem ef_tree (pl rq : Bool) (h : List UInt8) (mx : Bool) (co : Int) (se : Bool) (x1 : Value) (n1 : Nat) (c1 : List V) (x2 : Value) (n2 : Nat) (c2 : List V) (x3 : Value) (n3 : Nat) (c3 : List V) (ha : Bool) (mo : Int) (x4 : Value) (n4 : Nat) (c4 : List V) (ag : Int) (R : V → Prop) : runW Tryz.prog EF 9 10 36 [.agg [.bool pl, .bool rq, .str h, .bool mx, .int .u8 co, .bool se, .lst x1 n1 c1, .lst x2 n2 c2, .lst x3 n3 c3, .bool ha, .int .u8 mo, .lst x4 n4 c4, .int .i64 ag]] R =
  (
 bif !(pl && !rq) then bif ha then R (V.bool (mo == 3)) else R (V.bool false) else R (V.bool false)) := by kernel_rfl
def efB (pl rq ha : Bool) (mo : Int) : Bool := !(pl && !rq) && (ha && mo == 3)
def efT : List V → Option V
 | [.agg [.bool pl, .bool rq, .str _, .bool _, .int .u8 _, .bool _, .lst _ _ _, .lst _ _ _, .lst _ _ _, .bool ha, .int .u8 mo, .lst _ _ _, .int .i64 _]] => some (.bool (efB pl rq ha mo))
 | _ => none
theorem ef_ok (args : List V) (v : V) (h : efT args = some v) : FnSat Tryz.prog 36 args [] (Is (v, [])) := by
 unfold efT at h
 split at h
 ·cases h
  refine az (lim := 9) (n := 10) ay EF_ok rfl rfl ?_
  rename_i pl rq h mx co se x1 n1 c1 x2 n2 c2 x3 n3 c3 ha mo x4 n4 c4 ag
  rw [ef_tree]
  unfold efB
  cases pl <;> cases rq <;> cases ha <;> rfl
 ·cases h
noncomputable def KN : Tab := ⟨addT (addP (addP noT 30 plT) 33 syT) 34 polT, noL, aR 9⟩
theorem KN_ok : TabOk3 Tryz.prog KN := ⟨ba (aP (aP aC pl_ok) sy_ok) polT_ok, aD, am 9⟩
theorem kn_tree (pl rq : Bool) (h : List UInt8) (mx : Bool) (co : Int) (se : Bool) (x1 : Value) (n1 : Nat) (c1 : List V) (x2 : Value) (n2 : Nat) (c2 : List V) (x3 : Value) (n3 : Nat) (c3 : List V) (ha : Bool) (mo : Int) (x4 : Value) (n4 : Nat) (c4 : List V) (ag : Int) (z : Value) (R : V → Prop) : runW Tryz.prog KN 9 10 32 [.lptr z 1 [.bool pl, .bool rq, .str h, .bool mx, .int .u8 co, .bool se, .lst x1 n1 c1, .lst x2 n2 c2, .lst x3 n3 c3, .bool ha, .int .u8 mo, .lst x4 n4 c4, .int .i64 ag] 0] R =
  (
 bif mx then R (V.bool true) else bif syB ha mo then bif okS n4 c4 then R (V.bool (polM (List.map aa c4) h)) else False else R (V.bool false)) := by kernel_rfl
theorem kd_tree (pl rq : Bool) (h : List UInt8) (mx : Bool) (co : Int) (se : Bool) (x1 : Value) (n1 : Nat) (c1 : List V) (x2 : Value) (n2 : Nat) (c2 : List V) (x3 : Value) (n3 : Nat) (c3 : List V) (ha : Bool) (mo : Int) (x4 : Value) (n4 : Nat) (c4 : List V) (ag : Int) (z : Value) (sec : Bool) (z2 : Value) (R : V → Prop) : runW Tryz.prog KN 9 10 35 [.lptr z 1 [.bool pl, .bool rq, .str h, .bool mx, .int .u8 co, .bool se, .lst x1 n1 c1, .lst x2 n2 c2, .lst x3 n3 c3, .bool ha, .int .u8 mo, .lst x4 n4 c4, .int .i64 ag] 0, .lptr z2 1 [.bool sec] 0] R =
  (
 bif pl && !rq then R (V.int IntKind.u8 0) else bif sec then R (V.int IntKind.u8 1) else bif syB ha mo then R (V.int IntKind.u8 2) else R (V.int IntKind.u8 3)) := by kernel_rfl
def knB (mx ha : Bool) (mo : Int) (c4 : List V) (h : List UInt8) : Bool := mx || (syB ha mo && polM (c4.map aa) h)
def kdI (pl rq sec ha : Bool) (mo : Int) : Int := bif pl && !rq then 0 else bif sec then 1 else bif syB ha mo then 2 else 3
def knG : List V → St → Option (List (Bool × (V × St)))
 | [.ptr b 0], st => match st[b]? with
  | some (.row [.bool pl, .bool rq, .str h, .bool mx, .int .u8 co, .bool se, .lst x1 n1 c1, .lst x2 n2 c2, .lst x3 n3 c3, .bool ha, .int .u8 mo, .lst x4 n4 c4, .int .i64 ag] _ _) => some [(okS n4 c4, (.bool (knB mx ha mo c4 h), st))]
  | _ => none
 | _, _ => none
theorem knG_ok (args : List V) (s : St) (L : List (Bool × (V × St))) (o : V × St) (h : knG args s = some L) (ho : aF L = some o) : FnSat Tryz.prog 32 args s (Is o) := by
 unfold knG at h
 split at h
 ·rename_i b
  split at h
  ·rename_i pl rq hh mx co se x1 n1 c1 x2 n2 c2 x3 n3 c3 ha mo x4 n4 c4 ag t sz hb
   cases h
   obtain ⟨hk, rfl⟩ := aX ho
   refine cO rfl fun B W0 w m rargs hr hargs => ?_
   obtain ⟨a, r, q1, q2, rfl⟩ := af hargs
   simp only [ah, Option.some.injEq] at q2
   subst q2
   obtain ⟨z, hz⟩ := row_frz hr hb rfl q1
   refine ⟨[.lptr z 1 [.bool pl, .bool rq, .str hh, .bool mx, .int .u8 co, .bool se, .lst x1 n1 c1, .lst x2 n2 c2, .lst x3 n3 c3, .bool ha, .int .u8 mo, .lst x4 n4 c4, .int .i64 ag] 0], @au _ (Frz.of w) [] _ _ _ _ hz rfl, ?_⟩
   refine az (Φ := Frz.of w) (lim := 9) (n := 10) ay (@KN_ok (Frz.of w)) rfl rfl ?_
   rw [@kn_tree (Frz.of w), hk]
   unfold knB
   cases mx <;> cases syB ha mo <;> rfl
  ·cases h
 ·cases h
def kdG : List V → St → Option (List (Bool × (V × St)))
 | [.ptr b 0, .ptr b2 0], st => match st[b]?, st[b2]? with
  | some (.row [.bool pl, .bool rq, .str h, .bool mx, .int .u8 co, .bool se, .lst x1 n1 c1, .lst x2 n2 c2, .lst x3 n3 c3, .bool ha, .int .u8 mo, .lst x4 n4 c4, .int .i64 ag] _ _), some (.row [.bool sec] _ _) => some [(true, (.int .u8 (kdI pl rq sec ha mo), st))]
  | _, _ => none
 | _, _ => none
theorem kdG_ok (args : List V) (s : St) (L : List (Bool × (V × St))) (o : V × St) (h : kdG args s = some L) (ho : aF L = some o) : FnSat Tryz.prog 35 args s (Is o) := by
 unfold kdG at h
 split at h
 ·rename_i b b2
  split at h
  ·rename_i pl rq hh mx co se x1 n1 c1 x2 n2 c2 x3 n3 c3 ha mo x4 n4 c4 ag t sz sec t2 sz2 hb hb2
   cases h
   obtain ⟨hk, rfl⟩ := aX ho
   refine cO rfl fun B W0 w m rargs hr hargs => ?_
   obtain ⟨a, r, q1, q2, rfl⟩ := af hargs
   obtain ⟨a2, r2, q3, q4, rfl⟩ := af q2
   simp only [ah, Option.some.injEq] at q4
   subst q4
   obtain ⟨z, hz⟩ := row_frz hr hb rfl q1
   obtain ⟨z2, hz2⟩ := row_frz hr hb2 rfl q3
   refine ⟨[.lptr z 1 [.bool pl, .bool rq, .str hh, .bool mx, .int .u8 co, .bool se, .lst x1 n1 c1, .lst x2 n2 c2, .lst x3 n3 c3, .bool ha, .int .u8 mo, .lst x4 n4 c4, .int .i64 ag] 0, .lptr z2 1 [.bool sec] 0], @au _ (Frz.of w) [] _ _ _ _ hz (@au _ (Frz.of w) [] _ _ _ _ hz2 rfl), ?_⟩
   refine az (Φ := Frz.of w) (lim := 9) (n := 10) ay (@KN_ok (Frz.of w)) rfl rfl ?_
   rw [@kd_tree (Frz.of w)]
   unfold kdI
   cases (pl && !rq) <;> cases sec <;> cases syB ha mo <;> rfl
  ·cases h
 ·cases h
def clOK (p : V) (st : St) : Bool := match cb st p with
 | some (b, l) => b && Nat.ble l.length 4
 | none => false
def clL (p : V) (st : St) : List TL := match cb st p with
 | some (_, l) => l
 | none => []
def clN (p : V) (st : St) : Nat := (clL p st).length
def clC (p : V) (st : St) : List V := tls (clL p st)
def cloneGV (OK : V → St → Bool) (NV : V → St → Nat) (CV : V → St → List V) : List V → St → Option (List (Bool × (V × St)))
 | [.slice b off n ex c z], st => some [(OK (.slice b off n ex c z) st, (.slice st.length 0 (NV (.slice b off n ex c z) st) false 0 0, st ++ [.row (CV (.slice b off n ex c z) st) 51 4]))]
 | _, _ => none
theorem tls_plain : ∀ l : List TL, cz (tls l) = true
 | [] => rfl
 | r :: l => by simp only [tls, cz, V.plain, tls_plain l, Bool.and_self]
theorem clone_sat (a : Value) (l : List TL) (hn : nilX a = false) (h1 : l.length ≤ 4) : FnSat Tryz.prog 31 [lstT a l] [] (Is (.slice 0 0 l.length false 0 0, [.row (tls l) 51 4])) := by
 refine FnSat.fits (dH ay T3_ok ?_ (lim := 9) (n := 10))
 unfold lstT
 rw [clone_tree, hn, cond_false]
 refine ac (fun e => ?_) (fun _ => ?_)
 ·have := List.eq_nil_of_length_eq_zero (Nat.eq_of_beq_eq_true e)
  subst this
  exact dY rfl rfl
 ·refine ad (by rw [dV, Nat.mul_comm, Nat.beq_refl, oneT]; rfl) (ad (by rw [Bool.and_eq_true]; exact ⟨Nat.ble_eq_true_of_le (by omega), Nat.ble_eq_true_of_le (by omega)⟩) ?_)
  rw [Nat.zero_add]
  exact dY (tls_flat l) rfl
theorem cloneGV_ok (args : List V) (s : St) (L : List (Bool × (V × St))) (o : V × St) (h : cloneGV clOK clN clC args s = some L) (ho : aF L = some o) : FnSat Tryz.prog 31 args s (Is o) := by
 unfold cloneGV at h
 split at h
 ·rename_i b off n ex c z
  cases h
  obtain ⟨hk, rfl⟩ := aX ho
  unfold clOK at hk
  unfold clN clC clL
  cases hv : cb s (.slice b off n ex c z) with
  | none => rw [hv] at hk; cases hk
  | some a =>
  obtain ⟨k, l⟩ := a
  rw [hv] at hk
  simp only [Bool.and_eq_true] at hk
  obtain ⟨rfl, h1⟩ := hk
  have h1 : l.length ≤ 4 := Nat.le_of_ble_eq_true h1
  show FnSat _ _ _ _ (Is (.slice s.length 0 l.length false 0 0, s ++ [.row (tls l) 51 4]))
  refine frz_row (tls_plain l) fun B W0 w m rargs hr ha => ?_
  obtain ⟨a, r, q1, q2, rfl⟩ := af ha
  have e1 := viewT_ok hr hv q1
  have hn : nilX a = false := by
   obtain ⟨e, cap, _, _, _, rfl⟩ := bn q1
   rfl
  refine ⟨[lstT a l], @au _ (Frz.of w) [] _ _ _ _ e1 (bm _ _ rfl q2), @clone_sat (Frz.of w) a l hn h1⟩
 ·cases h
noncomputable def TLT (OK : V → St → Bool) (NV : V → St → Nat) (CV : V → St → List V) : Tab := ⟨addT (addP (addP (addP noT 30 plT) 33 syT) 36 efT) 22 usaT, addS (addS (addS noL 32 knG) 35 kdG) 31 (cloneGV OK NV CV), aR 9⟩
theorem TLT_ok : TabOk3 Tryz.prog (TLT clOK clN clC) := ⟨ba (aP (aP (aP aC pl_ok) sy_ok) ef_ok) usa_ok, bL (bL (bL aD knG_ok) kdG_ok) cloneGV_ok, am 9⟩
def blkOf (v : V) (st : St) : Option Blk := match v with
 | .tuple [.agg [_, .slice b _ _ _ _ _, _, _, _], _] => st[b]?
 | _ => none
def aY (pl rq : Bool) (h : List UInt8) (mx : Bool) (co : Int) (se : Bool) (x1 : Value) (n1 : Nat) (c1 : List V) (x2 : Value) (n2 : Nat) (c2 : List V) (x3 : Value) (n3 : Nat) (c3 : List V) (ha : Bool) (mo : Int) (x4 : Value) (n4 : Nat) (c4 : List V) (ag : Int) : Blk := .row [.bool pl, .bool rq, .str h, .bool mx, .int .u8 co, .bool se, .lst x1 n1 c1, .lst x2 n2 c2, .lst x3 n3 c3, .bool ha, .int .u8 mo, .lst x4 n4 c4, .int .i64 ag] 30 13
theorem tell_tree (OK : V → St → Bool) (NV : V → St → Nat) (CV : V → St → List V) (pl rq : Bool) (h : List UInt8) (mx : Bool) (co : Int) (se : Bool) (x1 : Value) (n1 : Nat) (c1 : List V) (x2 : Value) (n2 : Nat) (c2 : List V) (x3 : Value) (n3 : Nat) (c3 : List V) (ha : Bool) (mo : Int) (x4 : Value) (n4 : Nat) (c4 : List V) (ag : Int) (R : V → Option Blk → Prop) : runM Tryz.prog (TLT OK NV CV) 9 10 12 [.agg [.bool pl, .bool rq, .str h, .bool mx, .int .u8 co, .bool se, .lst x1 n1 c1, .lst x2 n2 c2, .lst x3 n3 c3, .bool ha, .int .u8 mo, .lst x4 n4 c4, .int .i64 ag]] (fun v st => R v (blkOf v st)) =
  (
 bif !(pl && !rq) then bif co == 1 then bif se then bif decide ((↑n3 : Int) > 0) then bif okT n3 c3 && nilX (dX x3 0 (k4 n3) 4) then bif rq then bif okS n4 c4 then bif
 !knB mx ha mo c4 h then R (V.tuple [V.agg [V.str [], V.nilSlice, V.bool false, V.bool false, V.int IntKind.u8 0], V.bool false]) none else bif rq then bif decide ((↑n3 :
 Int) > 0) then R (V.tuple [V.agg [V.str h, V.nilSlice, V.bool true, V.bool true, V.int IntKind.u8 (kdI pl rq (decide ((↑n3 : Int) > 0)) ha mo)], V.bool true]) none else R
 (V.tuple [V.agg [V.str h, V.nilSlice, V.bool true, V.bool true, V.int IntKind.u8 (kdI pl rq (decide ((↑n3 : Int) > 0)) ha mo)], V.bool true]) none else bif decide ((↑n3 :
 Int) > 0) then R (V.tuple [V.agg [V.str h, V.nilSlice, V.bool (efB pl rq ha mo), V.bool true, V.int IntKind.u8 (kdI pl rq (decide ((↑n3 : Int) > 0)) ha mo)], V.bool
 true]) none else R (V.tuple [V.agg [V.str h, V.nilSlice, V.bool (efB pl rq ha mo), V.bool (efB pl rq ha mo), V.int IntKind.u8 (kdI pl rq (decide ((↑n3 : Int) > 0)) ha
 mo)], V.bool true]) none else False else bif rq then bif decide ((↑n3 : Int) > 0) then R (V.tuple [V.agg [V.str h, V.nilSlice, V.bool true, V.bool true, V.int IntKind.u8
 (kdI pl rq (decide ((↑n3 : Int) > 0)) ha mo)], V.bool true]) none else R (V.tuple [V.agg [V.str h, V.nilSlice, V.bool true, V.bool true, V.int IntKind.u8 (kdI pl rq
 (decide ((↑n3 : Int) > 0)) ha mo)], V.bool true]) none else bif decide ((↑n3 : Int) > 0) then R (V.tuple [V.agg [V.str h, V.nilSlice, V.bool (efB pl rq ha mo), V.bool
 true, V.int IntKind.u8 (kdI pl rq (decide ((↑n3 : Int) > 0)) ha mo)], V.bool true]) none else R (V.tuple [V.agg [V.str h, V.nilSlice, V.bool (efB pl rq ha mo), V.bool
 (efB pl rq ha mo), V.int IntKind.u8 (kdI pl rq (decide ((↑n3 : Int) > 0)) ha mo)], V.bool true]) none else bif okT n3 c3 then bif OK (V.slice 4 0 (aj (usaL c3)).length
 false 0 0) [aY pl rq h mx co se x1 n1 c1 x2 n2 c2 x3 n3 c3 ha mo x4 n4 c4 ag, Blk.row [V.str [], V.nilSlice, V.bool false, V.bool false, V.int IntKind.u8 0] 38 5,
 Blk.row [V.bool (decide ((↑n3 : Int) > 0))] 4 1, Blk.row [V.str h, V.nilSlice, V.bool false, V.bool false, V.int IntKind.u8 0] 38 5, Blk.row (ab 4 (tls (aj (usaL
 c3)) ++ aI (usaL c3))) 51 4] then bif rq then bif !decide ((↑(NV (V.slice 4 0 (aj (usaL c3)).length false 0 0) [aY pl rq h mx co se x1 n1 c1 x2 n2 c2 x3 n3 c3
 ha mo x4 n4 c4 ag, Blk.row [V.str [], V.nilSlice, V.bool false, V.bool false, V.int IntKind.u8 0] 38 5, Blk.row [V.bool (decide ((↑n3 : Int) > 0))] 4 1, Blk.row [V.str h,
 V.nilSlice, V.bool false, V.bool false, V.int IntKind.u8 0] 38 5, Blk.row (ab 4 (tls (aj (usaL c3)) ++ aI (usaL c3))) 51 4]) : Int) > 0) then bif okS n4 c4
 then bif !knB mx ha mo c4 h then R (V.tuple [V.agg [V.str [], V.nilSlice, V.bool false, V.bool false, V.int IntKind.u8 0], V.bool false]) none else bif !decide ((↑(NV
 (V.slice 4 0 (aj (usaL c3)).length false 0 0) [aY pl rq h mx co se x1 n1 c1 x2 n2 c2 x3 n3 c3 ha mo x4 n4 c4 ag, Blk.row [V.str [], V.nilSlice, V.bool false,
 V.bool false, V.int IntKind.u8 0] 38 5, Blk.row [V.bool (decide ((↑n3 : Int) > 0))] 4 1, Blk.row [V.str h, V.nilSlice, V.bool false, V.bool false, V.int IntKind.u8 0] 38
 5, Blk.row (ab 4 (tls (aj (usaL c3)) ++ aI (usaL c3))) 51 4]) : Int) > 0) then bif rq then bif decide ((↑n3 : Int) > 0) then R (V.tuple [V.agg [V.str h,
 V.slice 5 0 (NV (V.slice 4 0 (aj (usaL c3)).length false 0 0) [aY pl rq h mx co se x1 n1 c1 x2 n2 c2 x3 n3 c3 ha mo x4 n4 c4 ag, Blk.row [V.str [], V.nilSlice,
 V.bool false, V.bool false, V.int IntKind.u8 0] 38 5, Blk.row [V.bool (decide ((↑n3 : Int) > 0))] 4 1, Blk.row [V.str h, V.nilSlice, V.bool false, V.bool false, V.int
 IntKind.u8 0] 38 5, Blk.row (ab 4 (tls (aj (usaL c3)) ++ aI (usaL c3))) 51 4]) false 0 0, V.bool true, V.bool true, V.int IntKind.u8 (kdI pl rq (decide ((↑n3 :
 Int) > 0)) ha mo)], V.bool true]) (some (Blk.row (CV (V.slice 4 0 (aj (usaL c3)).length false 0 0) [aY pl rq h mx co se x1 n1 c1 x2 n2 c2 x3 n3 c3 ha mo x4 n4 c4
 ag, Blk.row [V.str [], V.nilSlice, V.bool false, V.bool false, V.int IntKind.u8 0] 38 5, Blk.row [V.bool (decide ((↑n3 : Int) > 0))] 4 1, Blk.row [V.str h, V.nilSlice,
 V.bool false, V.bool false, V.int IntKind.u8 0] 38 5, Blk.row (ab 4 (tls (aj (usaL c3)) ++ aI (usaL c3))) 51 4]) 51 4)) else R (V.tuple [V.agg [V.str h,
 V.slice 5 0 (NV (V.slice 4 0 (aj (usaL c3)).length false 0 0) [aY pl rq h mx co se x1 n1 c1 x2 n2 c2 x3 n3 c3 ha mo x4 n4 c4 ag, Blk.row [V.str [], V.nilSlice,
 V.bool false, V.bool false, V.int IntKind.u8 0] 38 5, Blk.row [V.bool (decide ((↑n3 : Int) > 0))] 4 1, Blk.row [V.str h, V.nilSlice, V.bool false, V.bool false, V.int
 IntKind.u8 0] 38 5, Blk.row (ab 4 (tls (aj (usaL c3)) ++ aI (usaL c3))) 51 4]) false 0 0, V.bool true, V.bool true, V.int IntKind.u8 (kdI pl rq (decide ((↑n3 :
 Int) > 0)) ha mo)], V.bool true]) (some (Blk.row (CV (V.slice 4 0 (aj (usaL c3)).length false 0 0) [aY pl rq h mx co se x1 n1 c1 x2 n2 c2 x3 n3 c3 ha mo x4 n4 c4
 ag, Blk.row [V.str [], V.nilSlice, V.bool false, V.bool false, V.int IntKind.u8 0] 38 5, Blk.row [V.bool (decide ((↑n3 : Int) > 0))] 4 1, Blk.row [V.str h, V.nilSlice,
 V.bool false, V.bool false, V.int IntKind.u8 0] 38 5, Blk.row (ab 4 (tls (aj (usaL c3)) ++ aI (usaL c3))) 51 4]) 51 4)) else bif decide ((↑n3 : Int) > 0) then
 R (V.tuple [V.agg [V.str h, V.slice 5 0 (NV (V.slice 4 0 (aj (usaL c3)).length false 0 0) [aY pl rq h mx co se x1 n1 c1 x2 n2 c2 x3 n3 c3 ha mo x4 n4 c4 ag,
 Blk.row [V.str [], V.nilSlice, V.bool false, V.bool false, V.int IntKind.u8 0] 38 5, Blk.row [V.bool (decide ((↑n3 : Int) > 0))] 4 1, Blk.row [V.str h, V.nilSlice, V.bool
 false, V.bool false, V.int IntKind.u8 0] 38 5, Blk.row (ab 4 (tls (aj (usaL c3)) ++ aI (usaL c3))) 51 4]) false 0 0, V.bool (efB pl rq ha mo), V.bool true,
 V.int IntKind.u8 (kdI pl rq (decide ((↑n3 : Int) > 0)) ha mo)], V.bool true]) (some (Blk.row (CV (V.slice 4 0 (aj (usaL c3)).length false 0 0) [aY pl rq h mx co se
 x1 n1 c1 x2 n2 c2 x3 n3 c3 ha mo x4 n4 c4 ag, Blk.row [V.str [], V.nilSlice, V.bool false, V.bool false, V.int IntKind.u8 0] 38 5, Blk.row [V.bool (decide ((↑n3 : Int) >
 0))] 4 1, Blk.row [V.str h, V.nilSlice, V.bool false, V.bool false, V.int IntKind.u8 0] 38 5, Blk.row (ab 4 (tls (aj (usaL c3)) ++ aI (usaL c3))) 51 4]) 51 4))
 else R (V.tuple [V.agg [V.str h, V.slice 5 0 (NV (V.slice 4 0 (aj (usaL c3)).length false 0 0) [aY pl rq h mx co se x1 n1 c1 x2 n2 c2 x3 n3 c3 ha mo x4 n4 c4 ag,
 Blk.row [V.str [], V.nilSlice, V.bool false, V.bool false, V.int IntKind.u8 0] 38 5, Blk.row [V.bool (decide ((↑n3 : Int) > 0))] 4 1, Blk.row [V.str h, V.nilSlice, V.bool
 false, V.bool false, V.int IntKind.u8 0] 38 5, Blk.row (ab 4 (tls (aj (usaL c3)) ++ aI (usaL c3))) 51 4]) false 0 0, V.bool (efB pl rq ha mo), V.bool (efB pl
 rq ha mo), V.int IntKind.u8 (kdI pl rq (decide ((↑n3 : Int) > 0)) ha mo)], V.bool true]) (some (Blk.row (CV (V.slice 4 0 (aj (usaL c3)).length false 0 0) [aY pl rq
 h mx co se x1 n1 c1 x2 n2 c2 x3 n3 c3 ha mo x4 n4 c4 ag, Blk.row [V.str [], V.nilSlice, V.bool false, V.bool false, V.int IntKind.u8 0] 38 5, Blk.row [V.bool (decide
 ((↑n3 : Int) > 0))] 4 1, Blk.row [V.str h, V.nilSlice, V.bool false, V.bool false, V.int IntKind.u8 0] 38 5, Blk.row (ab 4 (tls (aj (usaL c3)) ++ aI (usaL
 c3))) 51 4]) 51 4)) else bif decide ((↑n3 : Int) > 0) then R (V.tuple [V.agg [V.str h, V.slice 5 0 (NV (V.slice 4 0 (aj (usaL c3)).length false 0 0) [aY pl rq h mx
 co se x1 n1 c1 x2 n2 c2 x3 n3 c3 ha mo x4 n4 c4 ag, Blk.row [V.str [], V.nilSlice, V.bool false, V.bool false, V.int IntKind.u8 0] 38 5, Blk.row [V.bool (decide ((↑n3 :
 Int) > 0))] 4 1, Blk.row [V.str h, V.nilSlice, V.bool false, V.bool false, V.int IntKind.u8 0] 38 5, Blk.row (ab 4 (tls (aj (usaL c3)) ++ aI (usaL c3))) 51 4])
 false 0 0, V.bool false, V.bool true, V.int IntKind.u8 (kdI pl rq (decide ((↑n3 : Int) > 0)) ha mo)], V.bool true]) (some (Blk.row (CV (V.slice 4 0 (aj (usaL
 c3)).length false 0 0) [aY pl rq h mx co se x1 n1 c1 x2 n2 c2 x3 n3 c3 ha mo x4 n4 c4 ag, Blk.row [V.str [], V.nilSlice, V.bool false, V.bool false, V.int IntKind.u8
 0] 38 5, Blk.row [V.bool (decide ((↑n3 : Int) > 0))] 4 1, Blk.row [V.str h, V.nilSlice, V.bool false, V.bool false, V.int IntKind.u8 0] 38 5, Blk.row (ab 4 (tls
 (aj (usaL c3)) ++ aI (usaL c3))) 51 4]) 51 4)) else R (V.tuple [V.agg [V.str h, V.slice 5 0 (NV (V.slice 4 0 (aj (usaL c3)).length false 0 0) [aY pl rq h mx
 co se x1 n1 c1 x2 n2 c2 x3 n3 c3 ha mo x4 n4 c4 ag, Blk.row [V.str [], V.nilSlice, V.bool false, V.bool false, V.int IntKind.u8 0] 38 5, Blk.row [V.bool (decide ((↑n3 :
 Int) > 0))] 4 1, Blk.row [V.str h, V.nilSlice, V.bool false, V.bool false, V.int IntKind.u8 0] 38 5, Blk.row (ab 4 (tls (aj (usaL c3)) ++ aI (usaL c3))) 51 4])
 false 0 0, V.bool false, V.bool false, V.int IntKind.u8 (kdI pl rq (decide ((↑n3 : Int) > 0)) ha mo)], V.bool true]) (some (Blk.row (CV (V.slice 4 0 (aj (usaL
 c3)).length false 0 0) [aY pl rq h mx co se x1 n1 c1 x2 n2 c2 x3 n3 c3 ha mo x4 n4 c4 ag, Blk.row [V.str [], V.nilSlice, V.bool false, V.bool false, V.int IntKind.u8
 0] 38 5, Blk.row [V.bool (decide ((↑n3 : Int) > 0))] 4 1, Blk.row [V.str h, V.nilSlice, V.bool false, V.bool false, V.int IntKind.u8 0] 38 5, Blk.row (ab 4 (tls
 (aj (usaL c3)) ++ aI (usaL c3))) 51 4]) 51 4)) else False else bif !decide ((↑(NV (V.slice 4 0 (aj (usaL c3)).length false 0 0) [aY pl rq h mx co se x1 n1
 c1 x2 n2 c2 x3 n3 c3 ha mo x4 n4 c4 ag, Blk.row [V.str [], V.nilSlice, V.bool false, V.bool false, V.int IntKind.u8 0] 38 5, Blk.row [V.bool (decide ((↑n3 : Int) > 0))] 4
 1, Blk.row [V.str h, V.nilSlice, V.bool false, V.bool false, V.int IntKind.u8 0] 38 5, Blk.row (ab 4 (tls (aj (usaL c3)) ++ aI (usaL c3))) 51 4]) : Int) > 0)
 then bif rq then bif decide ((↑n3 : Int) > 0) then R (V.tuple [V.agg [V.str h, V.slice 5 0 (NV (V.slice 4 0 (aj (usaL c3)).length false 0 0) [aY pl rq h mx co se
 x1 n1 c1 x2 n2 c2 x3 n3 c3 ha mo x4 n4 c4 ag, Blk.row [V.str [], V.nilSlice, V.bool false, V.bool false, V.int IntKind.u8 0] 38 5, Blk.row [V.bool (decide ((↑n3 : Int) >
 0))] 4 1, Blk.row [V.str h, V.nilSlice, V.bool false, V.bool false, V.int IntKind.u8 0] 38 5, Blk.row (ab 4 (tls (aj (usaL c3)) ++ aI (usaL c3))) 51 4]) false
 0 0, V.bool true, V.bool true, V.int IntKind.u8 (kdI pl rq (decide ((↑n3 : Int) > 0)) ha mo)], V.bool true]) (some (Blk.row (CV (V.slice 4 0 (aj (usaL c3)).length
 false 0 0) [aY pl rq h mx co se x1 n1 c1 x2 n2 c2 x3 n3 c3 ha mo x4 n4 c4 ag, Blk.row [V.str [], V.nilSlice, V.bool false, V.bool false, V.int IntKind.u8 0] 38 5,
 Blk.row [V.bool (decide ((↑n3 : Int) > 0))] 4 1, Blk.row [V.str h, V.nilSlice, V.bool false, V.bool false, V.int IntKind.u8 0] 38 5, Blk.row (ab 4 (tls (aj (usaL
 c3)) ++ aI (usaL c3))) 51 4]) 51 4)) else R (V.tuple [V.agg [V.str h, V.slice 5 0 (NV (V.slice 4 0 (aj (usaL c3)).length false 0 0) [aY pl rq h mx co se x1 n1
 c1 x2 n2 c2 x3 n3 c3 ha mo x4 n4 c4 ag, Blk.row [V.str [], V.nilSlice, V.bool false, V.bool false, V.int IntKind.u8 0] 38 5, Blk.row [V.bool (decide ((↑n3 : Int) > 0))] 4
 1, Blk.row [V.str h, V.nilSlice, V.bool false, V.bool false, V.int IntKind.u8 0] 38 5, Blk.row (ab 4 (tls (aj (usaL c3)) ++ aI (usaL c3))) 51 4]) false 0 0,
 V.bool true, V.bool true, V.int IntKind.u8 (kdI pl rq (decide ((↑n3 : Int) > 0)) ha mo)], V.bool true]) (some (Blk.row (CV (V.slice 4 0 (aj (usaL c3)).length false 0
 0) [aY pl rq h mx co se x1 n1 c1 x2 n2 c2 x3 n3 c3 ha mo x4 n4 c4 ag, Blk.row [V.str [], V.nilSlice, V.bool false, V.bool false, V.int IntKind.u8 0] 38 5, Blk.row
 [V.bool (decide ((↑n3 : Int) > 0))] 4 1, Blk.row [V.str h, V.nilSlice, V.bool false, V.bool false, V.int IntKind.u8 0] 38 5, Blk.row (ab 4 (tls (aj (usaL c3)) ++
 aI (usaL c3))) 51 4]) 51 4)) else bif decide ((↑n3 : Int) > 0) then R (V.tuple [V.agg [V.str h, V.slice 5 0 (NV (V.slice 4 0 (aj (usaL c3)).length false 0 0)
 [aY pl rq h mx co se x1 n1 c1 x2 n2 c2 x3 n3 c3 ha mo x4 n4 c4 ag, Blk.row [V.str [], V.nilSlice, V.bool false, V.bool false, V.int IntKind.u8 0] 38 5, Blk.row
 [V.bool (decide ((↑n3 : Int) > 0))] 4 1, Blk.row [V.str h, V.nilSlice, V.bool false, V.bool false, V.int IntKind.u8 0] 38 5, Blk.row (ab 4 (tls (aj (usaL c3)) ++
 aI (usaL c3))) 51 4]) false 0 0, V.bool (efB pl rq ha mo), V.bool true, V.int IntKind.u8 (kdI pl rq (decide ((↑n3 : Int) > 0)) ha mo)], V.bool true]) (some (Blk.row
 (CV (V.slice 4 0 (aj (usaL c3)).length false 0 0) [aY pl rq h mx co se x1 n1 c1 x2 n2 c2 x3 n3 c3 ha mo x4 n4 c4 ag, Blk.row [V.str [], V.nilSlice, V.bool false,
 V.bool false, V.int IntKind.u8 0] 38 5, Blk.row [V.bool (decide ((↑n3 : Int) > 0))] 4 1, Blk.row [V.str h, V.nilSlice, V.bool false, V.bool false, V.int IntKind.u8 0] 38
 5, Blk.row (ab 4 (tls (aj (usaL c3)) ++ aI (usaL c3))) 51 4]) 51 4)) else R (V.tuple [V.agg [V.str h, V.slice 5 0 (NV (V.slice 4 0 (aj (usaL c3)).length
 false 0 0) [aY pl rq h mx co se x1 n1 c1 x2 n2 c2 x3 n3 c3 ha mo x4 n4 c4 ag, Blk.row [V.str [], V.nilSlice, V.bool false, V.bool false, V.int IntKind.u8 0] 38 5,
 Blk.row [V.bool (decide ((↑n3 : Int) > 0))] 4 1, Blk.row [V.str h, V.nilSlice, V.bool false, V.bool false, V.int IntKind.u8 0] 38 5, Blk.row (ab 4 (tls (aj (usaL
 c3)) ++ aI (usaL c3))) 51 4]) false 0 0, V.bool (efB pl rq ha mo), V.bool (efB pl rq ha mo), V.int IntKind.u8 (kdI pl rq (decide ((↑n3 : Int) > 0)) ha mo)], V.bool
 true]) (some (Blk.row (CV (V.slice 4 0 (aj (usaL c3)).length false 0 0) [aY pl rq h mx co se x1 n1 c1 x2 n2 c2 x3 n3 c3 ha mo x4 n4 c4 ag, Blk.row [V.str [],
 V.nilSlice, V.bool false, V.bool false, V.int IntKind.u8 0] 38 5, Blk.row [V.bool (decide ((↑n3 : Int) > 0))] 4 1, Blk.row [V.str h, V.nilSlice, V.bool false, V.bool
 false, V.int IntKind.u8 0] 38 5, Blk.row (ab 4 (tls (aj (usaL c3)) ++ aI (usaL c3))) 51 4]) 51 4)) else bif decide ((↑n3 : Int) > 0) then R (V.tuple [V.agg
 [V.str h, V.slice 5 0 (NV (V.slice 4 0 (aj (usaL c3)).length false 0 0) [aY pl rq h mx co se x1 n1 c1 x2 n2 c2 x3 n3 c3 ha mo x4 n4 c4 ag, Blk.row [V.str [],
 V.nilSlice, V.bool false, V.bool false, V.int IntKind.u8 0] 38 5, Blk.row [V.bool (decide ((↑n3 : Int) > 0))] 4 1, Blk.row [V.str h, V.nilSlice, V.bool false, V.bool
 false, V.int IntKind.u8 0] 38 5, Blk.row (ab 4 (tls (aj (usaL c3)) ++ aI (usaL c3))) 51 4]) false 0 0, V.bool false, V.bool true, V.int IntKind.u8 (kdI pl rq
 (decide ((↑n3 : Int) > 0)) ha mo)], V.bool true]) (some (Blk.row (CV (V.slice 4 0 (aj (usaL c3)).length false 0 0) [aY pl rq h mx co se x1 n1 c1 x2 n2 c2 x3 n3 c3
 ha mo x4 n4 c4 ag, Blk.row [V.str [], V.nilSlice, V.bool false, V.bool false, V.int IntKind.u8 0] 38 5, Blk.row [V.bool (decide ((↑n3 : Int) > 0))] 4 1, Blk.row [V.str h,
 V.nilSlice, V.bool false, V.bool false, V.int IntKind.u8 0] 38 5, Blk.row (ab 4 (tls (aj (usaL c3)) ++ aI (usaL c3))) 51 4]) 51 4)) else R (V.tuple [V.agg
 [V.str h, V.slice 5 0 (NV (V.slice 4 0 (aj (usaL c3)).length false 0 0) [aY pl rq h mx co se x1 n1 c1 x2 n2 c2 x3 n3 c3 ha mo x4 n4 c4 ag, Blk.row [V.str [],
 V.nilSlice, V.bool false, V.bool false, V.int IntKind.u8 0] 38 5, Blk.row [V.bool (decide ((↑n3 : Int) > 0))] 4 1, Blk.row [V.str h, V.nilSlice, V.bool false, V.bool
 false, V.int IntKind.u8 0] 38 5, Blk.row (ab 4 (tls (aj (usaL c3)) ++ aI (usaL c3))) 51 4]) false 0 0, V.bool false, V.bool false, V.int IntKind.u8 (kdI pl rq
 (decide ((↑n3 : Int) > 0)) ha mo)], V.bool true]) (some (Blk.row (CV (V.slice 4 0 (aj (usaL c3)).length false 0 0) [aY pl rq h mx co se x1 n1 c1 x2 n2 c2 x3 n3 c3
 ha mo x4 n4 c4 ag, Blk.row [V.str [], V.nilSlice, V.bool false, V.bool false, V.int IntKind.u8 0] 38 5, Blk.row [V.bool (decide ((↑n3 : Int) > 0))] 4 1, Blk.row [V.str h,
 V.nilSlice, V.bool false, V.bool false, V.int IntKind.u8 0] 38 5, Blk.row (ab 4 (tls (aj (usaL c3)) ++ aI (usaL c3))) 51 4]) 51 4)) else bif !decide ((↑(NV
 (V.slice 4 0 (aj (usaL c3)).length false 0 0) [aY pl rq h mx co se x1 n1 c1 x2 n2 c2 x3 n3 c3 ha mo x4 n4 c4 ag, Blk.row [V.str [], V.nilSlice, V.bool false,
 V.bool false, V.int IntKind.u8 0] 38 5, Blk.row [V.bool (decide ((↑n3 : Int) > 0))] 4 1, Blk.row [V.str h, V.nilSlice, V.bool false, V.bool false, V.int IntKind.u8 0] 38
 5, Blk.row (ab 4 (tls (aj (usaL c3)) ++ aI (usaL c3))) 51 4]) : Int) > 0) then bif rq then bif decide ((↑n3 : Int) > 0) then R (V.tuple [V.agg [V.str h,
 V.slice 5 0 (NV (V.slice 4 0 (aj (usaL c3)).length false 0 0) [aY pl rq h mx co se x1 n1 c1 x2 n2 c2 x3 n3 c3 ha mo x4 n4 c4 ag, Blk.row [V.str [], V.nilSlice,
 V.bool false, V.bool false, V.int IntKind.u8 0] 38 5, Blk.row [V.bool (decide ((↑n3 : Int) > 0))] 4 1, Blk.row [V.str h, V.nilSlice, V.bool false, V.bool false, V.int
 IntKind.u8 0] 38 5, Blk.row (ab 4 (tls (aj (usaL c3)) ++ aI (usaL c3))) 51 4]) false 0 0, V.bool true, V.bool true, V.int IntKind.u8 (kdI pl rq (decide ((↑n3 :
 Int) > 0)) ha mo)], V.bool true]) (some (Blk.row (CV (V.slice 4 0 (aj (usaL c3)).length false 0 0) [aY pl rq h mx co se x1 n1 c1 x2 n2 c2 x3 n3 c3 ha mo x4 n4 c4
 ag, Blk.row [V.str [], V.nilSlice, V.bool false, V.bool false, V.int IntKind.u8 0] 38 5, Blk.row [V.bool (decide ((↑n3 : Int) > 0))] 4 1, Blk.row [V.str h, V.nilSlice,
 V.bool false, V.bool false, V.int IntKind.u8 0] 38 5, Blk.row (ab 4 (tls (aj (usaL c3)) ++ aI (usaL c3))) 51 4]) 51 4)) else R (V.tuple [V.agg [V.str h,
 V.slice 5 0 (NV (V.slice 4 0 (aj (usaL c3)).length false 0 0) [aY pl rq h mx co se x1 n1 c1 x2 n2 c2 x3 n3 c3 ha mo x4 n4 c4 ag, Blk.row [V.str [], V.nilSlice,
 V.bool false, V.bool false, V.int IntKind.u8 0] 38 5, Blk.row [V.bool (decide ((↑n3 : Int) > 0))] 4 1, Blk.row [V.str h, V.nilSlice, V.bool false, V.bool false, V.int
 IntKind.u8 0] 38 5, Blk.row (ab 4 (tls (aj (usaL c3)) ++ aI (usaL c3))) 51 4]) false 0 0, V.bool true, V.bool true, V.int IntKind.u8 (kdI pl rq (decide ((↑n3 :
 Int) > 0)) ha mo)], V.bool true]) (some (Blk.row (CV (V.slice 4 0 (aj (usaL c3)).length false 0 0) [aY pl rq h mx co se x1 n1 c1 x2 n2 c2 x3 n3 c3 ha mo x4 n4 c4
 ag, Blk.row [V.str [], V.nilSlice, V.bool false, V.bool false, V.int IntKind.u8 0] 38 5, Blk.row [V.bool (decide ((↑n3 : Int) > 0))] 4 1, Blk.row [V.str h, V.nilSlice,
 V.bool false, V.bool false, V.int IntKind.u8 0] 38 5, Blk.row (ab 4 (tls (aj (usaL c3)) ++ aI (usaL c3))) 51 4]) 51 4)) else bif decide ((↑n3 : Int) > 0) then
 R (V.tuple [V.agg [V.str h, V.slice 5 0 (NV (V.slice 4 0 (aj (usaL c3)).length false 0 0) [aY pl rq h mx co se x1 n1 c1 x2 n2 c2 x3 n3 c3 ha mo x4 n4 c4 ag,
 Blk.row [V.str [], V.nilSlice, V.bool false, V.bool false, V.int IntKind.u8 0] 38 5, Blk.row [V.bool (decide ((↑n3 : Int) > 0))] 4 1, Blk.row [V.str h, V.nilSlice, V.bool
 false, V.bool false, V.int IntKind.u8 0] 38 5, Blk.row (ab 4 (tls (aj (usaL c3)) ++ aI (usaL c3))) 51 4]) false 0 0, V.bool (efB pl rq ha mo), V.bool true,
 V.int IntKind.u8 (kdI pl rq (decide ((↑n3 : Int) > 0)) ha mo)], V.bool true]) (some (Blk.row (CV (V.slice 4 0 (aj (usaL c3)).length false 0 0) [aY pl rq h mx co se
 x1 n1 c1 x2 n2 c2 x3 n3 c3 ha mo x4 n4 c4 ag, Blk.row [V.str [], V.nilSlice, V.bool false, V.bool false, V.int IntKind.u8 0] 38 5, Blk.row [V.bool (decide ((↑n3 : Int) >
 0))] 4 1, Blk.row [V.str h, V.nilSlice, V.bool false, V.bool false, V.int IntKind.u8 0] 38 5, Blk.row (ab 4 (tls (aj (usaL c3)) ++ aI (usaL c3))) 51 4]) 51 4))
 else R (V.tuple [V.agg [V.str h, V.slice 5 0 (NV (V.slice 4 0 (aj (usaL c3)).length false 0 0) [aY pl rq h mx co se x1 n1 c1 x2 n2 c2 x3 n3 c3 ha mo x4 n4 c4 ag,
 Blk.row [V.str [], V.nilSlice, V.bool false, V.bool false, V.int IntKind.u8 0] 38 5, Blk.row [V.bool (decide ((↑n3 : Int) > 0))] 4 1, Blk.row [V.str h, V.nilSlice, V.bool
 false, V.bool false, V.int IntKind.u8 0] 38 5, Blk.row (ab 4 (tls (aj (usaL c3)) ++ aI (usaL c3))) 51 4]) false 0 0, V.bool (efB pl rq ha mo), V.bool (efB pl
 rq ha mo), V.int IntKind.u8 (kdI pl rq (decide ((↑n3 : Int) > 0)) ha mo)], V.bool true]) (some (Blk.row (CV (V.slice 4 0 (aj (usaL c3)).length false 0 0) [aY pl rq
 h mx co se x1 n1 c1 x2 n2 c2 x3 n3 c3 ha mo x4 n4 c4 ag, Blk.row [V.str [], V.nilSlice, V.bool false, V.bool false, V.int IntKind.u8 0] 38 5, Blk.row [V.bool (decide
 ((↑n3 : Int) > 0))] 4 1, Blk.row [V.str h, V.nilSlice, V.bool false, V.bool false, V.int IntKind.u8 0] 38 5, Blk.row (ab 4 (tls (aj (usaL c3)) ++ aI (usaL
 c3))) 51 4]) 51 4)) else bif decide ((↑n3 : Int) > 0) then R (V.tuple [V.agg [V.str h, V.slice 5 0 (NV (V.slice 4 0 (aj (usaL c3)).length false 0 0) [aY pl rq h mx
 co se x1 n1 c1 x2 n2 c2 x3 n3 c3 ha mo x4 n4 c4 ag, Blk.row [V.str [], V.nilSlice, V.bool false, V.bool false, V.int IntKind.u8 0] 38 5, Blk.row [V.bool (decide ((↑n3 :
 Int) > 0))] 4 1, Blk.row [V.str h, V.nilSlice, V.bool false, V.bool false, V.int IntKind.u8 0] 38 5, Blk.row (ab 4 (tls (aj (usaL c3)) ++ aI (usaL c3))) 51 4])
 false 0 0, V.bool false, V.bool true, V.int IntKind.u8 (kdI pl rq (decide ((↑n3 : Int) > 0)) ha mo)], V.bool true]) (some (Blk.row (CV (V.slice 4 0 (aj (usaL
 c3)).length false 0 0) [aY pl rq h mx co se x1 n1 c1 x2 n2 c2 x3 n3 c3 ha mo x4 n4 c4 ag, Blk.row [V.str [], V.nilSlice, V.bool false, V.bool false, V.int IntKind.u8
 0] 38 5, Blk.row [V.bool (decide ((↑n3 : Int) > 0))] 4 1, Blk.row [V.str h, V.nilSlice, V.bool false, V.bool false, V.int IntKind.u8 0] 38 5, Blk.row (ab 4 (tls
 (aj (usaL c3)) ++ aI (usaL c3))) 51 4]) 51 4)) else R (V.tuple [V.agg [V.str h, V.slice 5 0 (NV (V.slice 4 0 (aj (usaL c3)).length false 0 0) [aY pl rq h mx
 co se x1 n1 c1 x2 n2 c2 x3 n3 c3 ha mo x4 n4 c4 ag, Blk.row [V.str [], V.nilSlice, V.bool false, V.bool false, V.int IntKind.u8 0] 38 5, Blk.row [V.bool (decide ((↑n3 :
 Int) > 0))] 4 1, Blk.row [V.str h, V.nilSlice, V.bool false, V.bool false, V.int IntKind.u8 0] 38 5, Blk.row (ab 4 (tls (aj (usaL c3)) ++ aI (usaL c3))) 51 4])
 false 0 0, V.bool false, V.bool false, V.int IntKind.u8 (kdI pl rq (decide ((↑n3 : Int) > 0)) ha mo)], V.bool true]) (some (Blk.row (CV (V.slice 4 0 (aj (usaL
 c3)).length false 0 0) [aY pl rq h mx co se x1 n1 c1 x2 n2 c2 x3 n3 c3 ha mo x4 n4 c4 ag, Blk.row [V.str [], V.nilSlice, V.bool false, V.bool false, V.int IntKind.u8
 0] 38 5, Blk.row [V.bool (decide ((↑n3 : Int) > 0))] 4 1, Blk.row [V.str h, V.nilSlice, V.bool false, V.bool false, V.int IntKind.u8 0] 38 5, Blk.row (ab 4 (tls
 (aj (usaL c3)) ++ aI (usaL c3))) 51 4]) 51 4)) else False else False else bif rq then bif okS n4 c4 then bif !knB mx ha mo c4 h then R (V.tuple [V.agg [V.str [],
 V.nilSlice, V.bool false, V.bool false, V.int IntKind.u8 0], V.bool false]) none else bif rq then bif decide ((↑n3 : Int) > 0) then R (V.tuple [V.agg [V.str h,
 V.nilSlice, V.bool true, V.bool true, V.int IntKind.u8 (kdI pl rq (decide ((↑n3 : Int) > 0)) ha mo)], V.bool true]) none else R (V.tuple [V.agg [V.str h, V.nilSlice,
 V.bool true, V.bool true, V.int IntKind.u8 (kdI pl rq (decide ((↑n3 : Int) > 0)) ha mo)], V.bool true]) none else bif decide ((↑n3 : Int) > 0) then R (V.tuple [V.agg
 [V.str h, V.nilSlice, V.bool (efB pl rq ha mo), V.bool true, V.int IntKind.u8 (kdI pl rq (decide ((↑n3 : Int) > 0)) ha mo)], V.bool true]) none else R (V.tuple [V.agg
 [V.str h, V.nilSlice, V.bool (efB pl rq ha mo), V.bool (efB pl rq ha mo), V.int IntKind.u8 (kdI pl rq (decide ((↑n3 : Int) > 0)) ha mo)], V.bool true]) none else False
 else bif rq then bif decide ((↑n3 : Int) > 0) then R (V.tuple [V.agg [V.str h, V.nilSlice, V.bool true, V.bool true, V.int IntKind.u8 (kdI pl rq (decide ((↑n3 : Int) >
 0)) ha mo)], V.bool true]) none else R (V.tuple [V.agg [V.str h, V.nilSlice, V.bool true, V.bool true, V.int IntKind.u8 (kdI pl rq (decide ((↑n3 : Int) > 0)) ha mo)],
 V.bool true]) none else bif decide ((↑n3 : Int) > 0) then R (V.tuple [V.agg [V.str h, V.nilSlice, V.bool (efB pl rq ha mo), V.bool true, V.int IntKind.u8 (kdI pl rq
 (decide ((↑n3 : Int) > 0)) ha mo)], V.bool true]) none else R (V.tuple [V.agg [V.str h, V.nilSlice, V.bool (efB pl rq ha mo), V.bool (efB pl rq ha mo), V.int IntKind.u8
 (kdI pl rq (decide ((↑n3 : Int) > 0)) ha mo)], V.bool true]) none else bif rq then bif okS n4 c4 then bif !knB mx ha mo c4 h then R (V.tuple [V.agg [V.str [], V.nilSlice,
 V.bool false, V.bool false, V.int IntKind.u8 0], V.bool false]) none else bif rq then R (V.tuple [V.agg [V.str h, V.nilSlice, V.bool true, V.bool true, V.int IntKind.u8
 (kdI pl rq false ha mo)], V.bool true]) none else R (V.tuple [V.agg [V.str h, V.nilSlice, V.bool (efB pl rq ha mo), V.bool (efB pl rq ha mo), V.int IntKind.u8 (kdI pl rq
 false ha mo)], V.bool true]) none else False else bif rq then R (V.tuple [V.agg [V.str h, V.nilSlice, V.bool true, V.bool true, V.int IntKind.u8 (kdI pl rq false ha mo)],
 V.bool true]) none else R (V.tuple [V.agg [V.str h, V.nilSlice, V.bool (efB pl rq ha mo), V.bool (efB pl rq ha mo), V.int IntKind.u8 (kdI pl rq false ha mo)], V.bool
 true]) none else bif rq then bif okS n4 c4 then bif !knB mx ha mo c4 h then R (V.tuple [V.agg [V.str [], V.nilSlice, V.bool false, V.bool false, V.int IntKind.u8 0],
 V.bool false]) none else bif rq then R (V.tuple [V.agg [V.str h, V.nilSlice, V.bool true, V.bool true, V.int IntKind.u8 (kdI pl rq false ha mo)], V.bool true]) none else
 R (V.tuple [V.agg [V.str h, V.nilSlice, V.bool (efB pl rq ha mo), V.bool (efB pl rq ha mo), V.int IntKind.u8 (kdI pl rq false ha mo)], V.bool true]) none else False else
 bif rq then R (V.tuple [V.agg [V.str h, V.nilSlice, V.bool true, V.bool true, V.int IntKind.u8 (kdI pl rq false ha mo)], V.bool true]) none else R (V.tuple [V.agg [V.str
 h, V.nilSlice, V.bool (efB pl rq ha mo), V.bool (efB pl rq ha mo), V.int IntKind.u8 (kdI pl rq false ha mo)], V.bool true]) none else bif rq then bif okS n4 c4 then bif
 !knB mx ha mo c4 h then R (V.tuple [V.agg [V.str [], V.nilSlice, V.bool false, V.bool false, V.int IntKind.u8 0], V.bool false]) none else bif rq then R (V.tuple [V.agg
 [V.str h, V.nilSlice, V.bool true, V.bool true, V.int IntKind.u8 (kdI pl rq false ha mo)], V.bool true]) none else R (V.tuple [V.agg [V.str h, V.nilSlice, V.bool (efB pl
 rq ha mo), V.bool (efB pl rq ha mo), V.int IntKind.u8 (kdI pl rq false ha mo)], V.bool true]) none else False else bif rq then R (V.tuple [V.agg [V.str h, V.nilSlice,
 V.bool true, V.bool true, V.int IntKind.u8 (kdI pl rq false ha mo)], V.bool true]) none else R (V.tuple [V.agg [V.str h, V.nilSlice, V.bool (efB pl rq ha mo), V.bool (efB
 pl rq ha mo), V.int IntKind.u8 (kdI pl rq false ha mo)], V.bool true]) none) := by kernel_rfl
end Go.Proofs.YtakfcajmfgnchaaGreatDoor
