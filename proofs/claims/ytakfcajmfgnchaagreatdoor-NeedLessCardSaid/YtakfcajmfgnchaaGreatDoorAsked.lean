/- need.Adequate, need.Result: what they come to. -/
import Derived.Test.YtakfcajmfgnchaaGreatDoorAnyF
namespace Go.Proofs.YtakfcajmfgnchaaGreatDoor
open Go Go.Vm Go.RowKit
set_option linter.unusedVariables false
set_option maxRecDepth 100000
set_option linter.unusedSectionVars false
variable [Φ : Frz]
def jOK (p q : V) (st : St) : Bool := match bv st p, bv st q with
 | some (b, l), some (c, r) => b && (c && (Nat.ble l.length 9223372036854775807 && Nat.ble r.length 9223372036854775807))
 | _, _ => false
def jV (p : V) (h : List UInt8) (now : Int) (q : V) (st : St) : Int := match bv st p, bv st q with
 | some (_, l), some (_, an) => bY h now an (bV l)
 | _, _ => 0
def judgeGV (OK : V → V → St → Bool) (JV : V → List UInt8 → Int → V → St → Int) : List V → St → Option (List (Bool × (V × St)))
 | [p, .str h, .int .i64 now, q], st => some [(OK p q st, (.int .u8 (JV p h now q st), st))]
 | _, _ => none
theorem judgeGV_ok (args : List V) (s : St) (l : List (Bool × (V × St))) (o : V × St) (h : judgeGV jOK jV args s = some l) (ho : aF l = some o) : FnSat Tryz.prog 17 args s (Is o) := by
 unfold judgeGV at h
 split at h
 ·rename_i p hh now q
  cases h
  obtain ⟨hb, rfl⟩ := aX ho
  unfold jOK at hb
  split at hb
  ·rename_i b ls c an hv hw
   simp only [Bool.and_eq_true] at hb
   obtain ⟨rfl, rfl, h1, h2⟩ := hb
   have hL : jV p hh now q s = bY hh now an (bV ls) := by unfold jV; rw [hv, hw]
   rw [hL]
   refine cO rfl fun B W0 w m rargs hr ha => ?_
   obtain ⟨x, r, q1, q2, rfl⟩ := af ha
   obtain ⟨x2, r2, q3, q4, rfl⟩ := af q2
   obtain ⟨x3, r3, q5, q6, rfl⟩ := af q4
   obtain ⟨x4, r4, q7, q8, rfl⟩ := af q6
   have g1 := cR hr hv q1
   have g2 := cR hr hw q7
   have g3 := bB (Ψ := Frz.of w) (m' := []) _ _ rfl q3
   have g4 := bB (Ψ := Frz.of w) (m' := []) _ _ rfl q5
   have g5 := bm (Ψ := Frz.of w) (m' := []) _ _ rfl q8
   exact ⟨[lstS x ls, .str hh, .int .i64 now, lstS x4 an], @au _ (Frz.of w) [] _ _ _ _ g1 (@au _ (Frz.of w) [] _ _ _ _ g3 (@au _ (Frz.of w) [] _ _ _ _ g4 (@au _ (Frz.of w) [] _ _ _ _ g2 g5))), @judge_sat (Frz.of w) x ls hh now x4 an (Nat.le_of_ble_eq_true h1) (Nat.le_of_ble_eq_true h2)⟩
  ·cases hb
 ·cases h
def judgeFV (OK : V → V → St → Bool) (JV : V → List UInt8 → Int → V → St → Int) : List V → St → Option (List (Bool × (V × St)))
 | [p, .str h, .int .i64 now, q], st => some [(OK p q st && JV p h now q st == 0, (.int .u8 0, st)), (OK p q st && JV p h now q st == 1, (.int .u8 1, st)), (OK p q st && JV p h now q st == 2, (.int .u8 2, st)), (OK p q st && JV p h now q st == 3, (.int .u8 3, st))]
 | _, _ => none
theorem judgeFV_ok (args : List V) (s : St) (l : List (Bool × (V × St))) (o : V × St) (h : judgeFV jOK jV args s = some l) (ho : aF l = some o) : FnSat Tryz.prog 17 args s (Is o) := by
 unfold judgeFV at h
 split at h
 ·rename_i p hh now q
  cases h
  have go : ∀ k : Int, (jOK p q s && jV p hh now q s == k) = true → FnSat Tryz.prog 17 [p, .str hh, .int .i64 now, q] s (Is (.int .u8 k, s)) := fun k hk => by
   rw [Bool.and_eq_true] at hk
   have e := eq_of_beq hk.2
   refine judgeGV_ok [p, .str hh, .int .i64 now, q] s _ (.int .u8 k, s) rfl ?_
   rw [hk.1, e]; rfl
  cases h0 : (jOK p q s && jV p hh now q s == 0) with
  | true => rw [h0] at ho; cases ho; exact go 0 h0
  | false =>
  cases h1 : (jOK p q s && jV p hh now q s == 1) with
  | true => rw [h0, h1] at ho; cases ho; exact go 1 h1
  | false =>
  cases h2 : (jOK p q s && jV p hh now q s == 2) with
  | true => rw [h0, h1, h2] at ho; cases ho; exact go 2 h2
  | false =>
  cases h3 : (jOK p q s && jV p hh now q s == 3) with
  | true => rw [h0, h1, h2, h3] at ho; cases ho; exact go 3 h3
  | false => rw [h0, h1, h2, h3] at ho; cases ho
 ·cases h
def yOK (p q : V) (st : St) : Bool := match cb st p, bv st q with
 | some (b, l), some (c, r) => b && (c && (l.all inU && (Nat.ble l.length 9223372036854775807 && Nat.ble r.length 9223372036854775807)))
 | _, _ => false
def yV (p q : V) (h : List UInt8) (now : Int) (st : St) : Bool := match cb st p, bv st q with
 | some (_, l), some (_, r) => anyC (aj (l.take 4)) r h now
 | _, _ => false
def anyGV (OK : V → V → St → Bool) (AV : V → V → List UInt8 → Int → St → Bool) : List V → St → Option (List (Bool × (V × St)))
 | [p, q, .str h, .int .i64 now], st => some [(OK p q st, (.bool (AV p q h now st), st))]
 | _, _ => none
theorem anyGV_ok (args : List V) (s : St) (L : List (Bool × (V × St))) (o : V × St) (h : anyGV yOK yV args s = some L) (ho : aF L = some o) : FnSat Tryz.prog 16 args s (Is o) := by
 unfold anyGV at h
 split at h
 ·rename_i p q hh now
  cases h
  obtain ⟨hb, rfl⟩ := aX ho
  unfold yOK at hb
  split at hb
  ·rename_i b l c r hv hw
   have hL : yV p q hh now s = anyC (aj (l.take 4)) r hh now := by unfold yV; rw [hv, hw]
   rw [hL]
   refine anyG_ok [p, q, .str hh, .int .i64 now] s [(b && (c && (l.all inU && (Nat.ble l.length 9223372036854775807 && Nat.ble r.length 9223372036854775807))), (.bool (anyC (aj (l.take 4)) r hh now), s))] _ (by simp only [anyG, hv, hw]) ?_
   rw [hb]; rfl
  ·cases hb
 ·cases h
noncomputable def AD (OK : V → V → St → Bool) (AV : V → V → List UInt8 → Int → St → Bool) (JOK : V → V → St → Bool) (JV : V → List UInt8 → Int → V → St → Int) : Tab := ⟨noT, addS (addS noL 16 (anyGV OK AV)) 17 (judgeFV JOK JV), aR 9⟩
theorem AD_ok : TabOk3 Tryz.prog (AD yOK yV jOK jV) := ⟨aC, bL (bL aD anyGV_ok) judgeFV_ok, am 9⟩
theorem ask_tree (OK : V → V → St → Bool) (AV : V → V → List UInt8 → Int → St → Bool) (JOK : V → V → St → Bool) (JV : V → List UInt8 → Int → V → St → Int) (h : List UInt8) (x : Value) (n : Nat) (cs : List V) (ch se : Bool) (ty : Int) (ok : Bool) (ver : Int) (p : Value) (k : Nat) (ds : List V) (now : Int) (y : Value) (m : Nat) (es : List V) (st cf : Bool) (R : V → Prop) : runW Tryz.prog (AD OK AV JOK JV) 9 10 37 [.agg [.str h, .lst x n cs, .bool ch, .bool se, .int .u8 ty], .agg [.bool ok, .int .u16 ver, .lst p k ds], .int .i64 now, .lst y m es, .bool st, .bool cf] R =
  (
 bif !ok then R (V.int IntKind.u8 2) else bif st then bif decide (ver < 771) then R (V.int IntKind.u8 2) else bif decide ((↑n : Int) > 0) then bif OK (V.lst x n cs) (V.lst
 p k ds) [] then bif !AV (V.lst x n cs) (V.lst p k ds) h now [] then R (V.int IntKind.u8 2) else bif !cf then R (V.int IntKind.u8 0) else bif JOK (V.lst p k ds) (V.lst y m
 es) [] && JV (V.lst p k ds) h now (V.lst y m es) [] == 0 then R (V.int IntKind.u8 0) else bif JOK (V.lst p k ds) (V.lst y m es) [] && JV (V.lst p k ds) h now (V.lst y m
 es) [] == 1 then R (V.int IntKind.u8 3) else bif JOK (V.lst p k ds) (V.lst y m es) [] && JV (V.lst p k ds) h now (V.lst y m es) [] == 2 then R (V.int IntKind.u8 4) else
 bif JOK (V.lst p k ds) (V.lst y m es) [] && JV (V.lst p k ds) h now (V.lst y m es) [] == 3 then R (V.int IntKind.u8 5) else False else False else bif !cf then R (V.int
 IntKind.u8 0) else bif JOK (V.lst p k ds) (V.lst y m es) [] && JV (V.lst p k ds) h now (V.lst y m es) [] == 0 then R (V.int IntKind.u8 0) else bif JOK (V.lst p k ds)
 (V.lst y m es) [] && JV (V.lst p k ds) h now (V.lst y m es) [] == 1 then R (V.int IntKind.u8 3) else bif JOK (V.lst p k ds) (V.lst y m es) [] && JV (V.lst p k ds) h now
 (V.lst y m es) [] == 2 then R (V.int IntKind.u8 4) else bif JOK (V.lst p k ds) (V.lst y m es) [] && JV (V.lst p k ds) h now (V.lst y m es) [] == 3 then R (V.int
 IntKind.u8 5) else False else bif decide ((↑n : Int) > 0) then bif OK (V.lst x n cs) (V.lst p k ds) [] then bif !AV (V.lst x n cs) (V.lst p k ds) h now [] then R (V.int
 IntKind.u8 2) else bif !cf then R (V.int IntKind.u8 0) else bif JOK (V.lst p k ds) (V.lst y m es) [] && JV (V.lst p k ds) h now (V.lst y m es) [] == 0 then R (V.int
 IntKind.u8 0) else bif JOK (V.lst p k ds) (V.lst y m es) [] && JV (V.lst p k ds) h now (V.lst y m es) [] == 1 then R (V.int IntKind.u8 3) else bif JOK (V.lst p k ds)
 (V.lst y m es) [] && JV (V.lst p k ds) h now (V.lst y m es) [] == 2 then R (V.int IntKind.u8 4) else bif JOK (V.lst p k ds) (V.lst y m es) [] && JV (V.lst p k ds) h now
 (V.lst y m es) [] == 3 then R (V.int IntKind.u8 5) else False else False else bif !cf then R (V.int IntKind.u8 0) else bif JOK (V.lst p k ds) (V.lst y m es) [] && JV
 (V.lst p k ds) h now (V.lst y m es) [] == 0 then R (V.int IntKind.u8 0) else bif JOK (V.lst p k ds) (V.lst y m es) [] && JV (V.lst p k ds) h now (V.lst y m es) [] == 1
 then R (V.int IntKind.u8 3) else bif JOK (V.lst p k ds) (V.lst y m es) [] && JV (V.lst p k ds) h now (V.lst y m es) [] == 2 then R (V.int IntKind.u8 4) else bif JOK
 (V.lst p k ds) (V.lst y m es) [] && JV (V.lst p k ds) h now (V.lst y m es) [] == 3 then R (V.int IntKind.u8 5) else False) := by kernel_rfl
def whI (j : Int) : Int := bif j == 0 then 0 else bif j == 1 then 3 else bif j == 2 then 4 else 5
def askC (h : List UInt8) (keys : List TL) (ok : Bool) (ver : Int) (chain : List (List UInt8)) (now : Int) (an : List (List UInt8)) (st cf : Bool) : Int :=
 bif !ok || (st && decide (ver < 771)) then 2 else bif !keys.isEmpty && !anyC (aj (keys.take 4)) chain h now then 2 else bif !cf then 0 else whI (bY h now an (bV chain))
def askK (n : Nat) (cs : List V) (k : Nat) (ds : List V) (m : Nat) (es : List V) : Bool := okT n cs && (okS k ds && (okS m es && (tlD cs).all inU))
def askV (h : List UInt8) (cs : List V) (ok : Bool) (ver : Int) (ds : List V) (now : Int) (es : List V) (st cf : Bool) : Int := askC h (tlD cs) ok ver (ds.map aa) now (es.map aa) st cf
def askT : List V → Option (List (Bool × (V × St)))
 | [.agg [.str h, .lst _ n cs, .bool _, .bool _, .int .u8 _], .agg [.bool ok, .int .u16 ver, .lst _ k ds], .int .i64 now, .lst _ m es, .bool st, .bool cf] => some [(askK n cs k ds m es, (.int .u8 (askV h cs ok ver ds now es st cf), []))]
 | _ => none
theorem judge_in (h : List UInt8) (now : Int) (an : List (List UInt8)) : ∀ L : List CR, bY h now an L = 0 ∨ bY h now an L = 1 ∨ bY h now an L = 2 ∨ bY h now an L = 3
 | [] => .inr (.inr (.inr rfl))
 | c :: r => by
  cases h1 : (!datesB c.f c.u now) with
  | true => exact .inr (.inl (judge_1 h1))
  | false =>
  cases h2 : (!hasH c.l h) with
  | true => exact .inr (.inr (.inl (judge_2 h1 h2)))
  | false =>
  cases h3 : (!anchP now an none (c :: r)) with
  | true => exact .inr (.inr (.inr (judge_3 h1 h2 h3)))
  | false => exact .inl (judge_0 h1 h2 h3)
theorem askT_ok (args : List V) (L : List (Bool × (V × St))) (o : V × St) (h : askT args = some L) (ho : aF L = some o) : FnSat Tryz.prog 37 args [] (Is o) := by
 unfold askT at h
 split at h
 ·rename_i hh x n cs ch se ty ok ver p k ds now y m es st cf
  cases h
  obtain ⟨hk, rfl⟩ := aX ho
  unfold askK at hk
  simp only [Bool.and_eq_true] at hk
  obtain ⟨h1, h2, h3, h4⟩ := hk
  obtain ⟨l, rfl, rfl, l1, l2⟩ := okT_spec h1
  obtain ⟨d, rfl, rfl, d1, d2⟩ := cF h2
  obtain ⟨e, rfl, rfl, e1, e2⟩ := cF h3
  rw [l2] at h4
  have vT : cb [] (.lst x l.length (tls l)) = some (true, l) := by
   unfold cb cg
   simp only [dV, Nat.mul_comm, Nat.beq_refl, isTl_tls, bS, Bool.and_self]
  have vS : ∀ (z : Value) (r : List (List UInt8)), bv [] (.lst z r.length (strs r)) = some (true, r) := fun z r => by
   unfold bv cg
   simp only [aG, Nat.mul_one, Nat.beq_refl, bA, ao, Bool.and_self]
  have a1 : yOK (.lst x l.length (tls l)) (.lst p d.length (strs d)) [] = true := by
   unfold yOK; rw [vT, vS]
   show (true && (true && (l.all inU && (Nat.ble l.length 9223372036854775807 && Nat.ble d.length 9223372036854775807)))) = true
   rw [h4, Nat.ble_eq_true_of_le l1, Nat.ble_eq_true_of_le d1]; rfl
  have a2 : yV (.lst x l.length (tls l)) (.lst p d.length (strs d)) hh now [] = anyC (aj (l.take 4)) d hh now := by
   unfold yV; rw [vT, vS]
  have a3 : jOK (.lst p d.length (strs d)) (.lst y e.length (strs e)) [] = true := by
   unfold jOK; rw [vS, vS]
   show (true && (true && (Nat.ble d.length 9223372036854775807 && Nat.ble e.length 9223372036854775807))) = true
   rw [Nat.ble_eq_true_of_le d1, Nat.ble_eq_true_of_le e1]; rfl
  have a4 : jV (.lst p d.length (strs d)) hh now (.lst y e.length (strs e)) [] = bY hh now e (bV d) := by
   unfold jV; rw [vS, vS]
  refine az (lim := 9) (n := 10) ay AD_ok rfl rfl ?_
  rw [ask_tree, a1, a2, a3, a4]
  unfold askV askC
  rw [bS, ao, ao]
  have hJ := judge_in hh now e (bV d)
  generalize bY hh now e (bV d) = J at *
  generalize anyC (aj (l.take 4)) d hh now = A
  have hn : decide ((l.length : Int) > 0) = !l.isEmpty := by cases l <;> simp
  rw [hn]
  generalize l.isEmpty = E
  generalize decide (ver < 771) = W
  cases ok <;> cases st <;> cases W <;> cases E <;> cases A <;> cases cf <;> first | rfl | (rcases hJ with rfl | rfl | rfl | rfl <;> rfl)
 ·cases h
noncomputable def AE : Tab := ⟨addT noT 37 askT, noL, aR 9⟩
theorem AE_ok : TabOk3 Tryz.prog AE := ⟨ba aC askT_ok, aD, am 9⟩
theorem ad_tree (h : List UInt8) (x : Value) (n : Nat) (cs : List V) (ch se : Bool) (ty : Int) (ok : Bool) (ver : Int) (p : Value) (k : Nat) (ds : List V) (now : Int) (y : Value) (m : Nat) (es : List V) (R : V → Prop) : runW Tryz.prog AE 9 10 14 [.agg [.str h, .lst x n cs, .bool ch, .bool se, .int .u8 ty], .agg [.bool ok, .int .u16 ver, .lst p k ds], .int .i64 now, .lst y m es] R =
  (
 bif !se then R (V.bool ok) else bif askK n cs k ds m es then R (V.bool (askV h cs ok ver ds now es true ch == 0)) else False) := by kernel_rfl
end Go.Proofs.YtakfcajmfgnchaaGreatDoor
