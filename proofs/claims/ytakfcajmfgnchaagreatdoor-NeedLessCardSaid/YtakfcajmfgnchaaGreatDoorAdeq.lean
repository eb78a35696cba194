/- need.Adequate: of whatever lists. -/
import Derived.Test.YtakfcajmfgnchaaGreatDoorAsked
namespace Go.Proofs.YtakfcajmfgnchaaGreatDoor
open Go Go.Vm Go.RowKit
set_option linter.unusedVariables false
set_option maxRecDepth 100000
set_option linter.unusedSectionVars false
theorem realL_one {Φ Ψ : Frz} {m m' : List MB} {p : V} {b : List V} {f : Value → V} (hf : ∀ y, @real _ Φ m p = some y → @real _ Ψ m' (f y) = some y) (hb : cz b = true) : ∀ (a : List V) (xs : List Value), cz a = true → @ah _ Φ m (a ++ p :: b) = some xs → ∃ y, @ah _ Ψ m' (a ++ f y :: b) = some xs
 | [], xs, _, h => by
  obtain ⟨y, r, q1, q2, rfl⟩ := @af _ Φ m _ _ _ h
  exact ⟨y, @au _ Ψ m' _ _ _ _ (hf y q1) (bm _ _ hb q2)⟩
 | v :: a, xs, ha, h => by
  obtain ⟨z, r, q1, q2, rfl⟩ := @af _ Φ m _ _ _ h
  simp only [cz, Bool.and_eq_true] at ha
  obtain ⟨y, hy⟩ := realL_one hf hb a r ha.2 q2
  exact ⟨y, @au _ Ψ m' _ _ _ _ (bB _ _ ha.1 q1) hy⟩
theorem agg_one {Φ Ψ : Frz} {m m' : List MB} {p : V} {b : List V} {f : Value → V} (hf : ∀ y, @real _ Φ m p = some y → @real _ Ψ m' (f y) = some y) (a : List V) (ha : cz a = true) (hb : cz b = true) {x : Value} (h : @real _ Φ m (.agg (a ++ p :: b)) = some x) : ∃ y, @real _ Ψ m' (.agg (a ++ f y :: b)) = some x := by
 obtain ⟨xs, h0, rfl⟩ := @cD _ Φ m _ _ h
 obtain ⟨y, hy⟩ := realL_one hf hb a xs ha h0
 exact ⟨y, by simp only [real, hy]⟩
variable [Φ : Frz]
def adC (h : List UInt8) (keys : List TL) (ch se ok : Bool) (ver : Int) (chain : List (List UInt8)) (now : Int) (an : List (List UInt8)) : Bool := bif se then askC h keys ok ver chain now an true ch == 0 else ok
theorem ad_sat (h : List UInt8) (x : Value) (l : List TL) (ch se : Bool) (ty : Int) (ok : Bool) (ver : Int) (p : Value) (d : List (List UInt8)) (now : Int) (y : Value) (e : List (List UInt8)) (h1 : l.length ≤ 9223372036854775807) (h2 : d.length ≤ 9223372036854775807) (h3 : e.length ≤ 9223372036854775807) (h4 : l.all inU = true) :
  FnSat Tryz.prog 14 [.agg [.str h, lstT x l, .bool ch, .bool se, .int .u8 ty], .agg [.bool ok, .int .u16 ver, lstS p d], .int .i64 now, lstS y e] [] (Is (.bool (adC h l ch se ok ver d now e), [])) := by
 have hk : askK l.length (tls l) d.length (strs d) e.length (strs e) = true := by unfold askK; rw [okT_mk h1, okS_mk h2, okS_mk h3, bS, h4]; rfl
 have hv : askV h (tls l) ok ver (strs d) now (strs e) true ch = askC h l ok ver d now e true ch := by unfold askV; rw [bS, ao, ao]
 refine az (lim := 9) (n := 10) ay AE_ok rfl rfl ?_
 unfold lstT lstS
 rw [ad_tree, hk, hv]
 unfold adC
 cases se <;> rfl
def adOK (p q z : V) (st : St) : Bool := match cb st p, bv st q, bv st z with
 | some (a, l), some (b, d), some (c, e) => a && (b && (c && (l.all inU && (Nat.ble l.length 9223372036854775807 && (Nat.ble d.length 9223372036854775807 && Nat.ble e.length 9223372036854775807)))))
 | _, _, _ => false
def adV (h : List UInt8) (p : V) (ch se ok : Bool) (ver : Int) (q : V) (now : Int) (z : V) (st : St) : Bool := match cb st p, bv st q, bv st z with
 | some (_, l), some (_, d), some (_, e) => adC h l ch se ok ver d now e
 | _, _, _ => false
def adGV (OK : V → V → V → St → Bool) (AV : List UInt8 → V → Bool → Bool → Bool → Int → V → Int → V → St → Bool) : List V → St → Option (List (Bool × (V × St)))
 | [.agg [.str h, p, .bool ch, .bool se, .int .u8 _], .agg [.bool ok, .int .u16 ver, q], .int .i64 now, z], st => some [(OK p q z st, (.bool (AV h p ch se ok ver q now z st), st))]
 | _, _ => none
theorem adGV_ok (args : List V) (s : St) (L : List (Bool × (V × St))) (o : V × St) (h : adGV adOK adV args s = some L) (ho : aF L = some o) : FnSat Tryz.prog 14 args s (Is o) := by
 unfold adGV at h
 split at h
 ·rename_i hh p ch se ty ok ver q now z
  cases h
  obtain ⟨hb, rfl⟩ := aX ho
  unfold adOK at hb
  split at hb
  ·rename_i a l b d c e hv hw hz
   have hL : adV hh p ch se ok ver q now z s = adC hh l ch se ok ver d now e := by unfold adV; rw [hv, hw, hz]
   rw [hL]
   simp only [Bool.and_eq_true] at hb
   obtain ⟨rfl, rfl, rfl, h1, h2, h3, h4⟩ := hb
   refine cO rfl fun B W0 w m rargs hr ha => ?_
   obtain ⟨x1, r1, q1, q2, rfl⟩ := af ha
   obtain ⟨x2, r2, q3, q4, rfl⟩ := af q2
   obtain ⟨x3, r3, q5, q6, rfl⟩ := af q4
   obtain ⟨x4, r4, q7, q8, rfl⟩ := af q6
   obtain ⟨y1, g1⟩ := agg_one (Ψ := Frz.of w) (m' := []) (f := fun y => lstT y l) (fun y hy => viewT_ok hr hv hy) [.str hh] rfl (b := [.bool ch, .bool se, .int .u8 ty]) rfl q1
   obtain ⟨y2, g2⟩ := agg_one (Ψ := Frz.of w) (m' := []) (f := fun y => lstS y d) (fun y hy => cR hr hw hy) [.bool ok, .int .u16 ver] rfl (b := []) rfl q3
   have g3 := bB (Ψ := Frz.of w) (m' := []) _ _ rfl q5
   have g4 := cR hr hz q7
   have g5 := bm (Ψ := Frz.of w) (m' := []) _ _ rfl q8
   have := @ad_sat (Frz.of w) hh y1 l ch se ty ok ver y2 d now x4 e (Nat.le_of_ble_eq_true h2) (Nat.le_of_ble_eq_true h3) (Nat.le_of_ble_eq_true h4) h1
   exact ⟨[.agg [.str hh, lstT y1 l, .bool ch, .bool se, .int .u8 ty], .agg [.bool ok, .int .u16 ver, lstS y2 d], .int .i64 now, lstS x4 e], @au _ (Frz.of w) [] _ _ _ _ g1 (@au _ (Frz.of w) [] _ _ _ _ g2 (@au _ (Frz.of w) [] _ _ _ _ g3 (@au _ (Frz.of w) [] _ _ _ _ g4 g5))), this⟩
  ·cases hb
 ·cases h
def reC (h : List UInt8) (keys : List TL) (ch se : Bool) (ty : Int) (be ok : Bool) (ver : Int) (chain : List (List UInt8)) (now : Int) (an : List (List UInt8)) : Int := bif !be then 1 else askC h keys ok ver chain now an (se || !(ty == 0 || ty == 3)) (keys.isEmpty && (ch || ty == 2))
def reV (h : List UInt8) (p : V) (ch se : Bool) (ty : Int) (be ok : Bool) (ver : Int) (q : V) (now : Int) (z : V) (st : St) : Int := match cb st p, bv st q, bv st z with
 | some (_, l), some (_, d), some (_, e) => reC h l ch se ty be ok ver d now e
 | _, _, _ => 0
end Go.Proofs.YtakfcajmfgnchaaGreatDoor
