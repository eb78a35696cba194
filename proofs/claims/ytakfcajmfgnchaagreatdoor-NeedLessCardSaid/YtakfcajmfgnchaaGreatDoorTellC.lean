/- need.Tell: what it comes to. -/
import Derived.Test.YtakfcajmfgnchaaGreatDoorTell
namespace Go.Proofs.YtakfcajmfgnchaaGreatDoor
open Go Go.Vm Go.RowKit
set_option linter.unusedVariables false
set_option maxRecDepth 100000
set_option linter.unusedSectionVars false
variable [Φ : Frz]
def secB (pl rq : Bool) (co : Int) (se : Bool) (n3 : Nat) : Bool := !(pl && !rq) && (co == 1 && (se && decide ((n3 : Int) > 0)))
def aK (pl rq : Bool) (co : Int) (se : Bool) (n3 : Nat) (c3 : List V) : List TL := bif secB pl rq co se n3 then aj (usaL c3) else []
def chB (pl rq : Bool) (co : Int) (se : Bool) (n3 : Nat) (c3 : List V) (ha : Bool) (mo : Int) : Bool := (aK pl rq co se n3 c3).isEmpty && (rq || efB pl rq ha mo)
def notB (pl rq mx : Bool) (co : Int) (se : Bool) (n3 : Nat) (c3 : List V) (ha : Bool) (mo : Int) (c4 : List V) (h : List UInt8) : Bool := rq && ((aK pl rq co se n3 c3).isEmpty && !knB mx ha mo c4 h)
def tellO (k : Nat) (pl rq : Bool) (h : List UInt8) (co : Int) (se : Bool) (n3 : Nat) (c3 : List V) (ha : Bool) (mo : Int) : V × St := match k with
 | 0 => (.tuple [.agg [.str [], .nilSlice, .bool false, .bool false, .int .u8 0], .bool false], [])
 | 1 => (.tuple [.agg [.str h, .slice 0 0 (aK pl rq co se n3 c3).length false 0 0, .bool (chB pl rq co se n3 c3 ha mo), .bool true, .int .u8 (kdI pl rq true ha mo)], .bool true], [.row (tls (aK pl rq co se n3 c3)) 51 4])
 | _ => (.tuple [.agg [.str h, .nilSlice, .bool (rq || efB pl rq ha mo), .bool (rq || efB pl rq ha mo), .int .u8 (kdI pl rq false ha mo)], .bool true], [])
def tellT : List V → Option (List (Bool × (V × St)))
 | [.agg [.bool pl, .bool rq, .str h, .bool mx, .int .u8 co, .bool se, .lst _ _ _, .lst _ _ _, .lst _ n3 c3, .bool ha, .int .u8 mo, .lst _ n4 c4, .int .i64 _]] =>
  some [((okT n3 c3 && okS n4 c4) && notB pl rq mx co se n3 c3 ha mo c4 h, tellO 0 pl rq h co se n3 c3 ha mo), ((okT n3 c3 && okS n4 c4) && secB pl rq co se n3, tellO 1 pl rq h co se n3 c3 ha mo), (okT n3 c3 && okS n4 c4, tellO 2 pl rq h co se n3 c3 ha mo)]
 | _ => none
def Rt (o : V × St) (v : V) (ob : Option Blk) : Prop := ∀ st : St, blkOf v st = ob → Fits 0 [o.1] o.2 [some v] st
theorem rt_nil {v : V} (hv : aH [v] = true) (ob : Option Blk) : Rt (v, []) v ob := fun st _ => a9 [v] hv _ rfl st
theorem rt_row {b n : Nat} {h : List UInt8} {x y z : V} {w : V} {cells : List V} {t : TypeId} (hx : x.flat = true) (hy : y.flat = true) (hz : z.flat = true) (hw : w.flat = true) (hc : aH cells = true) : Rt (.tuple [.agg [.str h, .slice 0 0 n false 0 0, x, y, z], w], [.row cells t 4]) (.tuple [.agg [.str h, .slice b 0 n false 0 0, x, y, z], w]) (some (.row cells t 4)) := fun st hst => by
 have hst : st[b]? = some (.row cells t 4) := hst
 have r2 := cp (σ := [b]) w hw
 refine ⟨[b], [.tuple [.agg [.str h, .slice b 0 n false 0 0, x, y, z], w]], rfl, ?_, FitsM.of ⟨.inr ⟨.row cells t 4, .inl (by simp only [renB, av _ hc]), hst⟩, trivial⟩, by simp, fun i hi => by omega⟩
 have a1 := cp (σ := [b]) x hx
 have a2 := cp (σ := [b]) y hy
 have a3 := cp (σ := [b]) z hz
 simp only [renL, renV, List.getElem?_cons_zero, a1, a2, a3, r2]
theorem tell_main (pl rq : Bool) (h : List UInt8) (mx : Bool) (co : Int) (se : Bool) (x1 : Value) (n1 : Nat) (c1 : List V) (x2 : Value) (n2 : Nat) (c2 : List V) (x3 : Value) (n3 : Nat) (c3 : List V) (ha : Bool) (mo : Int) (x4 : Value) (n4 : Nat) (c4 : List V) (ag : Int) (hk1 : okT n3 c3 = true) (hk2 : okS n4 c4 = true) (hnil : nilX (dX x3 0 (k4 n3) 4) = true → n3 = 0) (o : V × St)
  (ho : aF [(notB pl rq mx co se n3 c3 ha mo c4 h, tellO 0 pl rq h co se n3 c3 ha mo), (secB pl rq co se n3, tellO 1 pl rq h co se n3 c3 ha mo), (true, tellO 2 pl rq h co se n3 c3 ha mo)] = some o) :
  FnSat Tryz.prog 12 [.agg [.bool pl, .bool rq, .str h, .bool mx, .int .u8 co, .bool se, .lst x1 n1 c1, .lst x2 n2 c2, .lst x3 n3 c3, .bool ha, .int .u8 mo, .lst x4 n4 c4, .int .i64 ag]] [] (Is o) := by
 refine FnSat.fits ((dH ay TLT_ok (lim := 9) (n := 10) (cast (tell_tree clOK clN clC pl rq h mx co se x1 n1 c1 x2 n2 c2 x3 n3 c3 ha mo x4 n4 c4 ag (Rt o)).symm ?_)).mono fun u st hq => hq st rfl)
 have hlen : (aj (usaL c3)).length ≤ 4 := by
  have := good_len (usaL c3)
  have h4 : (usaL c3).length ≤ 4 := by unfold usaL; rw [List.length_take]; omega
  omega
 have hv : cb [aY pl rq h mx co se x1 n1 c1 x2 n2 c2 x3 n3 c3 ha mo x4 n4 c4 ag, Blk.row [V.str [], V.nilSlice, V.bool false, V.bool false, V.int IntKind.u8 0] 38 5, Blk.row [V.bool (decide ((↑n3 : Int) > 0))] 4 1, Blk.row [V.str h, V.nilSlice, V.bool false, V.bool false, V.int IntKind.u8 0] 38 5, Blk.row (ab 4 (tls (aj (usaL c3)) ++ aI (usaL c3))) 51 4] (V.slice 4 0 (aj (usaL c3)).length false 0 0) = some (true, aj (usaL c3)) := by
  refine view_tls (z := aI (usaL c3)) (.inl ⟨51, 4, ?_⟩) false 0 0
  rw [shA, shT, shZ]; rfl
 have k1 : clOK (V.slice 4 0 (aj (usaL c3)).length false 0 0) [aY pl rq h mx co se x1 n1 c1 x2 n2 c2 x3 n3 c3 ha mo x4 n4 c4 ag, Blk.row [V.str [], V.nilSlice, V.bool false, V.bool false, V.int IntKind.u8 0] 38 5, Blk.row [V.bool (decide ((↑n3 : Int) > 0))] 4 1, Blk.row [V.str h, V.nilSlice, V.bool false, V.bool false, V.int IntKind.u8 0] 38 5, Blk.row (ab 4 (tls (aj (usaL c3)) ++ aI (usaL c3))) 51 4] = true := by
  unfold clOK; rw [hv]
  show (true && Nat.ble (aj (usaL c3)).length 4) = true
  rw [Nat.ble_eq_true_of_le hlen]; rfl
 have k0 : clL (V.slice 4 0 (aj (usaL c3)).length false 0 0) [aY pl rq h mx co se x1 n1 c1 x2 n2 c2 x3 n3 c3 ha mo x4 n4 c4 ag, Blk.row [V.str [], V.nilSlice, V.bool false, V.bool false, V.int IntKind.u8 0] 38 5, Blk.row [V.bool (decide ((↑n3 : Int) > 0))] 4 1, Blk.row [V.str h, V.nilSlice, V.bool false, V.bool false, V.int IntKind.u8 0] 38 5, Blk.row (ab 4 (tls (aj (usaL c3)) ++ aI (usaL c3))) 51 4] = aj (usaL c3) := by
  unfold clL; rw [hv]
 simp only [clN, clC, k1, k0, hk1, hk2, cond_true, Bool.true_and]
 clear k1 k0 hv
 have hI : (aj (usaL c3)).isEmpty = !decide (((aj (usaL c3)).length : Int) > 0) := by
  cases aj (usaL c3) <;> simp
 have hN : decide ((n3 : Int) > 0) = true → nilX (dX x3 0 (k4 n3) 4) = false := fun hd => by
  cases hx : nilX (dX x3 0 (k4 n3) 4) with
  | false => rfl
  | true => have := hnil hx; subst this; simp at hd
 unfold notB tellO chB aK secB at ho
 have hI2 : ∀ S : Bool, (bif S then aj (usaL c3) else ([] : List TL)).isEmpty = (bif S then !decide (((aj (usaL c3)).length : Int) > 0) else true) := fun S => by
  cases S with
  | true => exact hI
  | false => rfl
 simp only [hI2] at ho
 generalize knB mx ha mo c4 h = KN at *
 generalize hef : efB pl rq ha mo = EF at *
 have hkt : ∀ b, kdI pl rq b ha mo = kdI pl rq b ha mo := fun _ => rfl
 generalize decide (((aj (usaL c3)).length : Int) > 0) = E at *
 generalize (co == 1) = B at *
 cases hD : decide ((n3 : Int) > 0) with
 | true =>
  rw [hN hD]
  rw [hD] at ho
  cases pl <;> cases rq <;> cases B <;> cases se <;> cases E <;> cases KN <;> cases ho <;> first | exact rt_nil rfl _ | exact rt_row rfl rfl rfl rfl (tls_flat _)
 | false =>
  rw [hD] at ho
  cases pl <;> cases rq <;> cases B <;> cases se <;> cases E <;> cases KN <;> cases ho <;> first | exact rt_nil rfl _ | exact rt_row rfl rfl rfl rfl (tls_flat _)
theorem tellT_ok (args : List V) (L : List (Bool × (V × St))) (o : V × St) (h : tellT args = some L) (ho : aF L = some o) : FnSat Tryz.prog 12 args [] (Is o) := by
 unfold tellT at h
 split at h
 ·rename_i pl rq hh mx co se x1 n1 c1 x2 n2 c2 x3 n3 c3 ha mo x4 n4 c4 ag
  cases h
  cases hk : (okT n3 c3 && okS n4 c4) with
  | false => rw [hk] at ho; simp [aF] at ho
  | true =>
  rw [hk, Bool.true_and, Bool.true_and] at ho
  rw [Bool.and_eq_true] at hk
  intro B W0 m w rargs hargs hr
  obtain ⟨a, r, q1, q2, e⟩ := af hargs
  obtain ⟨xs, z0, _⟩ := cD q1
  obtain ⟨_, _, _, z1, _⟩ := af z0
  obtain ⟨_, _, _, z2, _⟩ := af z1
  obtain ⟨_, _, _, z3, _⟩ := af z2
  obtain ⟨_, _, _, z4, _⟩ := af z3
  obtain ⟨_, _, _, z5, _⟩ := af z4
  obtain ⟨_, _, _, z6, _⟩ := af z5
  obtain ⟨_, _, _, z7, _⟩ := af z6
  obtain ⟨_, _, _, z8, _⟩ := af z7
  obtain ⟨_, _, q3, _, _⟩ := af z8
  exact tell_main pl rq hh mx co se x1 n1 c1 x2 n2 c2 x3 n3 c3 ha mo x4 n4 c4 ag hk.1 hk.2 (nil_zero q3) o ho B W0 m w rargs hargs hr
 ·cases h
end Go.Proofs.YtakfcajmfgnchaaGreatDoor
