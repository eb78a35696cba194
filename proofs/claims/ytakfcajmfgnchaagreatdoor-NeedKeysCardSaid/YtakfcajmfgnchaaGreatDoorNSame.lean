/- Needs: whether two are the same, of whatever lists. -/
import Derived.Test.YtakfcajmfgnchaaGreatDoorSameT
import Derived.Test.YtakfcajmfgnchaaGreatDoorAdeq
namespace Go.Proofs.YtakfcajmfgnchaaGreatDoor
open Go Go.Vm Go.RowKit
set_option linter.unusedVariables false
set_option linter.unusedSectionVars false
set_option maxRecDepth 100000
variable [Φ : Frz]
def eqTP : List V → Option (List (Bool × (V × St)))
 | [.lst _ n cs, .lst _ m ds] => some [(okT n cs && okT m ds, (.bool (eqsB (tlD cs) (tlD ds)), []))]
 | _ => none
theorem eqTP_ok (args : List V) (l : List (Bool × (V × St))) (o : V × St) (h : eqTP args = some l) (ho : pickO l = some o) : FnSat Tryz.prog 38 args [] (Is o) := by
 unfold eqTP at h
 split at h
 ·rename_i x n cs y m ds
  cases h
  obtain ⟨hb, rfl⟩ := pickO_one ho
  rw [Bool.and_eq_true] at hb
  obtain ⟨l, rfl, rfl, p2, p3⟩ := okT_spec hb.1
  obtain ⟨k, rfl, rfl, p4, p5⟩ := okT_spec hb.2
  rw [tlD_tls, tlD_tls]
  exact eq_sat x l y k p2 p4
 ·cases h
noncomputable def NQ : Tab := ⟨addT noT 38 eqTP, noL, noLks 9⟩
theorem NQ_ok : TabOk3 Tryz.prog NQ := ⟨addT_ok noT_ok eqTP_ok, noL_ok, noLks_ok 9⟩
theorem ns_tree (h : List UInt8) (x : Value) (n : Nat) (cs : List V) (a b : Bool) (t : Int) (h' : List UInt8) (y : Value) (m : Nat) (ds : List V) (a' b' : Bool) (t' : Int) (R : V → Prop) : runW Tryz.prog NQ 9 10 15 [.agg [.str h, .lst x n cs, .bool a, .bool b, .int .u8 t], .agg [.str h', .lst y m ds, .bool a', .bool b', .int .u8 t']] R =
  (
 bif h == h' then bif a == a' then bif b == b' then bif t == t' then bif okT n cs && okT m ds then R (V.bool (eqsB (tlD cs) (tlD ds))) else False else R (V.bool false)
 else R (V.bool false) else R (V.bool false) else R (V.bool false)) := by kernel_rfl
def nsB (h : List UInt8) (l : List TL) (a b : Bool) (t : Int) (h' : List UInt8) (k : List TL) (a' b' : Bool) (t' : Int) : Bool := h == h' && (a == a' && (b == b' && (t == t' && eqsB l k)))
theorem ns_sat (h : List UInt8) (x : Value) (l : List TL) (a b : Bool) (t : Int) (h' : List UInt8) (y : Value) (k : List TL) (a' b' : Bool) (t' : Int) (h1 : l.length ≤ 9223372036854775807) (h2 : k.length ≤ 9223372036854775807) :
  FnSat Tryz.prog 15 [.agg [.str h, lstT x l, .bool a, .bool b, .int .u8 t], .agg [.str h', lstT y k, .bool a', .bool b', .int .u8 t']] [] (Is (.bool (nsB h l a b t h' k a' b' t'), [])) := by
 refine pureW_of (lim := 9) (n := 10) mixed NQ_ok rfl rfl ?_
 unfold lstT
 rw [ns_tree, okT_mk h1, okT_mk h2, tlD_tls, tlD_tls]
 unfold nsB
 cases h == h' <;> cases a == a' <;> cases b == b' <;> cases t == t' <;> rfl
def nsOK (p q : V) (st : St) : Bool := match viewT st p, viewT st q with
 | some (a, l), some (b, k) => a && (b && (Nat.ble l.length 9223372036854775807 && Nat.ble k.length 9223372036854775807))
 | _, _ => false
def nsV (h : List UInt8) (p : V) (a b : Bool) (t : Int) (h' : List UInt8) (q : V) (a' b' : Bool) (t' : Int) (st : St) : Bool := match viewT st p, viewT st q with
 | some (_, l), some (_, k) => nsB h l a b t h' k a' b' t'
 | _, _ => false
def nsGV (OK : V → V → St → Bool) (SV : List UInt8 → V → Bool → Bool → Int → List UInt8 → V → Bool → Bool → Int → St → Bool) : List V → St → Option (List (Bool × (V × St)))
 | [.agg [.str h, p, .bool a, .bool b, .int .u8 t], .agg [.str h', q, .bool a', .bool b', .int .u8 t']], st => some [(OK p q st, (.bool (SV h p a b t h' q a' b' t' st), st))]
 | _, _ => none
theorem nsGV_ok (args : List V) (s : St) (L : List (Bool × (V × St))) (o : V × St) (h : nsGV nsOK nsV args s = some L) (ho : pickO L = some o) : FnSat Tryz.prog 15 args s (Is o) := by
 unfold nsGV at h
 split at h
 ·rename_i hh p a b t hh' q a' b' t'
  cases h
  obtain ⟨hb, rfl⟩ := pickO_one ho
  unfold nsOK at hb
  split at hb
  ·rename_i c l d k hv hw
   have hL : nsV hh p a b t hh' q a' b' t' s = nsB hh l a b t hh' k a' b' t' := by unfold nsV; rw [hv, hw]
   rw [hL]
   simp only [Bool.and_eq_true] at hb
   obtain ⟨rfl, rfl, h1, h2⟩ := hb
   refine frz_sat rfl fun B W0 w m rargs hr ha => ?_
   obtain ⟨x1, r1, q1, q2, rfl⟩ := realL_cons ha
   obtain ⟨x2, r2, q3, q4, rfl⟩ := realL_cons q2
   obtain ⟨y1, g1⟩ := agg_one (Ψ := Frz.of w) (m' := []) (f := fun y => lstT y l) (fun y hy => viewT_ok hr hv hy) [.str hh] rfl (b := [.bool a, .bool b, .int .u8 t]) rfl q1
   obtain ⟨y2, g2⟩ := agg_one (Ψ := Frz.of w) (m' := []) (f := fun y => lstT y k) (fun y hy => viewT_ok hr hw hy) [.str hh'] rfl (b := [.bool a', .bool b', .int .u8 t']) rfl q3
   have g3 := realL_plain (Ψ := Frz.of w) (m' := []) _ _ rfl q4
   exact ⟨_, @realL_mk _ (Frz.of w) [] _ _ _ _ g1 (@realL_mk _ (Frz.of w) [] _ _ _ _ g2 g3), @ns_sat (Frz.of w) hh y1 l a b t hh' y2 k a' b' t' (Nat.le_of_ble_eq_true h1) (Nat.le_of_ble_eq_true h2)⟩
  ·cases hb
 ·cases h
end Go.Proofs.YtakfcajmfgnchaaGreatDoor
