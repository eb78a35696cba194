/- The package variables of the door, as the rows list them: what the walks are told of the word table. -/
import Derived.Test.YtlacmijbjdpbpaaDoorSum
import Derived.ProofKit
import Derived.LaidMore
import Derived.OpenShut
import Derived.Stop.Joined
namespace Go.Proofs.YtlacmijbjdpbpaaDoor
open Go Go.Vm Go.RowKit
open Go.ChangeShapes Go.WideShapes Go.ChangeAt Go.WideMaps Go.WideElems
set_option linter.unusedVariables false
theorem gKey : Tryd.prog.globalNamed "mailroom/code.key" = some 0 := by kernel_rfl
theorem tKey : (Tryd.prog.globals[0]?).map (·.type) = some 77 := by kernel_rfl
theorem keyWord : Tryd.prog.cellsOf 72 = 1 := by kernel_rfl
def keyD : List (DataW Unit) := match (Rows.laid_mailroom_code_key : DataW Unit) with
  | .agg l => l
  | _ => []
theorem keyD_agg : (Rows.laid_mailroom_code_key : DataW Unit) = .agg keyD := rfl
def ofD : DataW Unit → V
  | .lit (.int k n) => .int k n
  | _ => .bool false
theorem keyC_map : keyC = keyD.map ofD := by kernel_rfl
theorem var_heap {P : Program} {w : World} {n : String} {g : Nat} {cs : Array Value} (hg : P.globalNamed n = some g) (h : w.var? P n = some cs) : ∃ t fz, w.heap[g]? = some (.cells cs t fz) := by
  simp only [World.var?, hg, Option.bind_some] at h
  split at h
  · rename_i c t fz hb; cases h; exact ⟨t, fz, hb⟩
  · cases h
theorem gok_of {W : World} {t0 : TypeId} {cs0 : Array Value} {f0 : Nat} {p0 : List MemPlace} {sp : Nat → Bool} {held : Bool} {enc : TypeId × Value → Unit} (ht0 : t0 = 77) (hv0 : W.var? Tryd.prog "mailroom/code.key" = some cs0)
    (hd0 : DataW.trod enc Tryd.prog W 0 sp held f0 t0 cs0.toList = some (Rows.laid_mailroom_code_key, p0)) : GOk W.heap.size W := by
  subst ht0
  obtain ⟨t, fz, hheap⟩ := var_heap gKey hv0
  intro k cs hk
  match k, hk with
  | 0, hk =>
    cases hk
    have hb : gblk 0 = 0 := rfl
    have ho : goff 0 = 0 := rfl
    rw [hb, ho]
    refine ⟨(Array.getElem?_eq_some_iff.1 hheap).1, cs0, t, fz, hheap, fun i v hv => ?_⟩
    obtain ⟨xs, m1, rfl, hx1, hlen, hn, hel⟩ := DataW.trod_array Tryd.underlying77 hd0
    rw [keyD_agg] at hx1
    simp only [Prod.mk.injEq, DataW.agg.injEq] at hx1
    have hD := hx1.1
    rw [keyC_map, hD, List.getElem?_map, List.getElem?_map] at hv
    cases hxi : xs[i]? with
    | none => rw [hxi] at hv; cases hv
    | some x =>
      rw [hxi] at hv
      simp only [Option.map_some, Option.some.injEq] at hv
      have hi : i < 64 := by rw [← hn]; exact (List.getElem?_eq_some_iff.1 hxi).1
      have h1 := hel i hi
      rw [hxi, keyWord, Nat.mul_one] at h1
      obtain ⟨a, e0, e1, wa⟩ := DataW.trod_int Tryd.underlying72 h1
      subst e1
      simp only [ofD] at hv
      subst hv
      refine ⟨.int .u32 a, rfl, ?_⟩
      rw [Nat.zero_add]
      have e2 : ((cs0.toList.drop i).take 1)[0]? = some (Value.int .u32 a) := by rw [e0]; rfl
      rw [List.getElem?_take, if_pos (by omega), List.getElem?_drop, Nat.add_zero] at e2
      simpa using e2
  | k + 1, hk => cases hk
theorem own : ownKnob Tryd.prog.godebug = none := by kernel_rfl
theorem laid1_gok {W : World} (h : laidMetH Tryd.prog [("mailroom/code.key", Rows.laid_mailroom_code_key)] W) : GOk W.heap.size W := by
  rw [MakeChecks.laidMetH_plain _ _ _ (by kernel_rfl)] at h
  obtain ⟨ps, ⟨g0, t0, cs0, f0, p0, q0, hg0, ht0, hv0, hd0, _⟩, _, _⟩ := h
  obtain rfl := Option.some.inj (gKey.symm.trans hg0)
  exact gok_of (Option.some.inj (tKey.symm.trans ht0)).symm hv0 hd0
end Go.Proofs.YtlacmijbjdpbpaaDoor
