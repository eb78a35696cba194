/- The package variables of the door, as the rows list them: what the walks are told of the word table, and of the two tables of functions. -/
import Derived.Test.YtojpkjahoahedaaGreatDoorSum
import Derived.ProofKit
import Derived.LaidMore
import Derived.OpenShut
import Derived.Stop.Joined
import Derived.LaidHandle
namespace Go.Proofs.YtojpkjahoahedaaGreatDoor
open Go Go.Vm Go.RowKit
open Go.ChangeShapes Go.WideShapes Go.ChangeAt Go.WideMaps Go.WideElems
set_option linter.unusedVariables false
theorem gKey : Tryz.prog.globalNamed "mailroom/code.key" = some 2 := by kernel_rfl
theorem tKey : (Tryz.prog.globals[2]?).map (·.type) = some 84 := by kernel_rfl
theorem gTakes : Tryz.prog.globalNamed "mailroom/tlsa.takes" = some 1 := by kernel_rfl
theorem tTakes : (Tryz.prog.globals[1]?).map (·.type) = some 70 := by kernel_rfl
theorem gMakes : Tryz.prog.globalNamed "mailroom/tlsa.makes" = some 0 := by kernel_rfl
theorem tMakes : (Tryz.prog.globals[0]?).map (·.type) = some 68 := by kernel_rfl
theorem u84 : Tryz.prog.underlying 84 = some (.array 64 79) := by kernel_rfl
theorem u79 : Tryz.prog.underlying 79 = some (.int .u32) := by kernel_rfl
theorem u70 : Tryz.prog.underlying 70 = some (.array 2 69) := by kernel_rfl
theorem u68 : Tryz.prog.underlying 68 = some (.array 2 46) := by kernel_rfl
def isFuncT : Option TypeDesc → Bool
  | some (.func _ _ _) => true
  | _ => false
theorem u69 : ∃ ps rs va, Tryz.prog.underlying 69 = some (.func ps rs va) := by
  have h : isFuncT (Tryz.prog.underlying 69) = true := by kernel_rfl
  unfold isFuncT at h
  split at h
  · rename_i ps rs va e; exact ⟨ps, rs, va, e⟩
  · cases h
theorem u46 : ∃ ps rs va, Tryz.prog.underlying 46 = some (.func ps rs va) := by
  have h : isFuncT (Tryz.prog.underlying 46) = true := by kernel_rfl
  unfold isFuncT at h
  split at h
  · rename_i ps rs va e; exact ⟨ps, rs, va, e⟩
  · cases h
theorem keyWord : Tryz.prog.cellsOf 79 = 1 := by kernel_rfl
theorem takeWord : Tryz.prog.cellsOf 69 = 1 := by kernel_rfl
theorem makeWord : Tryz.prog.cellsOf 46 = 1 := by kernel_rfl
def keyD : List (DataW Unit) := match (Rows.laid_mailroom_code_key : DataW Unit) with
  | .agg l => l
  | _ => []
theorem keyD_agg : (Rows.laid_mailroom_code_key : DataW Unit) = .agg keyD := rfl
def ofD : DataW Unit → V
  | .lit (.int k n) => .int k n
  | _ => .bool false
theorem keyC_map : keyC = keyD.map ofD := by kernel_rfl
theorem var_heap {P : Program} {w : World} {n : String} {g : Nat} {cs : Array Value} (hg : P.globalNamed n = some g) (h : w.var? P n = some cs) : ∃ t fz, w.heap[g]? = some (.cells cs t fz) := by
  simp only [World.var?, hg, Option.bind_some] at h
  split at h
  · rename_i c t fz hb; cases h; exact ⟨t, fz, hb⟩
  · cases h
/-- What is known of a variable's cells. -/
def Cells (W : World) (g : Nat) (C : List V) : Prop := ∃ arr t fz, W.heap[g]? = some (.cells arr t fz) ∧ ∀ i v, C[i]? = some v → ∃ x, real [] v = some x ∧ arr[0 + i]? = some x
theorem key_cells {W : World} {t0 : TypeId} {cs0 : Array Value} {f0 : Nat} {p0 : List MemPlace} {sp : Nat → Bool} {held : Bool} {enc : TypeId × Value → Unit} (ht0 : t0 = 84) (hv0 : W.var? Tryz.prog "mailroom/code.key" = some cs0)
    (hd0 : DataW.trod enc Tryz.prog W 0 sp held f0 t0 cs0.toList = some (Rows.laid_mailroom_code_key, p0)) : Cells W 2 keyC := by
  subst ht0
  obtain ⟨t, fz, hheap⟩ := var_heap gKey hv0
  refine ⟨cs0, t, fz, hheap, fun i v hv => ?_⟩
  obtain ⟨xs, m1, rfl, hx1, hlen, hn, hel⟩ := DataW.trod_array u84 hd0
  rw [keyD_agg] at hx1
  simp only [Prod.mk.injEq, DataW.agg.injEq] at hx1
  have hD := hx1.1
  rw [keyC_map, hD, List.getElem?_map, List.getElem?_map] at hv
  cases hxi : xs[i]? with
  | none => rw [hxi] at hv; cases hv
  | some x =>
    rw [hxi] at hv
    simp only [Option.map_some, Option.some.injEq] at hv
    have hi : i < 64 := by rw [← hn]; exact (List.getElem?_eq_some_iff.1 hxi).1
    have h1 := hel i hi
    rw [hxi, keyWord, Nat.mul_one] at h1
    obtain ⟨a, e0, e1, wa⟩ := DataW.trod_int u79 h1
    subst e1
    simp only [ofD] at hv
    subst hv
    refine ⟨.int .u32 a, rfl, ?_⟩
    rw [Nat.zero_add]
    have e2 : ((cs0.toList.drop i).take 1)[0]? = some (Value.int .u32 a) := by rw [e0]; rfl
    rw [List.getElem?_take, if_pos (by omega), List.getElem?_drop, Nat.add_zero] at e2
    simpa using e2
/-- A table of two functions. -/
theorem tab_cells {W : World} {n : String} {g : Nat} {t e : TypeId} {d : DataW Unit} {b0 b1 : UInt8} {r0 r1 : List UInt8} {f0 f1 : FuncId} (hg : Tryz.prog.globalNamed n = some g) (ht : (Tryz.prog.globals[g]?).map (·.type) = some t)
    (hu : Tryz.prog.underlying t = some (.array 2 e)) (hf : ∃ ps rs va, Tryz.prog.underlying e = some (.func ps rs va)) (hw : Tryz.prog.cellsOf e = 1) (hc : Tryz.prog.cellsOf t = 2) (hd : d.funcsOut = .agg [.held (b0 :: r0), .held (b1 :: r1)])
    (h0 : ((List.range Tryz.prog.funcs.size).filter fun f => (Tryz.prog.funcs[f]?).any (·.name.toUTF8.data.toList == b0 :: r0)) = [f0])
    (h1 : ((List.range Tryz.prog.funcs.size).filter fun f => (Tryz.prog.funcs[f]?).any (·.name.toUTF8.data.toList == b1 :: r1)) = [f1])
    (h : funcsAt Tryz.prog W n d) : Cells W g [.func (.func f0) [] [], .func (.func f1) [] []] := by
  obtain ⟨ps, rs, va, hfu⟩ := hf
  obtain ⟨g', t', cs, fuel, p, hg', ht', hv, htr⟩ := h
  obtain rfl := Option.some.inj (hg.symm.trans hg')
  obtain rfl := Option.some.inj (ht.symm.trans ht')
  obtain ⟨ty, fz, hheap⟩ := var_heap hg hv
  obtain ⟨xs, m1, rfl, hx1, hlen, hn, hel⟩ := DataW.trod_array hu htr
  rw [hd] at hx1
  simp only [Prod.mk.injEq, DataW.agg.injEq] at hx1
  have hD := hx1.1
  have one : ∀ (i : Nat) (b : UInt8) (r : List UInt8) (f : FuncId), i < 2 → ([DataW.held (b0 :: r0), .held (b1 :: r1)] : List (DataW (List UInt8)))[i]? = some (.held (b :: r)) →
      ((List.range Tryz.prog.funcs.size).filter fun f => (Tryz.prog.funcs[f]?).any (·.name.toUTF8.data.toList == b :: r)) = [f] → cs[0 + i]? = some (.func (.func f) #[] #[]) := by
    intro i b r f hi hb hone
    rw [hD, List.getElem?_map] at hb
    cases hxi : xs[i]? with
    | none => rw [hxi] at hb; cases hb
    | some x =>
      rw [hxi] at hb
      simp only [Option.map_some, Option.some.injEq] at hb
      have h2 := hel i hi
      rw [hxi, hw, Nat.mul_one] at h2
      have hl : ∃ v, (cs.toList.drop i).take 1 = [v] := by
        have hcs : cs.toList.length = 2 := by
          have := hlen
          rw [hc] at this
          simpa using this
        cases hq : cs.toList.drop i with
        | nil => have := congrArg List.length hq; simp at this; simp at hcs; omega
        | cons v q => exact ⟨v, rfl⟩
      obtain ⟨v, hvv⟩ := hl
      rw [hvv] at h2
      obtain ⟨y, q⟩ := x
      simp only at hb
      subst hb
      have hvf := func_of_trod hfu hone h2
      have e2 : ((cs.toList.drop i).take 1)[0]? = some v := by rw [hvv]; rfl
      rw [List.getElem?_take, if_pos (by omega), List.getElem?_drop, Nat.add_zero] at e2
      rw [Nat.zero_add, ← hvf]
      simpa using e2
  refine ⟨cs, ty, fz, hheap, fun i v hv => ?_⟩
  match i, hv with
  | 0, hv =>
    simp only [List.getElem?_cons_zero, Option.some.injEq] at hv; subst hv
    exact ⟨_, rfl, one 0 b0 r0 f0 (by omega) rfl h0⟩
  | 1, hv =>
    simp only [List.getElem?_cons_succ, List.getElem?_cons_zero, Option.some.injEq] at hv; subst hv
    exact ⟨_, rfl, one 1 b1 r1 f1 (by omega) rfl h1⟩
  | i + 2, hv => simp at hv
theorem plain_part {P : Program} {l : List (String × DataW Unit)} {w : World} (h : laidMetH P l w) : laidMet P (l.filter fun x => x.2.handleName?.isNone) w := by
  unfold laidMetH at h
  generalize hfl : (l.filter fun x => x.2.handleName?.isSome) = fl at h
  cases fl with
  | nil =>
    have e : (l.filter fun x => x.2.handleName?.isNone) = l := by
      rw [List.filter_eq_self]
      intro x hx
      have := (List.filter_eq_nil_iff.1 hfl) x hx
      cases hn : x.2.handleName? with
      | none => rfl
      | some s => rw [hn] at this; exact absurd rfl this
    rw [e]
    exact h
  | cons a b => exact h.1
theorem own : ownKnob Tryz.prog.godebug = none := by kernel_rfl
abbrev laidL : List (String × DataW Unit) := [("mailroom/code.key", Rows.laid_mailroom_code_key), ("mailroom/tlsa.takes", Rows.laid_mailroom_tlsa_takes), ("mailroom/tlsa.makes", Rows.laid_mailroom_tlsa_makes)]
def inD : DataW Unit → DataW Unit
  | .iface _ d => d
  | d => d
theorem takesD : (Rows.laid_mailroom_tlsa_takes : DataW Unit) = .iface "func table" (inD Rows.laid_mailroom_tlsa_takes) := rfl
theorem makesD : (Rows.laid_mailroom_tlsa_makes : DataW Unit) = .iface "func table" (inD Rows.laid_mailroom_tlsa_makes) := rfl
theorem laid3_gok {W : World} (h : laidMetH Tryz.prog laidL W) : GOk W.heap.size W := by
  have hk : Cells W 2 keyC := by
    have hp := plain_part h
    have e : (laidL.filter fun x => x.2.handleName?.isNone) = [("mailroom/code.key", Rows.laid_mailroom_code_key)] := by kernel_rfl
    rw [e] at hp
    obtain ⟨ps, ⟨g0, t0, cs0, f0, p0, q0, hg0, ht0, hv0, hd0, _⟩, _, _⟩ := hp
    obtain rfl := Option.some.inj (gKey.symm.trans hg0)
    exact key_cells (Option.some.inj (tKey.symm.trans ht0)).symm hv0 hd0
  have ht : Cells W 1 takesC := by
    have hp := h.funcs (n := "mailroom/tlsa.takes") (d := inD Rows.laid_mailroom_tlsa_takes) (by rw [← takesD]; simp)
    exact tab_cells (b0 := 109) (r0 := [97, 105, 108, 114, 111, 111, 109, 47, 116, 108, 115, 97, 46, 116, 97, 107, 101, 115, 36, 49]) (b1 := 109) (r1 := [97, 105, 108, 114, 111, 111, 109, 47, 116, 108, 115, 97, 46, 116, 97, 107, 101, 115, 36, 50]) gTakes tTakes u70 u69 takeWord (by kernel_rfl) (by kernel_rfl) (by kernel_rfl) (by kernel_rfl) hp
  have hm : Cells W 0 makesC := by
    have hp := h.funcs (n := "mailroom/tlsa.makes") (d := inD Rows.laid_mailroom_tlsa_makes) (by rw [← makesD]; simp)
    exact tab_cells (b0 := 109) (r0 := [97, 105, 108, 114, 111, 111, 109, 47, 116, 108, 115, 97, 46, 109, 97, 107, 101, 115, 36, 49]) (b1 := 109) (r1 := [97, 105, 108, 114, 111, 111, 109, 47, 99, 111, 100, 101, 46, 83, 117, 109]) gMakes tMakes u68 u46 makeWord (by kernel_rfl) (by kernel_rfl) (by kernel_rfl) (by kernel_rfl) hp
  have low : ∀ {g : Nat} {C : List V}, Cells W g C → g < W.heap.size := fun ⟨_, _, _, hh, _⟩ => (Array.getElem?_eq_some_iff.1 hh).1
  intro k cs hk'
  match k, hk' with
  | 0, hk' => cases hk'; exact ⟨low hm, hm⟩
  | 1, hk' => cases hk'; exact ⟨low ht, ht⟩
  | 2, hk' => cases hk'; exact ⟨low hk, hk⟩
  | k + 3, hk' => cases hk'
end Go.Proofs.YtojpkjahoahedaaGreatDoor
