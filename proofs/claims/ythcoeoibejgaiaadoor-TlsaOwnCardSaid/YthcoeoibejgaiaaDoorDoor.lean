/- The package variables of the door, as the row lists them: what the walk is told of those that it reads. -/
import Derived.Test.YthcoeoibejgaiaaDoorSum
import Derived.ProofKit
import Derived.LaidMore
import Derived.OpenShut
import Derived.Stop.Joined
import Derived.LaidHandle
namespace Go.Proofs.YthcoeoibejgaiaaDoor
open Go Go.Vm Go.RowKit
open Go.ChangeShapes Go.WideShapes Go.ChangeAt Go.WideMaps Go.WideElems
set_option linter.unusedVariables false
set_option linter.unusedSectionVars false
variable [Φ : Frz]
def isFuncT : Option TypeDesc → Bool
 | some (.func _ _ _) => true
 | _ => false
theorem func_of {o : Option TypeDesc} (h : isFuncT o = true) : ∃ ps rs va, o = some (.func ps rs va) := by
 unfold isFuncT at h
 split at h
 ·rename_i ps rs va; exact ⟨ps, rs, va, rfl⟩
 ·cases h
def partsD : DataW Unit → List (DataW Unit)
 | .agg l => l
 | _ => []
def ofD : DataW Unit → V
 | .lit (.int k n) => .int k n
 | _ => .bool false
def inD : DataW Unit → DataW Unit
 | .iface _ d => d
 | d => d
theorem var_heap {P : Program} {w : World} {n : String} {g : Nat} {cs : Array Value} (hg : P.globalNamed n = some g) (h : w.var? P n = some cs) : ∃ t fz, w.heap[g]? = some (.cells cs t fz) := by
 simp only [World.var?, hg, Option.bind_some] at h
 split at h
 ·rename_i c t fz hb; cases h; exact ⟨t, fz, hb⟩
 ·cases h
def Cells (W : World) (g : Nat) (C : List V) : Prop := ∃ arr t fz, W.heap[g]? = some (.cells arr t fz) ∧ ∀ i v, C[i]? = some v → ∃ x, real [] v = some x ∧ arr[0 + i]? = some x
theorem int_cells {W : World} {n : String} {g t0 t e N f0 : Nat} {k : IntKind} {C : List V} {d : DataW Unit} {cs0 : Array Value} {p0 : List MemPlace} {sp : Nat → Bool} {held : Bool} {enc : TypeId × Value → Unit} (hg : Tryd.prog.globalNamed n = some g) (hu : Tryd.prog.underlying t = some (.array N e)) (hk : Tryd.prog.underlying e = some (.int k)) (hw : Tryd.prog.cellsOf e = 1)
  (hd : d = .agg (partsD d)) (hC : C = (partsD d).map ofD) (ht0 : t0 = t) (hv0 : W.var? Tryd.prog n = some cs0) (hd0 : DataW.trod enc Tryd.prog W 0 sp held f0 t0 cs0.toList = some (d, p0)) : Cells W g C := by
 subst ht0
 obtain ⟨ty, fz, hheap⟩ := var_heap hg hv0
 refine ⟨cs0, ty, fz, hheap, fun i v hv => ?_⟩
 obtain ⟨xs, m1, rfl, hx1, hlen, hn, hel⟩ := DataW.trod_array hu hd0
 rw [hd] at hx1
 simp only [Prod.mk.injEq, DataW.agg.injEq] at hx1
 have hD := hx1.1
 rw [hC, hD, List.getElem?_map, List.getElem?_map] at hv
 cases hxi : xs[i]? with
 | none => rw [hxi] at hv; cases hv
 | some x =>
  rw [hxi] at hv
  simp only [Option.map_some, Option.some.injEq] at hv
  have hi : i < N := by rw [← hn]; exact (List.getElem?_eq_some_iff.1 hxi).1
  have h1 := hel i hi
  rw [hxi, hw, Nat.mul_one] at h1
  obtain ⟨a, e0, e1, wa⟩ := DataW.trod_int hk h1
  subst e1
  simp only [ofD] at hv
  subst hv
  refine ⟨.int k a, rfl, ?_⟩
  rw [Nat.zero_add]
  have e2 : ((cs0.toList.drop i).take 1)[0]? = some (Value.int k a) := by rw [e0]; rfl
  rw [List.getElem?_take, if_pos (by omega), List.getElem?_drop, Nat.add_zero] at e2
  simpa using e2
theorem tab_cells {W : World} {n : String} {g : Nat} {t e : TypeId} {d : DataW Unit} {b0 b1 : UInt8} {r0 r1 : List UInt8} {f0 f1 : FuncId} (hg : Tryd.prog.globalNamed n = some g) (ht : (Tryd.prog.globals[g]?).map (·.type) = some t)
  (hu : Tryd.prog.underlying t = some (.array 2 e)) (hf : ∃ ps rs va, Tryd.prog.underlying e = some (.func ps rs va)) (hw : Tryd.prog.cellsOf e = 1) (hc : Tryd.prog.cellsOf t = 2) (hd : d.funcsOut = .agg [.held (b0 :: r0), .held (b1 :: r1)])
  (h0 : ((List.range Tryd.prog.funcs.size).filter fun f => (Tryd.prog.funcs[f]?).any (·.name.toUTF8.data.toList == b0 :: r0)) = [f0])
  (h1 : ((List.range Tryd.prog.funcs.size).filter fun f => (Tryd.prog.funcs[f]?).any (·.name.toUTF8.data.toList == b1 :: r1)) = [f1])
  (h : funcsAt Tryd.prog W n d) : Cells W g [.func (.func f0) [] [], .func (.func f1) [] []] := by
 obtain ⟨ps, rs, va, hfu⟩ := hf
 obtain ⟨g', t', cs, fuel, p, hg', ht', hv, htr⟩ := h
 obtain rfl := Option.some.inj (hg.symm.trans hg')
 obtain rfl := Option.some.inj (ht.symm.trans ht')
 obtain ⟨ty, fz, hheap⟩ := var_heap hg hv
 obtain ⟨xs, m1, rfl, hx1, hlen, hn, hel⟩ := DataW.trod_array hu htr
 rw [hd] at hx1
 simp only [Prod.mk.injEq, DataW.agg.injEq] at hx1
 have hD := hx1.1
 have one : ∀ (i : Nat) (b : UInt8) (r : List UInt8) (f : FuncId), i < 2 → ([DataW.held (b0 :: r0), .held (b1 :: r1)] : List (DataW (List UInt8)))[i]? = some (.held (b :: r)) →
   ((List.range Tryd.prog.funcs.size).filter fun f => (Tryd.prog.funcs[f]?).any (·.name.toUTF8.data.toList == b :: r)) = [f] → cs[0 + i]? = some (.func (.func f) #[] #[]) := by
  intro i b r f hi hb hone
  rw [hD, List.getElem?_map] at hb
  cases hxi : xs[i]? with
  | none => rw [hxi] at hb; cases hb
  | some x =>
   rw [hxi] at hb
   simp only [Option.map_some, Option.some.injEq] at hb
   have h2 := hel i hi
   rw [hxi, hw, Nat.mul_one] at h2
   have hl : ∃ v, (cs.toList.drop i).take 1 = [v] := by
    have hcs : cs.toList.length = 2 := by
     have := hlen
     rw [hc] at this
     simpa using this
    cases hq : cs.toList.drop i with
    | nil => have := congrArg List.length hq; simp at this; simp at hcs; omega
    | cons v q => exact ⟨v, rfl⟩
   obtain ⟨v, hvv⟩ := hl
   rw [hvv] at h2
   obtain ⟨y, q⟩ := x
   simp only at hb
   subst hb
   have hvf := func_of_trod hfu hone h2
   have e2 : ((cs.toList.drop i).take 1)[0]? = some v := by rw [hvv]; rfl
   rw [List.getElem?_take, if_pos (by omega), List.getElem?_drop, Nat.add_zero] at e2
   rw [Nat.zero_add, ← hvf]
   simpa using e2
 refine ⟨cs, ty, fz, hheap, fun i v hv => ?_⟩
 match i, hv with
 | 0, hv =>
  simp only [List.getElem?_cons_zero, Option.some.injEq] at hv; subst hv
  exact ⟨_, rfl, one 0 b0 r0 f0 (by omega) rfl h0⟩
 | 1, hv =>
  simp only [List.getElem?_cons_succ, List.getElem?_cons_zero, Option.some.injEq] at hv; subst hv
  exact ⟨_, rfl, one 1 b1 r1 f1 (by omega) rfl h1⟩
 | i + 2, hv => simp at hv
theorem plain_part {P : Program} {l : List (String × DataW Unit)} {w : World} (h : laidMetH P l w) : laidMet P (l.filter fun x => x.2.handleName?.isNone) w := by
 unfold laidMetH at h
 generalize hfl : (l.filter fun x => x.2.handleName?.isSome) = fl at h
 cases fl with
 | nil =>
  have e : (l.filter fun x => x.2.handleName?.isNone) = l := by
   rw [List.filter_eq_self]
   intro x hx
   have := (List.filter_eq_nil_iff.1 hfl) x hx
   cases hn : x.2.handleName? with
   | none => rfl
   | some s => rw [hn] at this; exact absurd rfl this
  rw [e]
  exact h
 | cons a b => exact h.1
theorem laid_var {P : Program} {w : World} {n : String} {d : DataW Unit} : ∀ {l : List (String × DataW Unit)} {ps : List MemPlace}, DataW.LaidVars P w l ps → (n, d) ∈ l → ∃ g t cs fuel p, P.globalNamed n = some g ∧ (P.globals[g]?).map (·.type) = some t ∧ w.var? P n = some cs ∧ DataW.trod (fun _ => ()) P w 0 (fun _ => true) false fuel t cs.toList = some (d, p)
 | [], _, _, h => by cases h
 |(n', d') :: r, ps, h, hm => by
  obtain ⟨g, t, cs, fuel, p, q, h1, h2, h3, h4, h5, _⟩ := h
  rcases List.mem_cons.1 hm with e | hm
  ·cases e; exact ⟨g, t, cs, fuel, p, h1, h2, h3, h4⟩
  ·exact laid_var h5 hm
theorem plain_var {P : Program} {l : List (String × DataW Unit)} {w : World} (h : laidMetH P l w) {n : String} {d : DataW Unit} (hm : (n, d) ∈ l) (hn : d.handleName?.isNone = true) : ∃ g t cs fuel p, P.globalNamed n = some g ∧ (P.globals[g]?).map (·.type) = some t ∧ w.var? P n = some cs ∧ DataW.trod (fun _ => ()) P w 0 (fun _ => true) false fuel t cs.toList = some (d, p) := by
 obtain ⟨ps, hl, _, _⟩ := plain_part h
 exact laid_var hl (List.mem_filter.2 ⟨hm, hn⟩)
theorem own : ownKnob Tryd.prog.godebug = none := by kernel_rfl
theorem cells_4 {W : World} (h : laidMetH Tryd.prog Rows.tlsaOwnRow.laid W) : Cells W 4 powC := by
 have hm : ("internal/strconv.uint64pow10", (Rows.laid_internal_strconv_uint64pow10 : DataW Unit)) ∈ Rows.tlsaOwnRow.laid := List.mem_of_getElem? (i := 2) rfl
 obtain ⟨g, t, cs, fuel, p, h1, h2, h3, h4⟩ := plain_var h hm rfl
 have e1 : Tryd.prog.globalNamed "internal/strconv.uint64pow10" = some 4 := by kernel_rfl
 obtain rfl := Option.some.inj (e1.symm.trans h1)
 have e2 : (Tryd.prog.globals[4]?).map (·.type) = some 137 := by kernel_rfl
 exact int_cells (n := "internal/strconv.uint64pow10") (t := 137) (e := 88) (N := 20) (k := .u64) e1 (by kernel_rfl) (by kernel_rfl) (by kernel_rfl) rfl (by kernel_rfl) (Option.some.inj (e2.symm.trans h2)).symm h3 h4
theorem cells_2 {W : World} (h : laidMetH Tryd.prog Rows.tlsaOwnRow.laid W) : Cells W 2 keyC := by
 have hm : ("mailroom/code.key", (Rows.laid_mailroom_code_key : DataW Unit)) ∈ Rows.tlsaOwnRow.laid := List.mem_of_getElem? (i := 3) rfl
 obtain ⟨g, t, cs, fuel, p, h1, h2, h3, h4⟩ := plain_var h hm rfl
 have e1 : Tryd.prog.globalNamed "mailroom/code.key" = some 2 := by kernel_rfl
 obtain rfl := Option.some.inj (e1.symm.trans h1)
 have e2 : (Tryd.prog.globals[2]?).map (·.type) = some 90 := by kernel_rfl
 exact int_cells (n := "mailroom/code.key") (t := 90) (e := 85) (N := 64) (k := .u32) e1 (by kernel_rfl) (by kernel_rfl) (by kernel_rfl) rfl (by kernel_rfl) (Option.some.inj (e2.symm.trans h2)).symm h3 h4
theorem cells_1 {W : World} (h : laidMetH Tryd.prog Rows.tlsaOwnRow.laid W) : Cells W 1 takesC := by
 have hm : ("mailroom/tlsa.takes", DataW.iface "func table" (inD (Rows.laid_mailroom_tlsa_takes : DataW Unit))) ∈ Rows.tlsaOwnRow.laid := List.mem_of_getElem? (i := 4) rfl
 exact tab_cells (t := 64) (e := 63) (b0 := 109) (r0 := [97, 105, 108, 114, 111, 111, 109, 47, 116, 108, 115, 97, 46, 116, 97, 107, 101, 115, 36, 49]) (b1 := 109) (r1 := [97, 105, 108, 114, 111, 111, 109, 47, 116, 108, 115, 97, 46, 116, 97, 107, 101, 115, 36, 50]) (f0 := 117) (f1 := 118) (by kernel_rfl) (by kernel_rfl) (by kernel_rfl) (func_of (by kernel_rfl)) (by kernel_rfl) (by kernel_rfl) (by kernel_rfl) (by kernel_rfl) (by kernel_rfl) (h.funcs hm)
theorem cells_0 {W : World} (h : laidMetH Tryd.prog Rows.tlsaOwnRow.laid W) : Cells W 0 makesC := by
 have hm : ("mailroom/tlsa.makes", DataW.iface "func table" (inD (Rows.laid_mailroom_tlsa_makes : DataW Unit))) ∈ Rows.tlsaOwnRow.laid := List.mem_of_getElem? (i := 5) rfl
 exact tab_cells (t := 62) (e := 39) (b0 := 109) (r0 := [97, 105, 108, 114, 111, 111, 109, 47, 116, 108, 115, 97, 46, 109, 97, 107, 101, 115, 36, 49]) (b1 := 109) (r1 := [97, 105, 108, 114, 111, 111, 109, 47, 99, 111, 100, 101, 46, 83, 117, 109]) (f0 := 116) (f1 := 28) (by kernel_rfl) (by kernel_rfl) (by kernel_rfl) (func_of (by kernel_rfl)) (by kernel_rfl) (by kernel_rfl) (by kernel_rfl) (by kernel_rfl) (by kernel_rfl) (h.funcs hm)
theorem laid_gok {W : World} (hΦ : ∀ k o, Φ.φ k = some o → W.heap[k]? = some o) (h : laidMetH Tryd.prog Rows.tlsaOwnRow.laid W) : GOk W.heap.size W := by
 have low : ∀ {g : Nat} {C : List V}, Cells W g C → g < W.heap.size := fun ⟨_, _, _, hh, _⟩ => (Array.getElem?_eq_some_iff.1 hh).1
 refine ⟨fun k cs hk => ?_, fun k hk => ?_, fun k o hk => ⟨(Array.getElem?_eq_some_iff.1 (hΦ k o hk)).1, hΦ k o hk⟩⟩
 ·have fin : ∀ {g : Nat} {C : List V}, Cells W g C → g < W.heap.size ∧ ∃ arr t fz, W.heap[g]? = some (.cells arr t fz) ∧ (∀ i v, C[i]? = some v → ∃ x, real [] v = some x ∧ arr[0 + i]? = some x) := fun hc => ⟨low hc, hc⟩
  match k, hk with
  | 0, hk => cases hk; obtain ⟨a, arr, t, fz, h1, h2⟩ := fin (cells_0 h); exact ⟨a, arr, t, fz, h1, h2, fun hf => by cases hf⟩
  | 1, hk => cases hk; obtain ⟨a, arr, t, fz, h1, h2⟩ := fin (cells_1 h); exact ⟨a, arr, t, fz, h1, h2, fun hf => by cases hf⟩
  | 2, hk => cases hk; obtain ⟨a, arr, t, fz, h1, h2⟩ := fin (cells_2 h); exact ⟨a, arr, t, fz, h1, h2, fun hf => by cases hf⟩
  | 4, hk => cases hk; obtain ⟨a, arr, t, fz, h1, h2⟩ := fin (cells_4 h); exact ⟨a, arr, t, fz, h1, h2, fun hf => by cases hf⟩
  | 3, hk => cases hk
  | k + 5, hk => cases hk
 ·cases hk
end Go.Proofs.YthcoeoibejgaiaaDoor
