/- The package variables of the door, as the row lists them: what the walk is told of those that it reads. -/
import Derived.Test.YtlacmijbjdpbpaaDoorCBase
import Derived.ProofKit
import Derived.LaidMore
import Derived.OpenShut
import Derived.Stop.Joined
import Derived.LaidHandle
namespace Go.Proofs.YtlacmijbjdpbpaaDoor
open Go Go.Vm Go.RowKit
open Go.ChangeShapes Go.WideShapes Go.ChangeAt Go.WideMaps Go.WideElems
def isS2 : Option TypeDesc → Option (Field × Field)
  | some (.struct fs) => match fs.toList with
    | [a, b] => some (a, b)
    | _ => none
  | _ => none
set_option linter.unusedVariables false
set_option linter.unusedSectionVars false
def isFuncT : Option TypeDesc → Bool
  | some (.func _ _ _) => true
  | _ => false
theorem func_of {o : Option TypeDesc} (h : isFuncT o = true) : ∃ ps rs va, o = some (.func ps rs va) := by
  unfold isFuncT at h
  split at h
  · rename_i ps rs va; exact ⟨ps, rs, va, rfl⟩
  · cases h
def partsD : DataW Unit → List (DataW Unit)
  | .agg l => l
  | _ => []
def ofD : DataW Unit → V
  | .lit (.int k n) => .int k n
  | _ => .bool false
def inD : DataW Unit → DataW Unit
  | .iface _ d => d
  | d => d
theorem var_heap {P : Program} {w : World} {n : String} {g : Nat} {cs : Array Value} (hg : P.globalNamed n = some g) (h : w.var? P n = some cs) : ∃ t fz, w.heap[g]? = some (.cells cs t fz) := by
  simp only [World.var?, hg, Option.bind_some] at h
  split at h
  · rename_i c t fz hb; cases h; exact ⟨t, fz, hb⟩
  · cases h
section
variable [EA : ErrAt]
/-- What is known of a variable's cells. -/
def Cells (W : World) (g : Nat) (C : List V) : Prop := ∃ arr t fz, W.heap[g]? = some (.cells arr t fz) ∧ ∀ i v, C[i]? = some v → ∃ x, real [] v = some x ∧ arr[0 + i]? = some x
/-- A table of numbers. -/
theorem int_cells {W : World} {n : String} {g t0 t e N f0 : Nat} {k : IntKind} {C : List V} {d : DataW Unit} {cs0 : Array Value} {p0 : List MemPlace} {sp : Nat → Bool} {held : Bool} {enc : TypeId × Value → Unit} (hg : Tryd.prog.globalNamed n = some g) (hu : Tryd.prog.underlying t = some (.array N e)) (hk : Tryd.prog.underlying e = some (.int k)) (hw : Tryd.prog.cellsOf e = 1)
    (hd : d = .agg (partsD d)) (hC : C = (partsD d).map ofD) (ht0 : t0 = t) (hv0 : W.var? Tryd.prog n = some cs0) (hd0 : DataW.trod enc Tryd.prog W 0 sp held f0 t0 cs0.toList = some (d, p0)) : Cells W g C := by
  subst ht0
  obtain ⟨ty, fz, hheap⟩ := var_heap hg hv0
  refine ⟨cs0, ty, fz, hheap, fun i v hv => ?_⟩
  obtain ⟨xs, m1, rfl, hx1, hlen, hn, hel⟩ := DataW.trod_array hu hd0
  rw [hd] at hx1
  simp only [Prod.mk.injEq, DataW.agg.injEq] at hx1
  have hD := hx1.1
  rw [hC, hD, List.getElem?_map, List.getElem?_map] at hv
  cases hxi : xs[i]? with
  | none => rw [hxi] at hv; cases hv
  | some x =>
    rw [hxi] at hv
    simp only [Option.map_some, Option.some.injEq] at hv
    have hi : i < N := by rw [← hn]; exact (List.getElem?_eq_some_iff.1 hxi).1
    have h1 := hel i hi
    rw [hxi, hw, Nat.mul_one] at h1
    obtain ⟨a, e0, e1, wa⟩ := DataW.trod_int hk h1
    subst e1
    simp only [ofD] at hv
    subst hv
    refine ⟨.int k a, rfl, ?_⟩
    rw [Nat.zero_add]
    have e2 : ((cs0.toList.drop i).take 1)[0]? = some (Value.int k a) := by rw [e0]; rfl
    rw [List.getElem?_take, if_pos (by omega), List.getElem?_drop, Nat.add_zero] at e2
    simpa using e2
/-- A table of two functions. -/
theorem tab_cells {W : World} {n : String} {g : Nat} {t e : TypeId} {d : DataW Unit} {b0 b1 : UInt8} {r0 r1 : List UInt8} {f0 f1 : FuncId} (hg : Tryd.prog.globalNamed n = some g) (ht : (Tryd.prog.globals[g]?).map (·.type) = some t)
    (hu : Tryd.prog.underlying t = some (.array 2 e)) (hf : ∃ ps rs va, Tryd.prog.underlying e = some (.func ps rs va)) (hw : Tryd.prog.cellsOf e = 1) (hc : Tryd.prog.cellsOf t = 2) (hd : d.funcsOut = .agg [.held (b0 :: r0), .held (b1 :: r1)])
    (h0 : ((List.range Tryd.prog.funcs.size).filter fun f => (Tryd.prog.funcs[f]?).any (·.name.toUTF8.data.toList == b0 :: r0)) = [f0])
    (h1 : ((List.range Tryd.prog.funcs.size).filter fun f => (Tryd.prog.funcs[f]?).any (·.name.toUTF8.data.toList == b1 :: r1)) = [f1])
    (h : funcsAt Tryd.prog W n d) : Cells W g [.func (.func f0) [] [], .func (.func f1) [] []] := by
  obtain ⟨ps, rs, va, hfu⟩ := hf
  obtain ⟨g', t', cs, fuel, p, hg', ht', hv, htr⟩ := h
  obtain rfl := Option.some.inj (hg.symm.trans hg')
  obtain rfl := Option.some.inj (ht.symm.trans ht')
  obtain ⟨ty, fz, hheap⟩ := var_heap hg hv
  obtain ⟨xs, m1, rfl, hx1, hlen, hn, hel⟩ := DataW.trod_array hu htr
  rw [hd] at hx1
  simp only [Prod.mk.injEq, DataW.agg.injEq] at hx1
  have hD := hx1.1
  have one : ∀ (i : Nat) (b : UInt8) (r : List UInt8) (f : FuncId), i < 2 → ([DataW.held (b0 :: r0), .held (b1 :: r1)] : List (DataW (List UInt8)))[i]? = some (.held (b :: r)) →
      ((List.range Tryd.prog.funcs.size).filter fun f => (Tryd.prog.funcs[f]?).any (·.name.toUTF8.data.toList == b :: r)) = [f] → cs[0 + i]? = some (.func (.func f) #[] #[]) := by
    intro i b r f hi hb hone
    rw [hD, List.getElem?_map] at hb
    cases hxi : xs[i]? with
    | none => rw [hxi] at hb; cases hb
    | some x =>
      rw [hxi] at hb
      simp only [Option.map_some, Option.some.injEq] at hb
      have h2 := hel i hi
      rw [hxi, hw, Nat.mul_one] at h2
      have hl : ∃ v, (cs.toList.drop i).take 1 = [v] := by
        have hcs : cs.toList.length = 2 := by
          have := hlen
          rw [hc] at this
          simpa using this
        cases hq : cs.toList.drop i with
        | nil => have := congrArg List.length hq; simp at this; simp at hcs; omega
        | cons v q => exact ⟨v, rfl⟩
      obtain ⟨v, hvv⟩ := hl
      rw [hvv] at h2
      obtain ⟨y, q⟩ := x
      simp only at hb
      subst hb
      have hvf := func_of_trod hfu hone h2
      have e2 : ((cs.toList.drop i).take 1)[0]? = some v := by rw [hvv]; rfl
      rw [List.getElem?_take, if_pos (by omega), List.getElem?_drop, Nat.add_zero] at e2
      rw [Nat.zero_add, ← hvf]
      simpa using e2
  refine ⟨cs, ty, fz, hheap, fun i v hv => ?_⟩
  match i, hv with
  | 0, hv =>
    simp only [List.getElem?_cons_zero, Option.some.injEq] at hv; subst hv
    exact ⟨_, rfl, one 0 b0 r0 f0 (by omega) rfl h0⟩
  | 1, hv =>
    simp only [List.getElem?_cons_succ, List.getElem?_cons_zero, Option.some.injEq] at hv; subst hv
    exact ⟨_, rfl, one 1 b1 r1 f1 (by omega) rfl h1⟩
  | i + 2, hv => simp at hv
end
theorem plain_part {P : Program} {l : List (String × DataW Unit)} {w : World} (h : laidMetH P l w) : laidMet P (l.filter fun x => x.2.handleName?.isNone) w := by
  unfold laidMetH at h
  generalize hfl : (l.filter fun x => x.2.handleName?.isSome) = fl at h
  cases fl with
  | nil =>
    have e : (l.filter fun x => x.2.handleName?.isNone) = l := by
      rw [List.filter_eq_self]
      intro x hx
      have := (List.filter_eq_nil_iff.1 hfl) x hx
      cases hn : x.2.handleName? with
      | none => rfl
      | some s => rw [hn] at this; exact absurd rfl this
    rw [e]
    exact h
  | cons a b => exact h.1
theorem laid_var {P : Program} {w : World} {n : String} {d : DataW Unit} : ∀ {l : List (String × DataW Unit)} {ps : List MemPlace}, DataW.LaidVars P w l ps → (n, d) ∈ l → ∃ g t cs fuel p, P.globalNamed n = some g ∧ (P.globals[g]?).map (·.type) = some t ∧ w.var? P n = some cs ∧ DataW.trod (fun _ => ()) P w 0 (fun _ => true) false fuel t cs.toList = some (d, p)
  | [], _, _, h => by cases h
  | (n', d') :: r, ps, h, hm => by
    obtain ⟨g, t, cs, fuel, p, q, h1, h2, h3, h4, h5, _⟩ := h
    rcases List.mem_cons.1 hm with e | hm
    · cases e; exact ⟨g, t, cs, fuel, p, h1, h2, h3, h4⟩
    · exact laid_var h5 hm
theorem plain_var {P : Program} {l : List (String × DataW Unit)} {w : World} (h : laidMetH P l w) {n : String} {d : DataW Unit} (hm : (n, d) ∈ l) (hn : d.handleName?.isNone = true) : ∃ g t cs fuel p, P.globalNamed n = some g ∧ (P.globals[g]?).map (·.type) = some t ∧ w.var? P n = some cs ∧ DataW.trod (fun _ => ()) P w 0 (fun _ => true) false fuel t cs.toList = some (d, p) := by
  obtain ⟨ps, hl, _, _⟩ := plain_part h
  exact laid_var hl (List.mem_filter.2 ⟨hm, hn⟩)
theorem ownC : ownKnob Tryd.prog.godebug = none := by kernel_rfl
section
variable [EA : ErrAt]
theorem cells_1 {W : World} (h : laidMetH Tryd.prog Rows.capsNamesRow.laid W) : Cells W 1 firstC := by
  have hm : ("unicode/utf8.first", (Rows.laid_unicode_utf8_first : DataW Unit)) ∈ Rows.capsNamesRow.laid := List.mem_of_getElem? (i := 6) rfl
  obtain ⟨g, t, cs, fuel, p, h1, h2, h3, h4⟩ := plain_var h hm rfl
  have e1 : Tryd.prog.globalNamed "unicode/utf8.first" = some 1 := by kernel_rfl
  obtain rfl := Option.some.inj (e1.symm.trans h1)
  have e2 : (Tryd.prog.globals[1]?).map (·.type) = some 151 := by kernel_rfl
  exact int_cells (n := "unicode/utf8.first") (t := 151) (e := 5) (N := 256) (k := .u8) e1 (by kernel_rfl) (by kernel_rfl) (by kernel_rfl) rfl (by kernel_rfl) (Option.some.inj (e2.symm.trans h2)).symm h3 h4
theorem cells_2 {W : World} (h : laidMetH Tryd.prog Rows.capsNamesRow.laid W) : Cells W 2 accC := by
  have hm : ("unicode/utf8.acceptRanges", (Rows.laid_unicode_utf8_acceptRanges : DataW Unit)) ∈ Rows.capsNamesRow.laid := List.mem_of_getElem? (i := 3) rfl
  obtain ⟨g, t, cs, fuel, p, h1, h2, h3, h4⟩ := plain_var h hm rfl
  have e1 : Tryd.prog.globalNamed "unicode/utf8.acceptRanges" = some 2 := by kernel_rfl
  obtain rfl := Option.some.inj (e1.symm.trans h1)
  have e2 : (Tryd.prog.globals[2]?).map (·.type) = some 154 := by kernel_rfl
  obtain rfl := Option.some.inj (e2.symm.trans h2)
  obtain ⟨ty, fz, hheap⟩ := var_heap e1 h3
  obtain ⟨xs, m1, rfl, hx1, hlen, hn, hel⟩ := DataW.trod_array (n := 16) (e := 153) (by kernel_rfl) h4
  have eD : (Rows.laid_unicode_utf8_acceptRanges : DataW Unit) = .agg ((List.range 16).map fun i => .agg [.lit (.int .u8 (Lib.accLo i)), .lit (.int .u8 (Lib.accHi i))]) := by kernel_rfl
  rw [eD] at hx1
  simp only [Prod.mk.injEq, DataW.agg.injEq] at hx1
  have hD := hx1.1
  have hsz : cs.size = 32 := by
    have hc : Tryd.prog.cellsOf 154 = 32 := by kernel_rfl
    rw [hc] at hlen; simpa using hlen
  have hc2 : Tryd.prog.cellsOf 153 = 2 := by kernel_rfl
  have both : ∀ i, i < 16 → cs[2 * i]? = some (.int .u8 (Lib.accLo i)) ∧ cs[2 * i + 1]? = some (.int .u8 (Lib.accHi i)) := by
    intro i hi
    have h1 := hel i hi
    rw [hc2] at h1
    have h5 : ((List.range 16).map fun i => (DataW.agg [.lit (.int .u8 (Lib.accLo i)), .lit (.int .u8 (Lib.accHi i))] : DataW Unit))[i]? = some (.agg [.lit (.int .u8 (Lib.accLo i)), .lit (.int .u8 (Lib.accHi i))]) := by
      rw [List.getElem?_map, List.getElem?_range hi]; rfl
    rw [hD, List.getElem?_map] at h5
    cases hxi : xs[i]? with
    | none => rw [hxi] at h5; cases h5
    | some x =>
      rw [hxi] at h5 h1
      simp only [Option.map_some, Option.some.injEq] at h5
      obtain ⟨y0, y1, n, rfl, hl, q0, q1⟩ := trod_struct2 Tryd.underlying153 h1
      simp only [DataW.agg.injEq, List.cons.injEq, and_true] at h5
      have c5 : Tryd.prog.cellsOf 5 = 1 := by kernel_rfl
      replace q0 : DataW.trod (fun _ => ()) Tryd.prog W 0 (fun _ => true) false n 5 ((((cs.toList.drop (i * 2)).take 2).drop 0).take (Tryd.prog.cellsOf 5)) = some y0 := q0
      replace q1 : DataW.trod (fun _ => ()) Tryd.prog W 0 (fun _ => true) false n 5 ((((cs.toList.drop (i * 2)).take 2).drop 1).take (Tryd.prog.cellsOf 5)) = some y1 := q1
      rw [c5] at q0 q1
      obtain ⟨a, e0, e1, wa⟩ := DataW.trod_int (k := .u8) (by kernel_rfl) q0
      obtain ⟨b, e2, e3, wb⟩ := DataW.trod_int (k := .u8) (by kernel_rfl) q1
      subst e1; subst e3
      simp only [DataW.lit.injEq, Lit.int.injEq, true_and] at h5
      obtain ⟨ha, hb⟩ := h5
      subst ha; subst hb
      have e2' : ((((cs.toList.drop (i * 2)).take 2).drop 0).take 1)[0]? = some (Value.int .u8 (Lib.accLo i)) := by rw [e0]; rfl
      have e3' : ((((cs.toList.drop (i * 2)).take 2).drop 1).take 1)[0]? = some (Value.int .u8 (Lib.accHi i)) := by rw [e2]; rfl
      simp only [List.getElem?_take, List.getElem?_drop] at e2' e3'
      have m2 : i * 2 = 2 * i := by omega
      constructor
      · simpa [m2] using e2'
      · simpa [m2] using e3'
  refine ⟨cs, ty, fz, hheap, fun i v hv => ?_⟩
  have hi : i < 32 := by
    have hl : accC.length = 32 := by kernel_rfl
    rw [← hl]; exact (List.getElem?_eq_some_iff.1 hv).1
  rw [Nat.zero_add]
  rcases (show (∃ j, j < 16 ∧ i = 2 * j) ∨ (∃ j, j < 16 ∧ i = 2 * j + 1) by
    rcases Nat.mod_two_eq_zero_or_one i with h0 | h0
    · exact .inl ⟨i / 2, by omega, by omega⟩
    · exact .inr ⟨i / 2, by omega, by omega⟩) with ⟨j, hj, rfl⟩ | ⟨j, hj, rfl⟩
  · have := (pairs_get (f := fun i => V.int .u8 (Lib.accLo i)) (g := fun i => V.int .u8 (Lib.accHi i)) hj).1
    have e := this.symm.trans hv
    cases e
    exact ⟨_, rfl, (both j hj).1⟩
  · have := (pairs_get (f := fun i => V.int .u8 (Lib.accLo i)) (g := fun i => V.int .u8 (Lib.accHi i)) hj).2
    have e := this.symm.trans hv
    cases e
    exact ⟨_, rfl, (both j hj).2⟩
theorem cells_6 {W : World} (h : laidMetH Tryd.prog Rows.capsNamesRow.laid W) : Cells W 6 powC := by
  have hm : ("internal/strconv.uint64pow10", (Rows.laid_internal_strconv_uint64pow10 : DataW Unit)) ∈ Rows.capsNamesRow.laid := List.mem_of_getElem? (i := 2) rfl
  obtain ⟨g, t, cs, fuel, p, h1, h2, h3, h4⟩ := plain_var h hm rfl
  have e1 : Tryd.prog.globalNamed "internal/strconv.uint64pow10" = some 6 := by kernel_rfl
  obtain rfl := Option.some.inj (e1.symm.trans h1)
  have e2 : (Tryd.prog.globals[6]?).map (·.type) = some 187 := by kernel_rfl
  exact int_cells (n := "internal/strconv.uint64pow10") (t := 187) (e := 75) (N := 20) (k := .u64) e1 (by kernel_rfl) (by kernel_rfl) (by kernel_rfl) rfl (by kernel_rfl) (Option.some.inj (e2.symm.trans h2)).symm h3 h4
end
theorem laid_var2 {P : Program} {w : World} {n : String} {d : DataW Unit} : ∀ {l : List (String × DataW Unit)} {ps : List MemPlace}, DataW.LaidVars P w l ps → (n, d) ∈ l → ∃ g t cs fuel p, P.globalNamed n = some g ∧ (P.globals[g]?).map (·.type) = some t ∧ w.var? P n = some cs ∧ DataW.trod (fun _ => ()) P w 0 (fun _ => true) false fuel t cs.toList = some (d, p) ∧ ∀ i, i < cs.size → MemPlace.cell g i ∈ ps
  | [], _, _, h => by cases h
  | (n', d') :: r, ps, h, hm => by
    obtain ⟨g, t, cs, fuel, p, q, h1, h2, h3, h4, h5, h6⟩ := h
    rcases List.mem_cons.1 hm with e | hm
    · cases e
      refine ⟨g, t, cs, fuel, p, h1, h2, h3, h4, fun i hi => ?_⟩
      rw [h6]
      refine List.mem_append_left _ (List.mem_append_left _ ?_)
      exact List.mem_map.2 ⟨i, List.mem_range.2 hi, by simp⟩
    · obtain ⟨g2, t2, cs2, fuel2, p2, k1, k2, k3, k4, k5⟩ := laid_var2 h5 hm
      exact ⟨g2, t2, cs2, fuel2, p2, k1, k2, k3, k4, fun i hi => by rw [h6]; exact List.mem_append_right _ (k5 i hi)⟩
theorem trod_iface {P : Program} {w : World} {base : Nat} {sp : Nat → Bool} {fuel : Nat} {t : TypeId} {cs : List Value} {enc : TypeId × Value → Unit} {name : String} {d : DataW Unit} {p : List MemPlace} (ht : ∃ ms, P.underlying t = some (.interface ms)) (h : DataW.trod enc P w base sp false fuel t cs = some (.iface name d, p)) :
    ∃ u v m, cs = [.iface u v] ∧ P.typeName? 3 u = some name ∧ DataW.trod enc P w base sp false m u v.cells.toList = some (d, p) := by
  obtain ⟨ms, ht⟩ := ht
  cases fuel with
  | zero => simp [DataW.trod] at h
  | succ n =>
    unfold DataW.trod at h
    rw [ht] at h
    split at h <;> simp_all
    rename_i u v hh
    cases hn : P.typeName? 3 u with
    | none => rw [hn] at h; simp at h
    | some nm =>
      rw [hn] at h
      simp only [Option.map_eq_some_iff] at h
      obtain ⟨x, hx, he⟩ := h
      simp only [Prod.mk.injEq, DataW.iface.injEq] at he
      obtain ⟨⟨rfl, rfl⟩, rfl⟩ := he
      refine ⟨u, v, ?_⟩
      first | exact ⟨⟨rfl, rfl⟩, hn, n, hx⟩ | exact ⟨n, ⟨rfl, rfl⟩, hn, hx⟩ | exact ⟨rfl, hn, n, hx⟩ | exact ⟨n, rfl, hn, hx⟩ | exact ⟨n, by simp, hn, hx⟩
def errD : DataW Unit := match (Rows.laid_strconv_ErrRange : DataW Unit) with
  | .iface _ (.ptr d) => d
  | d => d
theorem trod_ptr_of {P : Program} {w : World} {base : Nat} {sp : Nat → Bool} {held : Bool} {fuel : Nat} {t : TypeId} {cs : List Value} {enc : TypeId × Value → Unit} {d : DataW Unit} {p : List MemPlace} (h : DataW.trod enc P w base sp held fuel t cs = some (.ptr d, p)) : ∃ e, P.underlying t = some (.pointer e) := by
  cases fuel with
  | zero => simp [DataW.trod] at h
  | succ n =>
    unfold DataW.trod at h
    cases hu : P.underlying t with
    | none => rw [hu] at h; simp at h
    | some u =>
      rw [hu] at h
      cases u with
      | pointer e => exact ⟨e, rfl⟩
      | _ =>
        exfalso
        revert h
        simp only
        repeat' split
        all_goals (intro h; simp_all [Option.bind_eq_some_iff])
theorem trod_lit_nil {P : Program} {w : World} {base : Nat} {sp : Nat → Bool} {held : Bool} {fuel : Nat} {t : TypeId} {enc : TypeId × Value → Unit} {l : Lit} {p : List MemPlace} (h : DataW.trod enc P w base sp held fuel t [] = some (.lit l, p)) : False := by
  cases fuel with
  | zero => simp [DataW.trod] at h
  | succ n =>
    unfold DataW.trod at h
    cases hu : P.underlying t with
    | none => rw [hu] at h; simp at h
    | some u =>
      rw [hu] at h
      revert h
      simp only
      repeat' split
      all_goals (intro h; simp_all [Option.bind_eq_some_iff])
theorem mapM_one {α β : Type} {f : α → Option β} : ∀ {l : List α} {y : β}, l.mapM f = some [y] → ∃ x, f x = some y
  | [], y, h => by simp at h
  | x :: l, y, h => by
    simp only [List.mapM_cons, Option.bind_eq_bind, Option.bind_eq_some_iff, Option.pure_def, Option.some.injEq, List.cons.injEq] at h
    obtain ⟨a, ha, b, hb, rfl, rfl⟩ := h
    exact ⟨x, ha⟩
theorem trod_agg_nil {P : Program} {w : World} {base : Nat} {sp : Nat → Bool} {held : Bool} {fuel : Nat} {t : TypeId} {enc : TypeId × Value → Unit} {l : Lit} {p : List MemPlace} (h : DataW.trod enc P w base sp held fuel t [] = some (.agg [.lit l], p)) : False := by
  cases fuel with
  | zero => simp [DataW.trod] at h
  | succ n =>
    unfold DataW.trod at h
    cases hu : P.underlying t with
    | none => rw [hu] at h; simp at h
    | some u =>
      rw [hu] at h
      cases u with
      | struct fs =>
        simp only at h
        split at h
        · simp only [List.drop_nil, List.take_nil, Option.map_eq_some_iff, Prod.mk.injEq, DataW.agg.injEq] at h
          obtain ⟨xs, hx, h1, _⟩ := h
          match xs, hx, h1 with
          | [(y, q)], hx, h1 =>
            simp only [List.map_cons, List.map_nil, List.cons.injEq, and_true] at h1
            subst h1
            obtain ⟨x, hx⟩ := mapM_one hx
            exact trod_lit_nil hx
          | [], hx, h1 => simp at h1
          | a :: b :: r, hx, h1 => simp at h1
        · cases h
      | array k e =>
        simp only at h
        split at h
        · simp only [List.drop_nil, List.take_nil, Option.map_eq_some_iff, Prod.mk.injEq, DataW.agg.injEq] at h
          obtain ⟨xs, hx, h1, _⟩ := h
          match xs, hx, h1 with
          | [(y, q)], hx, h1 =>
            simp only [List.map_cons, List.map_nil, List.cons.injEq, and_true] at h1
            subst h1
            obtain ⟨x, hx⟩ := mapM_one hx
            exact trod_lit_nil hx
          | [], hx, h1 => simp at h1
          | a :: b :: r, hx, h1 => simp at h1
        · cases h
      | _ =>
        exfalso
        revert h
        simp only
        repeat' split
        all_goals (intro h; simp_all [Option.bind_eq_some_iff])
set_option maxRecDepth 100000 in
theorem err_cell {W : World} (h : laidMetH Tryd.prog Rows.capsNamesRow.laid W) : ∃ tp b o arr t fz, W.heap[5]? = some (.cells arr t fz) ∧ arr[0]? = some (.iface tp (.pointer (some ⟨b, o, none⟩))) := by
  have hm : ("strconv.ErrRange", (Rows.laid_strconv_ErrRange : DataW Unit)) ∈ Rows.capsNamesRow.laid := List.mem_of_getElem? (i := 4) rfl
  obtain ⟨ps, hl, _, hw⟩ := plain_part h
  obtain ⟨g, t, cs, fuel, p, h1, h2, h3, h4, h5⟩ := laid_var2 hl (List.mem_filter.2 ⟨hm, rfl⟩)
  have e1 : Tryd.prog.globalNamed "strconv.ErrRange" = some 5 := by kernel_rfl
  obtain rfl := Option.some.inj (e1.symm.trans h1)
  have e2 : (Tryd.prog.globals[5]?).map (·.type) = some 111 := by kernel_rfl
  obtain rfl := Option.some.inj (e2.symm.trans h2)
  obtain ⟨ty, fz, hheap⟩ := var_heap e1 h3
  have eD : ∃ nm l, (Rows.laid_strconv_ErrRange : DataW Unit) = .iface nm (.ptr (.agg [.lit l])) := ⟨_, _, rfl⟩
  obtain ⟨nm, lt, eD⟩ := eD
  rw [eD] at h4
  obtain ⟨u, v, m, hcs, hname, htr⟩ := trod_iface ⟨_, Tryd.underlying111⟩ h4
  obtain ⟨e, hue⟩ := trod_ptr_of htr
  have hsz : cs.size = 1 := by have := congrArg List.length hcs; simpa using this
  have hcs' : cs = #[.iface u v] := Array.toList_inj.1 hcs
  have hc0 : W.cell? ⟨5, 0, none⟩ = some (.iface u v) := by
    subst hcs'
    simp [World.cell?, hheap]
  have hpos : 0 < cs.size := by rw [hsz]; exact Nat.one_pos
  have hm5 := h5 0 hpos
  have hw5 := hw 5 0 hm5
  have hok := hw5.2 u v hc0
  obtain ⟨a, rfl⟩ := okWide_pointer hue hok
  have hc1 : (Value.pointer a).cells.toList = [.pointer a] := rfl
  rw [hc1] at htr
  rcases DataW.trod_pointer hue htr with ⟨_, hx⟩ | ⟨ad, cs', y, n, _, hp, hx, hcells, hy⟩
  · simp at hx
  · simp only [List.cons.injEq, Value.pointer.injEq, and_true] at hp
    subst hp
    simp only [Prod.mk.injEq, DataW.ptr.injEq] at hx
    have hsp : ad.spot = none := by
      unfold World.cells? at hcells
      split at hcells
      · cases hw1 : Tryd.prog.cellsOf e with
        | zero =>
          rw [hw1] at hcells
          simp at hcells
          subst hcells
          obtain ⟨y1, y2⟩ := y
          simp only at hx
          rw [← hx.1] at hy
          exact absurd hy (fun hy => trod_agg_nil hy)
        | succ k =>
          rw [hw1, List.range_succ_eq_map, List.mapM_cons] at hcells
          have e0 : ad.add 0 = ad := by simp [Addr.add]
          rw [e0] at hcells
          cases hcc : W.cell? ad with
          | none => rw [hcc] at hcells; simp at hcells
          | some c =>
            unfold World.cell? at hcc
            split at hcc
            · cases hs : ad.spot with
              | none => rfl
              | some s => simp [hs] at hcc
            · cases hcc
      · cases hcells
    refine ⟨u, ad.block, ad.off, cs, ty, fz, hheap, ?_⟩
    subst hcs'
    obtain ⟨b, o, s⟩ := ad
    simp only at hsp
    subst hsp
    rfl
theorem laid_gok {W : World} (h : laidMetH Tryd.prog Rows.capsNamesRow.laid W) : ∃ E : ErrAt, @GOk (@gl E) W.heap.size W := by
  obtain ⟨tp, b, o, arr, t, fz, hheap, harr⟩ := err_cell h
  refine ⟨⟨tp, b, o⟩, ?_⟩
  have low : ∀ {g : Nat} {C : List V}, @Cells ⟨tp, b, o⟩ W g C → g < W.heap.size := fun ⟨_, _, _, hh, _⟩ => (Array.getElem?_eq_some_iff.1 hh).1
  letI : ErrAt := ⟨tp, b, o⟩
  intro k cs hk
  by_cases e1 : k = 1
  · subst e1; cases hk; exact ⟨low (cells_1 h), cells_1 h⟩
  by_cases e2 : k = 2
  · subst e2; cases hk; exact ⟨low (cells_2 h), cells_2 h⟩
  by_cases e6 : k = 6
  · subst e6; cases hk; exact ⟨low (cells_6 h), cells_6 h⟩
  by_cases e5 : k = 5
  · subst e5
    cases hk
    refine ⟨(Array.getElem?_eq_some_iff.1 hheap).1, arr, t, fz, hheap, fun i v hv => ?_⟩
    match i, hv with
    | 0, hv =>
      simp only [List.getElem?_cons_zero, Option.some.injEq] at hv; subst hv
      refine ⟨.iface tp (.pointer (some ⟨b, o, none⟩)), ?_, harr⟩
      rfl
    | i + 1, hv => simp at hv
  · exfalso
    revert hk
    rcases k with _ | _ | _ | _ | _ | _ | _ | _ | _ | _ | k <;> intro hk <;> first | omega | (cases hk; done)
end Go.Proofs.YtlacmijbjdpbpaaDoor
