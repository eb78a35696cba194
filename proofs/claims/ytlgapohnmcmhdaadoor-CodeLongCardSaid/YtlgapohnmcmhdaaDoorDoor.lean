/- The package variables of the door, as the row lists them: what the walk is told of those that it reads. -/
import Derived.Test.YtlgapohnmcmhdaaDoorSum
import Derived.ProofKit
import Derived.LaidMore
import Derived.OpenShut
import Derived.Stop.Joined
import Derived.LaidHandle
namespace Go.Proofs.YtlgapohnmcmhdaaDoor
open Go Go.Vm Go.RowKit
open Go.ChangeShapes Go.WideShapes Go.ChangeAt Go.WideMaps Go.WideElems
set_option linter.unusedVariables false
set_option linter.unusedSectionVars false
def isFuncT : Option TypeDesc → Bool
  | some (.func _ _ _) => true
  | _ => false
theorem func_of {o : Option TypeDesc} (h : isFuncT o = true) : ∃ ps rs va, o = some (.func ps rs va) := by
  unfold isFuncT at h
  split at h
  · rename_i ps rs va; exact ⟨ps, rs, va, rfl⟩
  · cases h
def partsD : DataW Unit → List (DataW Unit)
  | .agg l => l
  | _ => []
def ofD : DataW Unit → V
  | .lit (.int k n) => .int k n
  | _ => .bool false
def inD : DataW Unit → DataW Unit
  | .iface _ d => d
  | d => d
theorem var_heap {P : Program} {w : World} {n : String} {g : Nat} {cs : Array Value} (hg : P.globalNamed n = some g) (h : w.var? P n = some cs) : ∃ t fz, w.heap[g]? = some (.cells cs t fz) := by
  simp only [World.var?, hg, Option.bind_some] at h
  split at h
  · rename_i c t fz hb; cases h; exact ⟨t, fz, hb⟩
  · cases h
section
/-- What is known of a variable's cells. -/
def Cells (W : World) (g : Nat) (C : List V) : Prop := ∃ arr t fz, W.heap[g]? = some (.cells arr t fz) ∧ (∀ i v, C[i]? = some v → ∃ x, real [] v = some x ∧ arr[0 + i]? = some x) ∧ arr.size = 0 + C.length
/-- A table of numbers. -/
theorem int_cells {W : World} {n : String} {g t0 t e N f0 : Nat} {k : IntKind} {C : List V} {d : DataW Unit} {cs0 : Array Value} {p0 : List MemPlace} {sp : Nat → Bool} {held : Bool} {enc : TypeId × Value → Unit} (hg : Tryd.prog.globalNamed n = some g) (hu : Tryd.prog.underlying t = some (.array N e)) (hk : Tryd.prog.underlying e = some (.int k)) (hw : Tryd.prog.cellsOf e = 1) (hct : Tryd.prog.cellsOf t = N)
    (hd : d = .agg (partsD d)) (hC : C = (partsD d).map ofD) (ht0 : t0 = t) (hv0 : W.var? Tryd.prog n = some cs0) (hd0 : DataW.trod enc Tryd.prog W 0 sp held f0 t0 cs0.toList = some (d, p0)) : Cells W g C := by
  subst ht0
  obtain ⟨ty, fz, hheap⟩ := var_heap hg hv0
  obtain ⟨xs, m1, rfl, hx1, hlen, hn, hel⟩ := DataW.trod_array hu hd0
  rw [hd] at hx1
  simp only [Prod.mk.injEq, DataW.agg.injEq] at hx1
  have hD := hx1.1
  refine ⟨cs0, ty, fz, hheap, fun i v hv => ?_, ?_⟩
  · rw [hC, hD, List.getElem?_map, List.getElem?_map] at hv
    cases hxi : xs[i]? with
    | none => rw [hxi] at hv; cases hv
    | some x =>
      rw [hxi] at hv
      simp only [Option.map_some, Option.some.injEq] at hv
      have hi : i < N := by rw [← hn]; exact (List.getElem?_eq_some_iff.1 hxi).1
      have h1 := hel i hi
      rw [hxi, hw, Nat.mul_one] at h1
      obtain ⟨a, e0, e1, wa⟩ := DataW.trod_int hk h1
      subst e1
      simp only [ofD] at hv
      subst hv
      refine ⟨.int k a, rfl, ?_⟩
      rw [Nat.zero_add]
      have e2 : ((cs0.toList.drop i).take 1)[0]? = some (Value.int k a) := by rw [e0]; rfl
      rw [List.getElem?_take, if_pos (by omega), List.getElem?_drop, Nat.add_zero] at e2
      simpa using e2
  · rw [hC, hD, Nat.zero_add, List.length_map, List.length_map, hn, ← hct]
    simpa using hlen
end
theorem plain_part {P : Program} {l : List (String × DataW Unit)} {w : World} (h : laidMetH P l w) : laidMet P (l.filter fun x => x.2.handleName?.isNone) w := by
  unfold laidMetH at h
  generalize hfl : (l.filter fun x => x.2.handleName?.isSome) = fl at h
  cases fl with
  | nil =>
    have e : (l.filter fun x => x.2.handleName?.isNone) = l := by
      rw [List.filter_eq_self]
      intro x hx
      have := (List.filter_eq_nil_iff.1 hfl) x hx
      cases hn : x.2.handleName? with
      | none => rfl
      | some s => rw [hn] at this; exact absurd rfl this
    rw [e]
    exact h
  | cons a b => exact h.1
theorem laid_var {P : Program} {w : World} {n : String} {d : DataW Unit} : ∀ {l : List (String × DataW Unit)} {ps : List MemPlace}, DataW.LaidVars P w l ps → (n, d) ∈ l → ∃ g t cs fuel p, P.globalNamed n = some g ∧ (P.globals[g]?).map (·.type) = some t ∧ w.var? P n = some cs ∧ DataW.trod (fun _ => ()) P w 0 (fun _ => true) false fuel t cs.toList = some (d, p)
  | [], _, _, h => by cases h
  | (n', d') :: r, ps, h, hm => by
    obtain ⟨g, t, cs, fuel, p, q, h1, h2, h3, h4, h5, _⟩ := h
    rcases List.mem_cons.1 hm with e | hm
    · cases e; exact ⟨g, t, cs, fuel, p, h1, h2, h3, h4⟩
    · exact laid_var h5 hm
theorem plain_var {P : Program} {l : List (String × DataW Unit)} {w : World} (h : laidMetH P l w) {n : String} {d : DataW Unit} (hm : (n, d) ∈ l) (hn : d.handleName?.isNone = true) : ∃ g t cs fuel p, P.globalNamed n = some g ∧ (P.globals[g]?).map (·.type) = some t ∧ w.var? P n = some cs ∧ DataW.trod (fun _ => ()) P w 0 (fun _ => true) false fuel t cs.toList = some (d, p) := by
  obtain ⟨ps, hl, _, _⟩ := plain_part h
  exact laid_var hl (List.mem_filter.2 ⟨hm, hn⟩)
theorem own : ownKnob Tryd.prog.godebug = none := by kernel_rfl
theorem cells_0 {W : World} (h : laidMetH Tryd.prog Rows.codeLessRow.laid W) : Cells W 0 keyC := by
  have hm : ("mailroom/code.key", (Rows.laid_mailroom_code_key : DataW Unit)) ∈ Rows.codeLessRow.laid := List.mem_of_getElem? (i := 6) rfl
  obtain ⟨g, t, cs, fuel, p, h1, h2, h3, h4⟩ := plain_var h hm rfl
  have e1 : Tryd.prog.globalNamed "mailroom/code.key" = some 0 := by kernel_rfl
  obtain rfl := Option.some.inj (e1.symm.trans h1)
  have e2 : (Tryd.prog.globals[0]?).map (·.type) = some 52 := by kernel_rfl
  exact int_cells (n := "mailroom/code.key") (t := 52) (e := 49) (N := 64) (k := .u32) e1 (by kernel_rfl) (by kernel_rfl) (by kernel_rfl) (by kernel_rfl) rfl (by kernel_rfl) (Option.some.inj (e2.symm.trans h2)).symm h3 h4
theorem cells_4 {W : World} (h : laidMetH Tryd.prog Rows.codeLessRow.laid W) : Cells W 4 powC := by
  have hm : ("internal/strconv.uint64pow10", (Rows.laid_internal_strconv_uint64pow10 : DataW Unit)) ∈ Rows.codeLessRow.laid := List.mem_of_getElem? (i := 2) rfl
  obtain ⟨g, t, cs, fuel, p, h1, h2, h3, h4⟩ := plain_var h hm rfl
  have e1 : Tryd.prog.globalNamed "internal/strconv.uint64pow10" = some 4 := by kernel_rfl
  obtain rfl := Option.some.inj (e1.symm.trans h1)
  have e2 : (Tryd.prog.globals[4]?).map (·.type) = some 94 := by kernel_rfl
  exact int_cells (n := "internal/strconv.uint64pow10") (t := 94) (e := 48) (N := 20) (k := .u64) e1 (by kernel_rfl) (by kernel_rfl) (by kernel_rfl) (by kernel_rfl) rfl (by kernel_rfl) (Option.some.inj (e2.symm.trans h2)).symm h3 h4
theorem laid_var2 {P : Program} {w : World} {n : String} {d : DataW Unit} : ∀ {l : List (String × DataW Unit)} {ps : List MemPlace}, DataW.LaidVars P w l ps → (n, d) ∈ l → ∃ g t cs fuel p, P.globalNamed n = some g ∧ (P.globals[g]?).map (·.type) = some t ∧ w.var? P n = some cs ∧ DataW.trod (fun _ => ()) P w 0 (fun _ => true) false fuel t cs.toList = some (d, p) ∧ ∀ i, i < cs.size → MemPlace.cell g i ∈ ps
  | [], _, _, h => by cases h
  | (n', d') :: r, ps, h, hm => by
    obtain ⟨g, t, cs, fuel, p, q, h1, h2, h3, h4, h5, h6⟩ := h
    rcases List.mem_cons.1 hm with e | hm
    · cases e
      refine ⟨g, t, cs, fuel, p, h1, h2, h3, h4, fun i hi => ?_⟩
      rw [h6]
      refine List.mem_append_left _ (List.mem_append_left _ ?_)
      exact List.mem_map.2 ⟨i, List.mem_range.2 hi, by simp⟩
    · obtain ⟨g2, t2, cs2, fuel2, p2, k1, k2, k3, k4, k5⟩ := laid_var2 h5 hm
      exact ⟨g2, t2, cs2, fuel2, p2, k1, k2, k3, k4, fun i hi => by rw [h6]; exact List.mem_append_right _ (k5 i hi)⟩
theorem trod_iface {P : Program} {w : World} {base : Nat} {sp : Nat → Bool} {fuel : Nat} {t : TypeId} {cs : List Value} {enc : TypeId × Value → Unit} {name : String} {d : DataW Unit} {p : List MemPlace} (ht : ∃ ms, P.underlying t = some (.interface ms)) (h : DataW.trod enc P w base sp false fuel t cs = some (.iface name d, p)) :
    ∃ u v m, cs = [.iface u v] ∧ P.typeName? 3 u = some name ∧ DataW.trod enc P w base sp false m u v.cells.toList = some (d, p) := by
  obtain ⟨ms, ht⟩ := ht
  cases fuel with
  | zero => simp [DataW.trod] at h
  | succ n =>
    unfold DataW.trod at h
    rw [ht] at h
    split at h <;> simp_all
    rename_i u v hh
    cases hn : P.typeName? 3 u with
    | none => rw [hn] at h; simp at h
    | some nm =>
      rw [hn] at h
      simp only [Option.map_eq_some_iff] at h
      obtain ⟨x, hx, he⟩ := h
      simp only [Prod.mk.injEq, DataW.iface.injEq] at he
      obtain ⟨⟨rfl, rfl⟩, rfl⟩ := he
      refine ⟨u, v, ?_⟩
      first | exact ⟨⟨rfl, rfl⟩, hn, n, hx⟩ | exact ⟨n, ⟨rfl, rfl⟩, hn, hx⟩ | exact ⟨rfl, hn, n, hx⟩ | exact ⟨n, rfl, hn, hx⟩ | exact ⟨n, by simp, hn, hx⟩
def errD : DataW Unit := match (Rows.laid_strconv_ErrRange : DataW Unit) with
  | .iface _ (.ptr d) => d
  | d => d
theorem trod_ptr_of {P : Program} {w : World} {base : Nat} {sp : Nat → Bool} {held : Bool} {fuel : Nat} {t : TypeId} {cs : List Value} {enc : TypeId × Value → Unit} {d : DataW Unit} {p : List MemPlace} (h : DataW.trod enc P w base sp held fuel t cs = some (.ptr d, p)) : ∃ e, P.underlying t = some (.pointer e) := by
  cases fuel with
  | zero => simp [DataW.trod] at h
  | succ n =>
    unfold DataW.trod at h
    cases hu : P.underlying t with
    | none => rw [hu] at h; simp at h
    | some u =>
      rw [hu] at h
      cases u with
      | pointer e => exact ⟨e, rfl⟩
      | _ =>
        exfalso
        revert h
        simp only
        repeat' split
        all_goals (intro h; simp_all [Option.bind_eq_some_iff])
theorem trod_lit_nil {P : Program} {w : World} {base : Nat} {sp : Nat → Bool} {held : Bool} {fuel : Nat} {t : TypeId} {enc : TypeId × Value → Unit} {l : Lit} {p : List MemPlace} (h : DataW.trod enc P w base sp held fuel t [] = some (.lit l, p)) : False := by
  cases fuel with
  | zero => simp [DataW.trod] at h
  | succ n =>
    unfold DataW.trod at h
    cases hu : P.underlying t with
    | none => rw [hu] at h; simp at h
    | some u =>
      rw [hu] at h
      revert h
      simp only
      repeat' split
      all_goals (intro h; simp_all [Option.bind_eq_some_iff])
theorem mapM_one {α β : Type} {f : α → Option β} : ∀ {l : List α} {y : β}, l.mapM f = some [y] → ∃ x, f x = some y
  | [], y, h => by simp at h
  | x :: l, y, h => by
    simp only [List.mapM_cons, Option.bind_eq_bind, Option.bind_eq_some_iff, Option.pure_def, Option.some.injEq, List.cons.injEq] at h
    obtain ⟨a, ha, b, hb, rfl, rfl⟩ := h
    exact ⟨x, ha⟩
theorem trod_agg_nil {P : Program} {w : World} {base : Nat} {sp : Nat → Bool} {held : Bool} {fuel : Nat} {t : TypeId} {enc : TypeId × Value → Unit} {l : Lit} {p : List MemPlace} (h : DataW.trod enc P w base sp held fuel t [] = some (.agg [.lit l], p)) : False := by
  cases fuel with
  | zero => simp [DataW.trod] at h
  | succ n =>
    unfold DataW.trod at h
    cases hu : P.underlying t with
    | none => rw [hu] at h; simp at h
    | some u =>
      rw [hu] at h
      cases u with
      | struct fs =>
        simp only at h
        split at h
        · simp only [List.drop_nil, List.take_nil, Option.map_eq_some_iff, Prod.mk.injEq, DataW.agg.injEq] at h
          obtain ⟨xs, hx, h1, _⟩ := h
          match xs, hx, h1 with
          | [(y, q)], hx, h1 =>
            simp only [List.map_cons, List.map_nil, List.cons.injEq, and_true] at h1
            subst h1
            obtain ⟨x, hx⟩ := mapM_one hx
            exact trod_lit_nil hx
          | [], hx, h1 => simp at h1
          | a :: b :: r, hx, h1 => simp at h1
        · cases h
      | array k e =>
        simp only at h
        split at h
        · simp only [List.drop_nil, List.take_nil, Option.map_eq_some_iff, Prod.mk.injEq, DataW.agg.injEq] at h
          obtain ⟨xs, hx, h1, _⟩ := h
          match xs, hx, h1 with
          | [(y, q)], hx, h1 =>
            simp only [List.map_cons, List.map_nil, List.cons.injEq, and_true] at h1
            subst h1
            obtain ⟨x, hx⟩ := mapM_one hx
            exact trod_lit_nil hx
          | [], hx, h1 => simp at h1
          | a :: b :: r, hx, h1 => simp at h1
        · cases h
      | _ =>
        exfalso
        revert h
        simp only
        repeat' split
        all_goals (intro h; simp_all [Option.bind_eq_some_iff])
set_option maxRecDepth 100000 in
theorem err_cell {W : World} (h : laidMetH Tryd.prog Rows.codeLessRow.laid W) : ∃ tp b o arr t fz, W.heap[3]? = some (.cells arr t fz) ∧ arr[0]? = some (.iface tp (.pointer (some ⟨b, o, none⟩))) := by
  have hm : ("strconv.ErrRange", (Rows.laid_strconv_ErrRange : DataW Unit)) ∈ Rows.codeLessRow.laid := List.mem_of_getElem? (i := 4) rfl
  obtain ⟨ps, hl, _, hw⟩ := plain_part h
  obtain ⟨g, t, cs, fuel, p, h1, h2, h3, h4, h5⟩ := laid_var2 hl (List.mem_filter.2 ⟨hm, rfl⟩)
  have e1 : Tryd.prog.globalNamed "strconv.ErrRange" = some 3 := by kernel_rfl
  obtain rfl := Option.some.inj (e1.symm.trans h1)
  have e2 : (Tryd.prog.globals[3]?).map (·.type) = some 45 := by kernel_rfl
  obtain rfl := Option.some.inj (e2.symm.trans h2)
  obtain ⟨ty, fz, hheap⟩ := var_heap e1 h3
  have eD : ∃ nm l, (Rows.laid_strconv_ErrRange : DataW Unit) = .iface nm (.ptr (.agg [.lit l])) := ⟨_, _, rfl⟩
  obtain ⟨nm, lt, eD⟩ := eD
  rw [eD] at h4
  obtain ⟨u, v, m, hcs, hname, htr⟩ := trod_iface ⟨_, Tryd.underlying45⟩ h4
  obtain ⟨e, hue⟩ := trod_ptr_of htr
  have hsz : cs.size = 1 := by have := congrArg List.length hcs; simpa using this
  have hcs' : cs = #[.iface u v] := Array.toList_inj.1 hcs
  have hc0 : W.cell? ⟨3, 0, none⟩ = some (.iface u v) := by
    subst hcs'
    rw [cell_of_row W 3 0 _ ty fz hheap]
    rfl
  have hok := (hw 3 0 (h5 0 (by omega))).2 _ _ hc0
  obtain ⟨a, rfl⟩ := okWide_pointer hue hok
  have hc1 : (Value.pointer a).cells.toList = [.pointer a] := rfl
  rw [hc1] at htr
  rcases DataW.trod_pointer hue htr with ⟨_, hx⟩ | ⟨ad, cs', y, n, _, hp, hx, hcells, hy⟩
  · simp at hx
  · simp only [List.cons.injEq, Value.pointer.injEq, and_true] at hp
    subst hp
    simp only [Prod.mk.injEq, DataW.ptr.injEq] at hx
    have hsp : ad.spot = none := by
      unfold World.cells? at hcells
      split at hcells
      · cases hw1 : Tryd.prog.cellsOf e with
        | zero =>
          rw [hw1] at hcells
          simp at hcells
          subst hcells
          obtain ⟨y1, y2⟩ := y
          simp only at hx
          rw [← hx.1] at hy
          exact absurd hy (fun hy => trod_agg_nil hy)
        | succ k =>
          rw [hw1, List.range_succ_eq_map, List.mapM_cons] at hcells
          have e0 : ad.add 0 = ad := by simp [Addr.add]
          rw [e0] at hcells
          cases hcc : W.cell? ad with
          | none => rw [hcc] at hcells; simp at hcells
          | some c =>
            unfold World.cell? at hcc
            split at hcc
            · cases hs : ad.spot with
              | none => rfl
              | some s => simp [hs] at hcc
            · cases hcc
      · cases hcells
    refine ⟨u, ad.block, ad.off, cs, ty, fz, hheap, ?_⟩
    subst hcs'
    obtain ⟨b, o, s⟩ := ad
    simp only at hsp
    subst hsp
    rfl
theorem laid_gok {W : World} (h : laidMetH Tryd.prog Rows.codeLessRow.laid W) : GOk W.heap.size W := by
  have low : ∀ {g : Nat} {C : List V}, Cells W g C → g < W.heap.size := fun ⟨_, _, _, hh, _⟩ => (Array.getElem?_eq_some_iff.1 hh).1
  refine ⟨fun k cs hk => ?_, fun k hk => ?_⟩
  · by_cases e0 : k = 0
    · subst e0; cases hk; obtain ⟨arr, t, fz, h1, h2, h3⟩ := cells_0 h; exact ⟨low (cells_0 h), arr, t, fz, h1, h2, fun _ => h3⟩
    by_cases e4 : k = 4
    · subst e4; cases hk; obtain ⟨arr, t, fz, h1, h2, h3⟩ := cells_4 h; exact ⟨low (cells_4 h), arr, t, fz, h1, h2, fun _ => h3⟩
    exfalso
    revert hk
    rcases k with _ | _ | _ | _ | _ | _ | _ | _ | _ | _ | k <;> intro hk <;> first | (cases hk; done) | omega
  · by_cases e3 : k = 3
    · subst e3
      obtain ⟨tp, b, o, arr, t, fz, hheap, harr⟩ := err_cell h
      exact ⟨(Array.getElem?_eq_some_iff.1 hheap).1, arr, t, fz, _, hheap, harr, .inr ⟨_, _, rfl⟩⟩
    exfalso
    revert hk
    rcases k with _ | _ | _ | _ | _ | _ | _ | _ | _ | _ | k <;> intro hk <;> first | (cases hk; done) | omega
end Go.Proofs.YtlgapohnmcmhdaaDoor
