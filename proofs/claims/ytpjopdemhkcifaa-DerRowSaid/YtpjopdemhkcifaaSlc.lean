/- Things in a row, as an argument: opened; and a law with memory at entry. -/
import Derived.Test.YtpjopdemhkcifaaItem
import Derived.Test.YtpjopdemhkcifaaRowClose
import Derived.Deep.SlicePairs
namespace Go.Proofs.Ytpjopdemhkcifaa
open Go Go.Vm Go.RowKit
open Go.ChangeShapes Go.WideShapes Go.ChangeAt
set_option linter.unusedVariables false
theorem law_of_mem {P : Program} {g : FuncId} {args : List V} {rargs : List Value} {m : List MB} {st : St} {w : World} (h : FnSat P g args st (fun v _ => v = .bool true)) (ha : realL m args = some rargs) (hr : Rel w.heap.size w m st w) :
    Calls P g rargs.toArray w (fun e w' => e = .returned (.bool true) ∧ Below w.heap.size w w') := by
  refine (h w.heap.size w m w rargs ha hr).mono ?_
  rintro e w' ⟨v', y, m', st', rfl, _, hy, hr, rfl⟩
  cases real_bool hy
  exact ⟨rfl, hr.below⟩
/-- A row of things: nil, or its cells. -/
def IsItems (w : World) (v : Value) : Prop :=
  v = .slice none 0 0 ∨ ∃ (b off cap : Nat) (L : List IT), v = .slice (some ⟨b, off, none⟩) L.length cap ∧ L.length ≤ cap ∧ (∀ x ∈ L, okTag x.1 = true) ∧
    ∃ arr t fz, w.heap[b]? = some (.cells arr t fz) ∧ ∀ i v, (cellsI L)[i]? = some v → ∃ x, (∀ m, real m v = some x) ∧ arr[off + i]? = some x
theorem cellsI_at : ∀ (L : List IT) (i : Nat) (v : V), (cellsI L)[i]? = some v → ∃ (j : Nat) (x : IT), L[j]? = some x ∧ ((i = j * 2 ∧ v = .int .u8 x.1) ∨ (i = j * 2 + 1 ∧ v = .str x.2))
  | [], i, v, h => by simp [cellsI] at h
  | x :: r, 0, v, h => by
    simp only [cellsI, List.getElem?_cons_zero, Option.some.injEq] at h
    exact ⟨0, x, rfl, Or.inl ⟨rfl, h.symm⟩⟩
  | x :: r, 1, v, h => by
    simp only [cellsI, List.getElem?_cons_succ, List.getElem?_cons_zero, Option.some.injEq] at h
    exact ⟨0, x, rfl, Or.inr ⟨rfl, h.symm⟩⟩
  | x :: r, i + 2, v, h => by
    simp only [cellsI, List.getElem?_cons_succ] at h
    obtain ⟨j, y, h1, h2⟩ := cellsI_at r i v h
    refine ⟨j + 1, y, by simpa using h1, ?_⟩
    rcases h2 with ⟨h2, h3⟩ | ⟨h2, h3⟩
    · exact Or.inl ⟨by omega, h3⟩
    · exact Or.inr ⟨by omega, h3⟩
theorem walk_items {g : FuncId} {k : Int} (hn : FnSat Try.prog g [.nilSlice, .int .i64 k] [] (fun v _ => v = .bool true))
    (hs : ∀ L : List IT, (∀ x ∈ L, okTag x.1 = true) → FnSat Try.prog g [.slice 0 0 L.length false 0 0, .int .i64 k] [.ro false (cellsI L)] (fun v _ => v = .bool true))
    (w : World) (v : Value) (hv : IsItems w v) : Calls Try.prog g #[v, .int .i64 k] w (fun e w' => e = .returned (.bool true) ∧ Below w.heap.size w w') := by
  rcases hv with rfl | ⟨b, off, cap, L, rfl, hl, ht, arr, t, fz, h1, h2⟩
  · exact law_of_sat hn (rargs := [.slice none 0 0, .int .i64 k]) rfl w
  · refine law_of_mem (hs L ht) (m := [⟨b, off, cap, false⟩]) (rargs := [.slice (some ⟨b, off, none⟩) L.length cap, .int .i64 k]) ?_ ?_
    · have e : (if cap = 0 then 0 else 0) = 0 := by split <;> rfl
      simp [realL, real, at?, hl]
    · refine Rel.ofRo rfl fun i bl e hb he => ?_
      match i, hb, he with
      | 0, hb, he =>
        cases hb
        cases he
        refine ⟨⟨fun h => (by cases h), arr, t, fz, h1, fun i v hv => ?_⟩, rfl⟩
        have := h2 i v hv
        exact ⟨this.choose, this.choose_spec.1 _, this.choose_spec.2⟩
      | i + 1, hb, he => simp at hb
theorem rowCells : Try.prog.cellsOf 44 = 1 := by kernel_rfl
theorem open_items {H : Type} {enc : TypeId × Value → H} {W : World} {b0 : Nat} {v : Value} {d : DataW H} {ps : List MemPlace}
    (hval : Value.okWide Try.prog W .any b0 44 v) (hd : DataW.Trod enc Try.prog W 0 (fun _ => true) true 44 v d ps) : IsItems W v := by
  obtain ⟨a, len, cap, rfl⟩ := okWide_slice Try.underlying44 hval
  have hval2 := hval
  simp only [Value.okWide, Try.underlying44, Cell.okWide] at hval2
  obtain ⟨fuel, hf⟩ := hd
  rcases Deep.open_slice_pairs (f0 := _) (f1 := _) Try.underlying44 Try.underlying32 itemCells rfl rfl byteCells strCells hf with ⟨hcs, hx⟩ | ⟨a', len', cap', m, n, V0, V1, D0, D1, P0, P1, hcs, hb, hl, hc, hm, hx, hcell⟩
  · left
    simpa [Value.cells, rowCells] using hcs
  · right
    have hcs : Value.slice a len cap = .slice (some a') len' cap' := by simpa [Value.cells, rowCells] using hcs
    cases hcs
    have hhas : W.has Try.prog .any b0 a' 32 cap := by
      unfold Cell.ok at hval2
      rw [Try.underlying44] at hval2
      exact hval2.2.2
    obtain ⟨_, hspot, row, cells, hsh, _⟩ := hhas
    obtain ⟨blk, off, spot⟩ := a'
    have hspot : spot = none := hspot
    subst hspot
    have hm : m = cap := hm
    subst hm
    have hv : ∀ i, i < m → ∃ (t : Int) (s : ByteArray), V0 i = .int .u8 t ∧ V1 i = .string s ∧ (Lit.int .u8 t).wf = true := by
      intro i hi
      have h := hcell i hi
      obtain ⟨t, e0, _, wt⟩ := DataW.trod_int Try.underlying5 h.2.2.1
      obtain ⟨s, e1, _, ws⟩ := DataW.trod_string Try.underlying9 h.2.2.2
      exact ⟨t, s, by simpa using e0, by simpa using e1, wt⟩
    obtain ⟨arr, tt, fz, harr⟩ : ∃ arr t fz, W.heap[blk]? = some (.cells arr t fz) := by
      unfold World.shape? at hsh
      split at hsh
      · rename_i c e fz h; exact ⟨_, _, _, h⟩
      · cases hsh
    let T : Nat → IT := fun i => ((match V0 i with | .int _ n => n | _ => 0), (match V1 i with | .string s => s.data.toList | _ => []))
    refine ⟨blk, off, m, (List.range len).map T, by simp, by simpa using hl, ?_, arr, tt, fz, harr, ?_⟩
    · intro x hx
      obtain ⟨i, hi, rfl⟩ := List.mem_map.1 hx
      obtain ⟨t, s, e0, e1, wt⟩ := hv i (by have := List.mem_range.1 hi; omega)
      have : (T i).1 = t := by simp only [T, e0]
      rw [this]
      exact okTag_wf wt
    · intro i v hvi
      obtain ⟨j, x, hj, hx⟩ := cellsI_at _ i v hvi
      have hjl : j < len := by
        have := (List.getElem?_eq_some_iff.1 hj).1
        simpa using this
      have hxT : x = T j := by
        rw [List.getElem?_map, List.getElem?_range hjl] at hj
        simpa using hj.symm
      obtain ⟨t, s, e0, e1, wt⟩ := hv j (by omega)
      have hc := hcell j (by omega)
      rcases hx with ⟨rfl, rfl⟩ | ⟨rfl, rfl⟩
      · refine ⟨V0 j, fun mm => ?_, ?_⟩
        · rw [hxT, e0]; simp only [T, e0, real]
        · have := hc.1
          by_cases h0 : j * 2 = 0
          · simpa [World.cell?, Addr.add, harr, h0] using this
          · simpa [World.cell?, Addr.add, harr, h0] using this
      · refine ⟨V1 j, fun mm => ?_, ?_⟩
        · rw [hxT, e1]; simp only [T, e1, real]
        · have := hc.2.1
          simpa [World.cell?, Addr.add, harr, Nat.add_assoc] using this
theorem derRow_walk (v : Value) (at_ : Int) (w : World) (hv : IsItems w v) (_ : (Lit.int .i64 at_).wf = true) : Calls Try.prog 8 #[v, .int .i64 at_] w (fun e w' => e = .returned (.bool true) ∧ Below w.heap.size w w') :=
  walk_items (row_close_nil at_ (fun v => v = .bool true) rfl) (fun L ht => row_close L ht at_ (fun v => v = .bool true) rfl) w v hv
end Go.Proofs.Ytpjopdemhkcifaa
