/- Rows of bytes: what is known of them; functions that look at memory. -/
import Derived.Test.YtakfcajmfgnchaaDoorSum2
namespace Go.Proofs.YtakfcajmfgnchaaDoor
open Go Go.Vm Go.RowKit
set_option linter.unusedVariables false
set_option maxRecDepth 100000
set_option linter.unusedSectionVars false
variable [Φ : Frz]
noncomputable def T3 : Tab := ⟨noT, noL, noLks 9⟩
theorem T3_ok : TabOk3 Tryd.prog T3 := ⟨noT_ok, noL_ok, noLks_ok 9⟩
def okL (s : List UInt8) : Bool := decide ((s.length : Int) ≤ 99999)
theorem okL_le {s : List UInt8} (h : okL s = true) : (s.length : Int) ≤ 99999 := of_decide_eq_true h
noncomputable def lookT (g : Nat) (lk : Nat → Trans → Trans) (args : List V) (st : St) (R : V → St → Prop) : Prop := fnK Tryd.prog (cqT Tryd.prog T3 9 10) (KG Tryd.prog T3 9 10) lk g args st R
theorem lookT_ok {g : Nat} {lk : Nat → Trans → Trans} {args : List V} {st : St} {R : V → St → Prop} (hl : FnLoopsW Tryd.prog st.length lk g) (h : lookT g lk args st R) : FnSat Tryd.prog g args st R :=
  fnKW_ok mixed (cqT_ok mixed T3_ok 9 10) (KG_ok mixed T3_ok 10) hl h
/-- The same by whatever table. -/
noncomputable def lookW (T : Tab) (g : Nat) (args : List V) (st : St) (R : V → St → Prop) : Prop := fnK Tryd.prog (cqT Tryd.prog T 9 10) (KG Tryd.prog T 9 10) (T.lks g st.length) g args st R
theorem lookW_ok {T : Tab} (hT : TabOk3 Tryd.prog T) {g : Nat} {args : List V} {st : St} {R : V → St → Prop} (h : lookW T g args st R) : FnSat Tryd.prog g args st R :=
  fnKW_ok mixed (cqT_ok mixed hT 9 10) (KG_ok mixed hT 10) (hT.lks g st.length) h
end Go.Proofs.YtakfcajmfgnchaaDoor
namespace Go.Vm
open Go.RowKit
set_option linter.unusedSectionVars false
variable [Φ : Frz]
/-- Bytes as cells. -/
def bys (l : List UInt8) : List V := l.map fun b => .int .u8 (b.toNat : Int)
theorem bys_len (l : List UInt8) : (bys l).length = l.length := by unfold bys; rw [List.length_map]
theorem bys_append (l r : List UInt8) : bys (l ++ r) = bys l ++ bys r := by unfold bys; rw [List.map_append]
theorem bys_flat : ∀ l : List UInt8, flatL (bys l) = true
  | [] => rfl
  | c :: r => by
    have ih := bys_flat r
    unfold bys at ih ⊢
    rw [List.map_cons, flatL, ih]; rfl
theorem bys_getD {l : List UInt8} {i : Nat} (h : i < l.length) : (bys l).getD i (.bool false) = .int .u8 ((l.getD i 0).toNat : Int) := by
  rw [List.getD_eq_getElem?_getD, List.getD_eq_getElem?_getD, List.getElem?_eq_getElem h]
  unfold bys
  rw [List.getElem?_map, List.getElem?_eq_getElem h]; rfl
theorem byteOf_bys (l : List UInt8) : (bys l).map byteOf = l := by
  unfold bys
  rw [List.map_map]
  conv => rhs; rw [← List.map_id l]
  apply List.map_congr_left
  intro b _
  show byteOf (.int .u8 (b.toNat : Int)) = b
  unfold byteOf
  simp
theorem isByte_bys (l : List UInt8) : (bys l).all isByte = true := by
  unfold bys
  rw [List.all_map, List.all_eq_true]
  intro b _
  rfl
theorem take_succ_one {s : List UInt8} {i : Nat} (h : i < s.length) : s.take (i + 1) = s.take i ++ [s.getD i 0] := by
  rw [List.getD_eq_getElem?_getD, List.getElem?_eq_getElem h, Option.getD_some, List.take_append_getElem h]
/-- A row of plain cells, where it lies. -/
theorem fb {σ : List Nat} {st : St} {c : Nat} {cs : List V} {t : TypeId} {sz : Nat} (h : flatL cs = true) (hc : st[c]? = some (.row cs t sz)) : Blk.row cs t sz = .dead ∨ ∃ b', FitB σ (.row cs t sz) b' ∧ st[c]? = some b' :=
  .inr ⟨.row cs t sz, .inl (by simp only [renB, renL_of_flat _ h]), hc⟩
theorem fo {σ : List Nat} {st : St} {c : Nat} {cs : List V} {own : Bool} (h : flatL cs = true) (hc : st[c]? = some (.ro own cs)) : Blk.ro own cs = .dead ∨ ∃ b', FitB σ (.ro own cs) b' ∧ st[c]? = some b' :=
  .inr ⟨.ro own cs, .inl (by simp only [renB, renL_of_flat _ h]), hc⟩
end Go.Vm
namespace Go.Vm
open Go.RowKit
set_option linter.unusedSectionVars false
variable [Φ : Frz]
/-- What stands at a place, and behind it. -/
theorem drop_cons {s r : List UInt8} {i : Nat} {a : UInt8} (h : s.drop i = a :: r) : s.getD i 0 = a ∧ s.drop (i + 1) = r ∧ i < s.length := by
  have hl : i < s.length := by
    have : (s.drop i).length = (a :: r).length := by rw [h]
    rw [List.length_drop, List.length_cons] at this
    omega
  rw [List.drop_eq_getElem_cons hl] at h
  cases h
  exact ⟨by rw [List.getD_eq_getElem?_getD, List.getElem?_eq_getElem hl, Option.getD_some], rfl, hl⟩
theorem drop_nil {s : List UInt8} {i : Nat} (h : s.drop i = []) (hi : i ≤ s.length) : i = s.length := by
  have : (s.drop i).length = 0 := by rw [h]; rfl
  rw [List.length_drop] at this
  omega
/-- A list of bytes that grows out of nothing: the value, the memory. -/
def bSl : List UInt8 → V
  | [] => .nilSlice
  | c :: r => .slice 0 0 (c :: r).length false 0 0
def bMem : List UInt8 → St
  | [] => []
  | c :: r => [.row (bys (c :: r)) 5 1]
theorem byte_int {n : Int} (h0 : 0 ≤ n) (h1 : n ≤ 255) : V.int .u8 n = V.int .u8 ((UInt8.ofNat n.toNat).toNat : Int) := by
  rw [UInt8.toNat_ofNat']
  have : ((n.toNat % 2 ^ 8 : Nat) : Int) = n := by omega
  rw [this]
theorem u8_range (n : Int) : 0 ≤ IntKind.u8.wrap n ∧ IntKind.u8.wrap n ≤ 255 := by
  rw [IntKind.wrap_u8]; omega
theorem bfits (a _b : List V) (c : List (Option V)) (st : St) (hf : flatL a = true) (h : c = a.map some) : Fits 0 a [] c st := by
  subst h; exact ⟨[], a, rfl, renL_of_flat _ hf, FitsM.of trivial, by simp, fun i hi => by omega⟩
theorem bys_ln (o : List UInt8) : (List.map (fun b : UInt8 => V.int .u8 (b.toNat : Int)) o).length = o.length := List.length_map ..
theorem bys_tk (o : List UInt8) : List.take o.length (List.drop 0 (List.map (fun b : UInt8 => V.int .u8 (b.toNat : Int)) o)) = bys o := by
  rw [List.drop_zero, ← bys_ln o, List.take_length]; rfl
end Go.Vm
