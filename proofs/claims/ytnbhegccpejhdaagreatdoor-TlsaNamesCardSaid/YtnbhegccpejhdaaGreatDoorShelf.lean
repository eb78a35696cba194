/- strings.Join by its contract: the known call's form, and the contract laid at this program. -/
import Derived.Test.YtnbhegccpejhdaaGreatDoorVmc
import Derived.Shelf.Strings.OnBuilder
import Derived.Test.YtnbhegccpejhdaaGreatDoorProg
namespace Go.Vm
variable [G : Glob]
set_option linter.unusedSectionVars false
set_option linter.unusedVariables false
open Go.RowKit
/-- The strings of so many cells. -/
def strsOf : List V → Option (List (List UInt8))
  | [] => some []
  | .str l :: r => match strsOf r with
    | some s => some (l :: s)
    | none => none
  | _ => none
theorem strsOf_get : ∀ {cs : List V} {ls : List (List UInt8)}, strsOf cs = some ls → cs.length = ls.length ∧ ∀ (j : Nat) (l : List UInt8), ls[j]? = some l → cs[j]? = some (.str l)
  | [], ls, h => by simp only [strsOf, Option.some.injEq] at h; subst h; exact ⟨rfl, fun j l hl => by simp at hl⟩
  | v :: r, ls, h => by
    cases v <;> simp only [strsOf] at h <;> try cases h
    rename_i l0
    cases h1 : strsOf r with
    | none => simp [h1] at h
    | some s =>
      simp only [h1, Option.some.injEq] at h; subst h
      obtain ⟨k1, k2⟩ := strsOf_get h1
      refine ⟨by simp [k1], fun j l hl => ?_⟩
      cases j with
      | zero => simp only [List.getElem?_cons_zero, Option.some.injEq] at hl ⊢; rw [hl]
      | succ j => simpa using k2 j l (by simpa using hl)
/-- What strings.Join is said to come to. -/
def JoinOk (P : Program) (g : FuncId) : Prop := ∀ (bk o c : Nat) (xs : List ByteArray) (sep : ByteArray) (w : World), (∀ (j : Nat) x, xs[j]? = some x → w.cell? ⟨bk, o + j, none⟩ = some (.string x)) → bk < w.heap.size → xs.length ≤ 140737488355328 → xs.length ≤ c →
  (Lib.join (xs.map (·.data.toList)) sep.data.toList).length ≤ 140737488355328 → Calls P g #[.slice (some ⟨bk, o, none⟩) xs.length c, .string sep] w fun e w' => e = .returned (.string ⟨(Lib.join (xs.map (·.data.toList)) sep.data.toList).toArray⟩) ∧ Below w.heap.size w w'
def joinB (off n : Nat) (cs : List V) (sep r : List UInt8) : Bool := match strsOf ((cs.drop off).take n) with
  | some ls => Nat.beq ls.length n && (Nat.blt 0 n && (Nat.ble n 140737488355328 && (Nat.ble r.length 140737488355328 && eqS (Lib.join ls sep) r)))
  | none => false
theorem join_ent {P : Program} {g : FuncId} (hj : JoinOk P g) {off n c z : Nat} {ex : Bool} {sep r : List UInt8} {cs : List V} (h : joinB off n cs sep r = true) : EntFOk P ⟨g, [.slice 0 off n ex c z, .str sep], [.ro false cs], .str r, []⟩ := by
  unfold joinB at h
  cases hs : strsOf ((cs.drop off).take n) with
  | none => simp [hs] at h
  | some ls =>
    simp only [hs, Bool.and_eq_true] at h
    obtain ⟨h1, h2, h3, h4, h5⟩ := h
    have h1 := Nat.eq_of_beq_eq_true h1
    have h2 : 0 < n := Nat.le_of_ble_eq_true h2
    have h3 := Nat.le_of_ble_eq_true h3
    have h4 := Nat.le_of_ble_eq_true h4
    have h5 := eqS_ok h5
    obtain ⟨_, hget⟩ := strsOf_get hs
    intro B W0 m w rargs hargs hr
    obtain ⟨a1, r1, g1, g2, rfl⟩ := realL_cons hargs
    obtain ⟨a2, r2, g3, g4, rfl⟩ := realL_cons g2
    simp only [realL, Option.some.injEq] at g4; subst g4
    cases real_str g3
    obtain ⟨e, cap, he, hcap, hle, rfl⟩ := real_slice g1
    have hcp : cap ≠ 0 := by omega
    rw [if_neg hcp]
    obtain ⟨e', he', hok⟩ := hr.at (i := 0) (b := .ro false cs) rfl
    rw [at_get he] at he'; cases he'
    obtain ⟨_, arr, t, fz, hheap, hcell⟩ := hok
    have hcells : ∀ (j : Nat) (x : ByteArray), (ls.map fun l => (⟨l.toArray⟩ : ByteArray))[j]? = some x → w.cell? ⟨e.blk, e.off + off + j, none⟩ = some (.string x) := by
      intro j x hx
      rw [List.getElem?_map] at hx
      cases hl : ls[j]? with
      | none => simp [hl] at hx
      | some l =>
        simp only [hl, Option.map_some, Option.some.injEq] at hx
        subst hx
        have hc := hget j l hl
        have hjn : j < n := by rw [← h1]; exact (List.getElem?_eq_some_iff.1 hl).1
        rw [List.getElem?_take, if_pos hjn, List.getElem?_drop] at hc
        obtain ⟨y, hy, ha⟩ := hcell (off + j) _ hc
        simp only [real, Option.some.injEq] at hy
        subst hy
        rw [cell_of_row w e.blk _ arr t fz hheap, Nat.add_assoc]
        exact ha
    have hlen : (ls.map fun l => (⟨l.toArray⟩ : ByteArray)).length = n := by rw [List.length_map]; exact h1
    have hmap : (ls.map fun l => (⟨l.toArray⟩ : ByteArray)).map (·.data.toList) = ls := by
      rw [List.map_map]
      have : ((fun x : ByteArray => x.data.toList) ∘ fun l : List UInt8 => (⟨l.toArray⟩ : ByteArray)) = id := by funext l; simp
      rw [this, List.map_id]
    have hcall := hj e.blk (e.off + off) cap (ls.map fun l => (⟨l.toArray⟩ : ByteArray)) ⟨sep.toArray⟩ w hcells (Array.getElem?_eq_some_iff.1 hheap).1 (by omega) (by omega) (by rw [hmap]; rw [h5]; exact h4)
    rw [hlen, hmap] at hcall
    rw [h5] at hcall
    refine hcall.mono ?_
    rintro e2 w' ⟨rfl, hb⟩
    refine ⟨.str r, .string ⟨r.toArray⟩, m, [.dead], rfl, Ext.refl m, rfl, (hr.later hb).kill 0, rfl⟩
end Go.Vm
namespace Go.Proofs
open Go.Shelf
def Tryz.lays156_ren : Go.Shelf.Ren := ⟨fun | 156 => 37 | 165 => 57 | 166 => 58 | 169 => 59 | 240 => 91 | 241 => 92 | 276 => 115 | 277 => 116 | n => n, fun | 31 => 33 | 9 => 9 | 3 => 3 | 4 => 4 | 0 => 0 | 20 => 20 | 72 => 102 | 76 => 97 | 70 => 100 | 37 => 27 | 75 => 96 | 127 => 66 | 164 => 155 | 5 => 5 | 80 => 104 | n => n, fun | n => n⟩
theorem Tryz.lays156 : Go.Proofs.Lays.n156 Tryz.prog Tryz.lays156_ren := {
  mixed := by kernel_rfl
  f156 := Tryz.func37.trans (congrArg some (by kernel_rfl))
  f165 := Tryz.func57.trans (congrArg some (by kernel_rfl))
  f166 := Tryz.func58.trans (congrArg some (by kernel_rfl))
  f169 := Tryz.func59.trans (congrArg some (by kernel_rfl))
  f240 := Tryz.func91.trans (congrArg some (by kernel_rfl))
  f241 := Tryz.func92.trans (congrArg some (by kernel_rfl))
  f276 := Tryz.func115.trans (congrArg some (by kernel_rfl))
  f277 := Tryz.func116.trans (congrArg some (by kernel_rfl))
  t0 := Tryz.underlying0
  a0 := Tryz.isAgg0
  z0 := Tryz.sizeOf0
  v0 := Tryz.zeroValue0
  t3 := Tryz.underlying3
  a3 := Tryz.isAgg3
  z3 := Tryz.sizeOf3
  v3 := Tryz.zeroValue3
  t4 := Tryz.underlying4
  a4 := Tryz.isAgg4
  z4 := Tryz.sizeOf4
  v4 := Tryz.zeroValue4
  t9 := Tryz.underlying9
  a9 := Tryz.isAgg9
  z9 := Tryz.sizeOf9
  v9 := Tryz.zeroValue9
  t20 := Tryz.underlying20
  a20 := Tryz.isAgg20
  z20 := Tryz.sizeOf20
  v20 := Tryz.zeroValue20
  t31 := Tryz.underlying33
  a31 := Tryz.isAgg33
  z31 := Tryz.sizeOf33
  v31 := Tryz.zeroValue33
  t37 := Tryz.underlying27
  a37 := Tryz.isAgg27
  z37 := Tryz.sizeOf27
  v37 := Tryz.zeroValue27
  t70 := Tryz.underlying100
  a70 := Tryz.isAgg100
  z70 := Tryz.sizeOf100
  v70 := Tryz.zeroValue100
  t72 := Tryz.underlying102
  a72 := Tryz.isAgg102
  z72 := Tryz.sizeOf102
  v72 := Tryz.zeroValue102
  t75 := Tryz.underlying96
  a75 := Tryz.isAgg96
  z75 := Tryz.sizeOf96
  v75 := Tryz.zeroValue96
  t76 := Tryz.underlying97
  a76 := Tryz.isAgg97
  z76 := Tryz.sizeOf97
  v76 := Tryz.zeroValue97
  t127 := Tryz.underlying66
  a127 := Tryz.isAgg66
  z127 := Tryz.sizeOf66
  v127 := Tryz.zeroValue66
  t164 := Tryz.underlying155
  a164 := Tryz.isAgg155
  z164 := Tryz.sizeOf155
  v164 := Tryz.zeroValue155 }
theorem Tryz.Builder_Extra_156 : Builder.Extra Tryz.prog Tryz.lays156_ren := {
  sizeBuilder := by kernel_rfl
  liesBuilder := by kernel_rfl
  t5 := Tryz.underlying5
  a5 := Tryz.isAgg5
  z5 := Tryz.sizeOf5
  v5 := Tryz.zeroValue5
  infoByte := by kernel_rfl
  cellsByte := by kernel_rfl
  sizeByte := by kernel_rfl
  neB5 := by decide }
open Go.RowKit in
/-- No element: the empty string; the world is as it was. (Whatever the slice's address and capacity: a nil slice too.) (LAID: no walk: one application.) -/
theorem Tryz.strings_Join_none (a : Option Addr) (c : Nat) (sep : ByteArray) (w : World) :
    Calls Tryz.prog 37 #[.slice a 0 c, .string sep] w fun e w' => e = .returned (.string ⟨#[]⟩) ∧ w' = w := Any.strings_Join_none Tryz.lays156 Tryz.Builder_Extra_156 a c sep w
open Go.RowKit in
/-- strings.Join: "Join concatenates the elements of its first argument to create a single string. The separator string sep is placed between elements in the resulting string.": HOWEVER MANY ELEMENTS. Below the heap's end the world is as it was. (LAID: no walk: one application.) -/
theorem Tryz.strings_Join (bk o c : Nat) (xs : List ByteArray) (sep : ByteArray) (w : World) (hcells : ∀ (j : Nat) x, xs[j]? = some x → w.cell? ⟨bk, o + j, none⟩ = some (.string x)) (hbk : bk < w.heap.size) (hN : xs.length ≤ 140737488355328) (hcap : xs.length ≤ c) (hlen : (Lib.join (xs.map (·.data.toList)) sep.data.toList).length ≤ 140737488355328) :
    Calls Tryz.prog 37 #[.slice (some ⟨bk, o, none⟩) xs.length c, .string sep] w fun e w' => e = .returned (.string ⟨(Lib.join (xs.map (·.data.toList)) sep.data.toList).toArray⟩) ∧ Below w.heap.size w w' := Any.strings_Join Tryz.lays156 Tryz.Builder_Extra_156 bk o c xs sep w hcells hbk hN hcap hlen
end Go.Proofs
namespace Go.Proofs.YtnbhegccpejhdaaGreatDoor
open Go Go.Vm Go.RowKit
theorem joinOk [G : Glob] : JoinOk Tryz.prog 37 := fun bk o c xs sep w h1 h2 h3 h4 h5 => Tryz.strings_Join bk o c xs sep w h1 h2 h3 h4 h5
end Go.Proofs.YtnbhegccpejhdaaGreatDoor
