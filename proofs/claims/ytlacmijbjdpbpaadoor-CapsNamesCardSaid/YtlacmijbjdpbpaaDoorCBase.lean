/- What is known of the package variables that CapsNames reads. -/
import Derived.Test.YtlacmijbjdpbpaaDoorVmc
import Derived.Test.YtlacmijbjdpbpaaDoorVmc
import Derived.Shelf.Strings.MapAny
import Derived.Test.YtlacmijbjdpbpaaDoorRows
import Derived.KernelRfl
import Derived.IntWalk
namespace Go.Vm
variable [G : Glob]
set_option linter.unusedSectionVars false
set_option linter.unusedVariables false
open Go.RowKit
/-- What strings.Map is said to come to, with the function gr, which is f. -/
def MapRunesOk (P : Program) (g gr : FuncId) (f : Int → Int) (g3 g4 : Nat) : Prop := ∀ (s : ByteArray) (w : World), s.size < 35184372088832 → Lib.Utf8Tabs g3 g4 w →
  Calls P g #[.func (.func gr) #[] #[], .string s] w fun e w' => e = .returned (.string ⟨(Lib.mapD f s.data.toList).toArray⟩) ∧ Below w.heap.size w w'
def firstC : List V := (List.range 256).map fun c => V.int .u8 (Lib.firstT c)
def accC : List V := (List.range 16).flatMap fun i => [V.int .u8 (Lib.accLo i), V.int .u8 (Lib.accHi i)]
theorem firstC_get {c : Nat} (h : c < 256) : firstC[c]? = some (.int .u8 (Lib.firstT c)) := by
  unfold firstC
  rw [List.getElem?_map, List.getElem?_range h]
  rfl
theorem pairs_get {f g : Nat → V} {i : Nat} : ∀ {n : Nat}, i < n → ((List.range n).flatMap fun i => [f i, g i])[2 * i]? = some (f i) ∧ ((List.range n).flatMap fun i => [f i, g i])[2 * i + 1]? = some (g i)
  | 0, h => absurd h (by omega)
  | n + 1, h => by
    have hl : ∀ m : Nat, ((List.range m).flatMap fun i => [f i, g i]).length = 2 * m := by
      intro m
      induction m with
      | zero => rfl
      | succ m ih => rw [List.range_succ, List.flatMap_append, List.length_append, ih]; simp; omega
    rw [List.range_succ, List.flatMap_append]
    by_cases hi : i < n
    · obtain ⟨a, b⟩ := pairs_get (f := f) (g := g) hi
      rw [List.getElem?_append_left (by rw [hl]; omega), List.getElem?_append_left (by rw [hl]; omega)]
      exact ⟨a, b⟩
    · have : i = n := by omega
      subst this
      rw [List.getElem?_append_right (by rw [hl]; omega), List.getElem?_append_right (by rw [hl]; omega), hl]
      simp
theorem map_ent {P : Program} {g gr : FuncId} {f : Int → Int} {g3 g4 : Nat} (hj : MapRunesOk P g gr f g3 g4) (h3 : gblk g3 = g3 ∧ goff g3 = 0) (h4 : gblk g4 = g4 ∧ goff g4 = 0) (hc3 : G.cells g3 = some firstC) (hc4 : G.cells g4 = some accC) {s r : List UInt8} (h : (Nat.ble s.length 281474976710 && eqS (Lib.mapD f s) r) = true) :
    EntFOk P ⟨g, [.func (.func gr) [] [], .str s], [], .str r, []⟩ := by
  simp only [Bool.and_eq_true] at h
  obtain ⟨h1, h2⟩ := h
  have h1 := Nat.le_of_ble_eq_true h1
  have h2 := eqS_ok h2
  intro B W0 m w rargs hargs hr
  have hm : m = [] := List.eq_nil_of_length_eq_zero hr.len
  subst hm
  obtain ⟨a1, r1, g1, g2, rfl⟩ := realL_cons hargs
  obtain ⟨a2, r2, k1, k2, rfl⟩ := realL_cons g2
  simp only [realL, Option.some.injEq] at k2; subst k2
  cases real_str k1
  have e1 : a1 = .func (.func gr) #[] #[] := by simpa [real, realL, eq_comm] using g1
  subst e1
  have hT : Lib.Utf8Tabs g3 g4 w := by
    refine ⟨fun c hc => ?_, fun i hi => ⟨?_, ?_⟩⟩
    · obtain ⟨x, hx, hc⟩ := hr.gcell (i := c) hc3 (firstC_get hc)
      rw [h3.1, h3.2, Nat.zero_add] at hc
      rw [hc]; simpa [real, eq_comm] using hx
    · obtain ⟨x, hx, hc⟩ := hr.gcell (i := 2 * i) hc4 (pairs_get hi).1
      rw [h4.1, h4.2, Nat.zero_add] at hc
      rw [hc]; simpa [real, eq_comm] using hx
    · obtain ⟨x, hx, hc⟩ := hr.gcell (i := 2 * i + 1) hc4 (pairs_get hi).2
      rw [h4.1, h4.2, Nat.zero_add] at hc
      rw [hc]; simpa [real, eq_comm] using hx
  have hsz : (ByteArray.mk s.toArray).size = s.length := by show s.toArray.size = _; simp
  refine (hj ⟨s.toArray⟩ w (by rw [hsz]; omega) hT).mono ?_
  rintro e w' ⟨rfl, hb⟩
  have e2 : Lib.mapD f (ByteArray.mk s.toArray).data.toList = r := by simpa using h2
  rw [e2]
  exact ⟨.str r, _, [], [], rfl, Ext.refl _, rfl, hr.later hb, rfl⟩
end Go.Vm
namespace Go.Proofs.YtlacmijbjdpbpaaDoor
open Go Go.Vm Go.RowKit
set_option linter.unusedVariables false
theorem mixedC : Tryd.prog.follows .mixedOrders = true := by kernel_rfl
/-- Where the error of numbers that are too great lies. -/
class ErrAt where
  tp : Nat
  blk : Nat
  off : Nat
set_option linter.unusedSectionVars false
variable [EA : ErrAt]
def powC : List V := [.int .u64 1, .int .u64 10, .int .u64 100, .int .u64 1000, .int .u64 10000, .int .u64 100000, .int .u64 1000000, .int .u64 10000000, .int .u64 100000000, .int .u64 1000000000, .int .u64 10000000000, .int .u64 100000000000, .int .u64 1000000000000, .int .u64 10000000000000, .int .u64 100000000000000, .int .u64 1000000000000000, .int .u64 10000000000000000, .int .u64 100000000000000000, .int .u64 1000000000000000000, .int .u64 10000000000000000000]
instance gl : Glob := ⟨9, fun | 1 => some firstC | 2 => some accC | 5 => some [.iface EA.tp (.gp 9 0)] | 6 => some powC | _ => none, fun _ => (EA.blk, EA.off)⟩
end Go.Proofs.YtlacmijbjdpbpaaDoor
