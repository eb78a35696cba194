/- A thing of der, as an argument: opened, and shut again. -/
import Derived.Test.YtpjopdemhkcifaaRows
import Derived.WalkKit
import Derived.ProofKit
import Derived.OpenShut
import Derived.ShutString
import Derived.ChangeSame
namespace Go.Proofs.Ytpjopdemhkcifaa
open Go.ChangeShapes Go.WideShapes Go.ChangeAt Go.RowKit
open Go.ChangeMaps (open_string shut_string)
theorem itemCells : Try.prog.cellsOf 32 = 2 := by kernel_rfl
theorem byteCells : Try.prog.cellsOf 5 = 1 := by kernel_rfl
theorem strCells : Try.prog.cellsOf 9 = 1 := by kernel_rfl
theorem open_item {H : Type} {enc : TypeId × Value → H} {W : World} {base b0 : Nat} {r : Reach} {sp : Nat → Bool} {v : Value} {d : DataW H} {ps : List MemPlace}
    (hval : Value.okWide Try.prog W r b0 32 v) (hd : DataW.Trod enc Try.prog W base sp true 32 v d ps) :
    ∃ (t : Int) (s : ByteArray), v = .agg #[.int .u8 t, .string s] ∧ d = .agg [.lit (.int .u8 t), .lit (.string s.data.toList)] ∧ ps = [] ∧ (Lit.int .u8 t).wf = true ∧ s.size ≤ maxLen := by
  obtain ⟨cs, rfl, hsz⟩ := okWide_struct Try.underlying32 hval
  rw [itemCells] at hsz
  obtain ⟨l⟩ := cs
  match l, hsz with
  | [c0, c1], _ =>
  obtain ⟨fuel, hf⟩ := hd
  obtain ⟨y0, y1, m, hx, _, hy0, hy1⟩ := trod_struct2 Try.underlying32 hf
  obtain ⟨a, e0, rfl, wa⟩ := DataW.trod_int Try.underlying5 hy0
  obtain ⟨b, e1, rfl, wb⟩ := DataW.trod_string Try.underlying9 hy1
  simp [Value.cells, byteCells, strCells] at e0 e1
  subst e0 e1
  simp only [Prod.mk.injEq] at hx
  obtain ⟨rfl, rfl⟩ := hx
  exact ⟨a, b, rfl, rfl, rfl, wa, wb⟩
theorem shut_item {H : Type} {enc : TypeId × Value → H} {W : World} {base : Nat} {sp : Nat → Bool} {t : Int} {s : ByteArray} (wt : (Lit.int .u8 t).wf = true) (ws : s.size ≤ maxLen) :
    DataW.Trod enc Try.prog W base sp true 32 (.agg #[.int .u8 t, .string s]) (.agg [.lit (.int .u8 t), .lit (.string s.data.toList)]) [] := ⟨2, by
  have f0 : DataW.trod enc Try.prog W base sp true 1 5 [.int .u8 t] = some (.lit (.int .u8 t), []) := by simp [DataW.trod, Try.underlying5, wt]
  have f1 : DataW.trod enc Try.prog W base sp true 1 9 [.string s] = some (.lit (.string s.data.toList), []) := by simp [DataW.trod, Try.underlying9, ws]
  have := trod_struct2_mk (enc := enc) (w := W) (base := base) (spare := sp) (held := true) (n := 1) (cs := [.int .u8 t, .string s]) Try.underlying32 (by simp [itemCells]) (by simpa [byteCells] using f0) (by simpa [strCells] using f1)
  simpa [Value.cells] using this⟩
end Go.Proofs.Ytpjopdemhkcifaa
