/- The laws of this seat: the arguments as they lie there; the walks. -/
import Derived.Test.YtakfcajmfgnchaaDoorTStarL
import Derived.Test.YtakfcajmfgnchaaDoorVmc
import Derived.Test.YtakfcajmfgnchaaDoorRows
import Derived.WalkKit
import Derived.ProofKit
import Derived.OpenShut
import Derived.ShutString
namespace Go.Proofs.YtakfcajmfgnchaaDoor
open Go Go.Vm Go.RowKit
open Go.ChangeShapes Go.WideShapes Go.ChangeAt
set_option linter.unusedVariables false
set_option linter.unusedSectionVars false
set_option maxRecDepth 100000
def strsSh : Sh := .lst .str
theorem strsSh_ok : shOk Tryd.prog 9 strsSh 22 = true := by kernel_rfl
def IsStrs (w : World) (v : Value) : Prop := ∃ xan an, @real gl (Frz.of w) [] (lstS xan an) = some v ∧ an.length ≤ maxLen
theorem open_Strs {H : Type} {enc : TypeId × Value → H} {W : World} {b0 : Nat} {r : Reach} {v : Value} {d : DataW H} {ps : List MemPlace}
  (hval : Value.okWide Tryd.prog W r b0 22 v) (hd : DataW.Trod enc Tryd.prog W 0 (fun _ => true) true 22 v d ps) : IsStrs W v := by
 obtain ⟨sa, sl, sc, rfl⟩ := okWide_slice Tryd.underlying22 hval
 obtain ⟨fuel, hf⟩ := hd
 obtain ⟨dd, h1, h2⟩ := @open_sh gl _ _ _ _ _ _ _ 9 strsSh 22 fuel _ _ strsSh_ok hf
 obtain ⟨xan, ds_an, q_an, w_an, y_an⟩ := ofLst h1
 subst q_an
 obtain ⟨an, c_an, m_an⟩ := strsD _ ds_an y_an
 have n_an : ds_an.length = an.length := by rw [c_an, List.length_map]
 simp only [cellsD, cellsDs, m_an, n_an, List.append_nil, List.singleton_append, List.cons_append, List.nil_append] at h2
 have h3 := @realL_of0 gl (Frz.of W) [] _ _ h2
 refine ⟨xan, an, ?_, by rw [← n_an]; exact w_an⟩
 simp only [realL] at h3
 split at h3
 ·rename_i q1 q2 q3 q4
  obtain ⟨e1, _⟩ := List.cons.inj (Option.some.inj h3)
  subst e1
  exact q3
 ·cases h3
theorem maxLen_eq : maxLen = 9223372036854775807 := by decide
theorem bytes_str {w : World} (s : ByteArray) : @real gl (Frz.of w) [] (.str s.data.toList) = some (.string s) := by simp [real]
theorem trustStar_walk (v0 : Value) (a1 : ByteArray) (w : World) (x0 : IsStrs w v0) (w1 : a1.size ≤ maxLen) (hg : @GOk gl (Frz.of w) w.heap.size w) :
  Calls Tryd.prog 7 #[v0, .string a1] w (fun e w' => e = .returned (.bool true) ∧ Below w.heap.size w w') := by
 obtain ⟨xan_0, an_0, re0, hy_an_0⟩ := x0
 refine @frz_law gl Tryd.prog 7 [lstS xan_0 an_0, .str a1.data.toList] [v0, .string a1] w (@star_close (Frz.of w) xan_0 an_0 a1.data.toList (by rw [maxLen_eq] at hy_an_0; exact hy_an_0)) ?_ hg
 simp only [realL, bytes_str, re0]
end Go.Proofs.YtakfcajmfgnchaaDoor
