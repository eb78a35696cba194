/- CertCut, CertBack: the arguments as they lie there; the walks. -/
import Derived.Test.YtpjopdemhkcifaaCert8
import Derived.Test.YtpjopdemhkcifaaVmc
import Derived.Test.YtpjopdemhkcifaaRows
import Derived.WalkKit
import Derived.ProofKit
import Derived.OpenShut
import Derived.ShutString
namespace Go.Proofs.Ytpjopdemhkcifaa
open Go Go.Vm Go.RowKit
open Go.ChangeShapes Go.WideShapes Go.ChangeAt
set_option linter.unusedVariables false
set_option linter.unusedSectionVars false
set_option maxRecDepth 100000
def certSh : Sh := .agg [.str, .str, .lst .str, .int .i64, .int .i64, .bool]
theorem certSh_ok : shOk Try.prog 9 certSh 53 = true := by kernel_rfl
def IsCert (w : World) (v : Value) : Prop := ∃ k g x l f u ca, @real noGlob (Frz.of w) [] (.agg [.str k, .str g, lstS x l, .int .i64 f, .int .i64 u, .bool ca]) = some v ∧ l.length ≤ maxLen
theorem open_Cert {H : Type} {enc : TypeId × Value → H} {W : World} {b0 : Nat} {r : Reach} {v : Value} {d : DataW H} {ps : List MemPlace}
    (hval : Value.okWide Try.prog W r b0 53 v) (hd : DataW.Trod enc Try.prog W 0 (fun _ => true) true 53 v d ps) : IsCert W v := by
  obtain ⟨cs, rfl, _⟩ := okWide_struct Try.underlying53 hval
  obtain ⟨fuel, hf⟩ := hd
  obtain ⟨d, h1, h2⟩ := @open_sh noGlob _ _ _ _ _ _ _ 9 certSh 53 fuel _ _ certSh_ok hf
  obtain ⟨l0, rfl, g0⟩ := ofAgg h1
  obtain ⟨d0, l1, rfl, a0, g1⟩ := all2_cons g0
  obtain ⟨d1, l2, rfl, a1, g2⟩ := all2_cons g1
  obtain ⟨d2, l3, rfl, a2, g3⟩ := all2_cons g2
  obtain ⟨d3, l4, rfl, a3, g4⟩ := all2_cons g3
  obtain ⟨d4, l5, rfl, a4, g5⟩ := all2_cons g4
  obtain ⟨d5, l6, rfl, a5, g6⟩ := all2_cons g5
  have g7 := all2_nil g6
  subst g7
  obtain ⟨k, hk⟩ := ofStr a0
  obtain ⟨g, hg⟩ := ofStr a1
  obtain ⟨x, ns, hn⟩ := ofLst a2
  obtain ⟨f, hf⟩ := ofInt a3
  obtain ⟨u, hu⟩ := ofInt a4
  obtain ⟨ca, hca⟩ := ofBool a5
  have e0 := hk.1
  have e1 := hg.1
  have e2 := hn.1
  have hl := hn.2.1
  have hns := hn.2.2
  have e3 := hf.1
  have e4 := hu.1
  subst e0 e1 e2 e3 e4 hca
  obtain ⟨ls, q1, q2⟩ := strsD 6 ns hns
  have hlen : ns.length = ls.length := by rw [q1, List.length_map]
  refine ⟨k, g, x, ls, f, u, ca, ?_, by rw [← hlen]; exact hl⟩
  simp only [cellsD, cellsDs, q2, hlen, List.append_nil, List.singleton_append] at h2
  have := @realL_of0 noGlob (Frz.of W) [] _ _ h2
  have h3 := @Go.Vm.real_agg_mk noGlob (Frz.of W) [] _ _ this
  rw [show (Value.agg cs).cells = cs from rfl, Array.toArray_toList] at h3
  exact h3
theorem gok (w : World) : @GOk noGlob (Frz.of w) w.heap.size w := @GOk.none noGlob (Frz.of w) w (fun _ => rfl) (fun _ => rfl) (fun k o h => h)
theorem bytes_str {w : World} (s : ByteArray) : @real noGlob (Frz.of w) [] (.str s.data.toList) = some (.string s) := by simp [real]
theorem maxLen_eq : maxLen = 9223372036854775807 := by decide
theorem certCut_walk (v0 : Value) (a1 : Int) (a2 : ByteArray) (w : World) (x0 : IsCert w v0) (w1 : (Lit.int .i64 a1).wf = true) (w2 : a2.size ≤ maxLen) :
    Calls Try.prog 9 #[v0, .int .i64 a1, .string a2] w (fun e w' => e = .returned (.bool true) ∧ Below w.heap.size w w') := by
  obtain ⟨k, g, x, l, f, u, ca, h1, h2⟩ := x0
  refine @frz_law noGlob Try.prog 9 [.agg [.str k, .str g, lstS x l, .int .i64 f, .int .i64 u, .bool ca], .int .i64 a1, .str a2.data.toList] [v0, .int .i64 a1, .string a2] w (@cut_close (Frz.of w) k g x l f u ca a1 a2.data.toList (by rw [maxLen_eq] at h2; exact h2)) ?_ (gok w)
  simp only [realL, h1, bytes_str]
  rfl
theorem certBack_walk (v0 v1 : Value) (a2 : ByteArray) (w : World) (x0 : IsCert w v0) (x1 : IsCert w v1) (w2 : a2.size ≤ maxLen) :
    Calls Try.prog 10 #[v0, v1, .string a2] w (fun e w' => e = .returned (.bool true) ∧ Below w.heap.size w w') := by
  obtain ⟨k, g, x, l, f, u, ca, h1, h2⟩ := x0
  obtain ⟨k', g', y, l', f', u', ca', h3, h4⟩ := x1
  refine @frz_law noGlob Try.prog 10 [.agg [.str k, .str g, lstS x l, .int .i64 f, .int .i64 u, .bool ca], .agg [.str k', .str g', lstS y l', .int .i64 f', .int .i64 u', .bool ca'], .str a2.data.toList] [v0, v1, .string a2] w (@back_close (Frz.of w) k g x l f u ca k' g' y l' f' u' ca' a2.data.toList (by rw [maxLen_eq] at h2; exact h2) (by rw [maxLen_eq] at h4; exact h4)) ?_ (gok w)
  simp only [realL, h1, h3, bytes_str]
end Go.Proofs.Ytpjopdemhkcifaa
