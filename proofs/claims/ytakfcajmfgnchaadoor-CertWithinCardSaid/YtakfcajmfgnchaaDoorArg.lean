/- The laws of this seat: the arguments as they lie there; the walks. -/
import Derived.Test.YtakfcajmfgnchaaDoorWithin
import Derived.Test.YtakfcajmfgnchaaDoorVmc
import Derived.Test.YtakfcajmfgnchaaDoorRows
import Derived.WalkKit
import Derived.ProofKit
import Derived.OpenShut
import Derived.ShutString
namespace Go.Proofs.YtakfcajmfgnchaaDoor
open Go Go.Vm Go.RowKit
open Go.ChangeShapes Go.WideShapes Go.ChangeAt
set_option linter.unusedVariables false
set_option linter.unusedSectionVars false
set_option maxRecDepth 100000
def certSh : Sh := .agg [.str, .str, .lst .str, .int .i64, .int .i64, .bool]
theorem certSh_ok : shOk Tryd.prog 9 certSh 24 = true := by kernel_rfl
def IsCert (w : World) (v : Value) : Prop := ∃ k g xl l f u ca, @real gl (Frz.of w) [] (.agg [.str k, .str g, lstS xl l, .int .i64 f, .int .i64 u, .bool ca]) = some v ∧ l.length ≤ maxLen
theorem open_Cert {H : Type} {enc : TypeId × Value → H} {W : World} {b0 : Nat} {r : Reach} {v : Value} {d : DataW H} {ps : List MemPlace}
    (hval : Value.okWide Tryd.prog W r b0 24 v) (hd : DataW.Trod enc Tryd.prog W 0 (fun _ => true) true 24 v d ps) : IsCert W v := by
  obtain ⟨cs, rfl, _⟩ := okWide_struct Tryd.underlying24 hval
  obtain ⟨fuel, hf⟩ := hd
  obtain ⟨dd, h1, h2⟩ := @open_sh gl _ _ _ _ _ _ _ 9 certSh 24 fuel _ _ certSh_ok hf
  obtain ⟨l0_0, e0, g0_0⟩ := ofAgg h1
  obtain ⟨d0_0, l0_1, e0_0, a0_0, g0_1⟩ := all2_cons g0_0
  obtain ⟨d0_1, l0_2, e0_1, a0_1, g0_2⟩ := all2_cons g0_1
  obtain ⟨d0_2, l0_3, e0_2, a0_2, g0_3⟩ := all2_cons g0_2
  obtain ⟨d0_3, l0_4, e0_3, a0_3, g0_4⟩ := all2_cons g0_3
  obtain ⟨d0_4, l0_5, e0_4, a0_4, g0_5⟩ := all2_cons g0_4
  obtain ⟨d0_5, l0_6, e0_5, a0_5, g0_6⟩ := all2_cons g0_5
  have z0 := all2_nil g0_6
  subst e0 e0_0 e0_1 e0_2 e0_3 e0_4 e0_5 z0
  obtain ⟨k, q_k, w_k⟩ := ofStr a0_0
  subst q_k
  obtain ⟨g, q_g, w_g⟩ := ofStr a0_1
  subst q_g
  obtain ⟨xl, ds_l, q_l, w_l, y_l⟩ := ofLst a0_2
  subst q_l
  obtain ⟨l, c_l, m_l⟩ := strsD _ ds_l y_l
  have n_l : ds_l.length = l.length := by rw [c_l, List.length_map]
  obtain ⟨f, q_f, w_f⟩ := ofInt a0_3
  subst q_f
  obtain ⟨u, q_u, w_u⟩ := ofInt a0_4
  subst q_u
  obtain ⟨ca, q_ca⟩ := ofBool a0_5
  subst q_ca
  simp only [cellsD, cellsDs, m_l, n_l, List.append_nil, List.singleton_append, List.cons_append, List.nil_append] at h2
  have h3 := @realL_of0 gl (Frz.of W) [] _ _ h2
  refine ⟨k, g, xl, l, f, u, ca, ?_, by rw [← n_l]; exact w_l⟩
  have h4 := @Go.Vm.real_agg_mk gl (Frz.of W) [] _ _ h3
  rw [show (Value.agg cs).cells = cs from rfl, Array.toArray_toList] at h4
  exact h4
theorem maxLen_eq : maxLen = 9223372036854775807 := by decide
theorem bytes_str {w : World} (s : ByteArray) : @real gl (Frz.of w) [] (.str s.data.toList) = some (.string s) := by simp [real]
theorem certWithin_walk (v0 : Value) (a1 : ByteArray) (a2 : ByteArray) (w : World) (x0 : IsCert w v0) (w1 : a1.size ≤ maxLen) (w2 : a2.size ≤ maxLen) (hg : @GOk gl (Frz.of w) w.heap.size w) :
    Calls Tryd.prog 3 #[v0, .string a1, .string a2] w (fun e w' => e = .returned (.bool true) ∧ Below w.heap.size w w') := by
  obtain ⟨k_0, g_0, xl_0, l_0, f_0, u_0, ca_0, re0, hy_l_0⟩ := x0
  refine @frz_law gl Tryd.prog 3 [.agg [.str k_0, .str g_0, lstS xl_0 l_0, .int .i64 f_0, .int .i64 u_0, .bool ca_0], .str a1.data.toList, .str a2.data.toList] [v0, .string a1, .string a2] w (@within_close (Frz.of w) k_0 g_0 xl_0 l_0 f_0 u_0 ca_0 a1.data.toList a2.data.toList (by rw [maxLen_eq] at hy_l_0; exact hy_l_0)) ?_ hg
  simp only [realL, bytes_str, re0]
end Go.Proofs.YtakfcajmfgnchaaDoor
