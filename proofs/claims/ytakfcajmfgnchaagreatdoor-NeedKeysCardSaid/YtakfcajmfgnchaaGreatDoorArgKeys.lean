/- The laws of this seat: the arguments as they lie there; the walks. -/
import Derived.Test.YtakfcajmfgnchaaGreatDoorNKeys
import Derived.Test.YtakfcajmfgnchaaGreatDoorVmc
import Derived.Test.YtakfcajmfgnchaaGreatDoorRows
import Derived.WalkKit
import Derived.ProofKit
import Derived.OpenShut
import Derived.ShutString
namespace Go.Proofs.YtakfcajmfgnchaaGreatDoor
open Go Go.Vm Go.RowKit
open Go.ChangeShapes Go.WideShapes Go.ChangeAt
set_option linter.unusedVariables false
set_option linter.unusedSectionVars false
set_option maxRecDepth 100000
def askSh : Sh := .agg [.bool, .bool, .str, .bool, .agg [.int .u8, .bool, .lst (.agg [.int .i64,.str]), .lst (.str), .lst tlSh], .bool, .agg [.int .u8, .lst .str, .int .i64]]
theorem askSh_ok : shOk Tryz.prog 9 askSh 30 = true := by kernel_rfl
def IsAsk (w : World) (v : Value) : Prop := ∃ pl rq h mx co se xml nml ml xtx ntx tx xtl tl ha mo xms ms ag, @real gl (Frz.of w) [] (.agg [.bool pl, .bool rq, .str h, .bool mx, .int .u8 co, .bool se, .lst xml nml ml, .lst xtx ntx tx, lstT xtl tl, .bool ha, .int .u8 mo, lstS xms ms, .int .i64 ag]) = some v ∧ tl.length ≤ maxLen ∧ ms.length ≤ maxLen
theorem open_Ask {H : Type} {enc : TypeId × Value → H} {W : World} {b0 : Nat} {r : Reach} {v : Value} {d : DataW H} {ps : List MemPlace}
  (hval : Value.okWide Tryz.prog W r b0 30 v) (hd : DataW.Trod enc Tryz.prog W 0 (fun _ => true) true 30 v d ps) : IsAsk W v := by
 obtain ⟨cs, rfl, _⟩ := okWide_struct Tryz.underlying30 hval
 obtain ⟨fuel, hf⟩ := hd
 obtain ⟨dd, h1, h2⟩ := @open_sh gl _ _ _ _ _ _ _ 9 askSh 30 fuel _ _ askSh_ok hf
 obtain ⟨l0_0, e0, g0_0⟩ := ofAgg h1
 obtain ⟨d0_0, l0_1, e0_0, a0_0, g0_1⟩ := all2_cons g0_0
 obtain ⟨d0_1, l0_2, e0_1, a0_1, g0_2⟩ := all2_cons g0_1
 obtain ⟨d0_2, l0_3, e0_2, a0_2, g0_3⟩ := all2_cons g0_2
 obtain ⟨d0_3, l0_4, e0_3, a0_3, g0_4⟩ := all2_cons g0_3
 obtain ⟨d0_4, l0_5, e0_4, a0_4, g0_5⟩ := all2_cons g0_4
 obtain ⟨d0_5, l0_6, e0_5, a0_5, g0_6⟩ := all2_cons g0_5
 obtain ⟨d0_6, l0_7, e0_6, a0_6, g0_7⟩ := all2_cons g0_6
 have z0 := all2_nil g0_7
 subst e0 e0_0 e0_1 e0_2 e0_3 e0_4 e0_5 e0_6 z0
 obtain ⟨pl, q_pl⟩ := ofBool a0_0
 subst q_pl
 obtain ⟨rq, q_rq⟩ := ofBool a0_1
 subst q_rq
 obtain ⟨h, q_h, w_h⟩ := ofStr a0_2
 subst q_h
 obtain ⟨mx, q_mx⟩ := ofBool a0_3
 subst q_mx
 obtain ⟨l1_0, e1, g1_0⟩ := ofAgg a0_4
 obtain ⟨d1_0, l1_1, e1_0, a1_0, g1_1⟩ := all2_cons g1_0
 obtain ⟨d1_1, l1_2, e1_1, a1_1, g1_2⟩ := all2_cons g1_1
 obtain ⟨d1_2, l1_3, e1_2, a1_2, g1_3⟩ := all2_cons g1_2
 obtain ⟨d1_3, l1_4, e1_3, a1_3, g1_4⟩ := all2_cons g1_3
 obtain ⟨d1_4, l1_5, e1_4, a1_4, g1_5⟩ := all2_cons g1_4
 have z1 := all2_nil g1_5
 subst e1 e1_0 e1_1 e1_2 e1_3 e1_4 z1
 obtain ⟨co, q_co, w_co⟩ := ofInt a1_0
 subst q_co
 obtain ⟨se, q_se⟩ := ofBool a1_1
 subst q_se
 obtain ⟨xml, ds_ml, q_ml, w_ml, y_ml⟩ := ofLst a1_2
 subst q_ml
 obtain ⟨xtx, ds_tx, q_tx, w_tx, y_tx⟩ := ofLst a1_3
 subst q_tx
 obtain ⟨xtl, ds_tl, q_tl, w_tl, y_tl⟩ := ofLst a1_4
 subst q_tl
 obtain ⟨tl, n_tl, m_tl⟩ := tlsD _ ds_tl y_tl
 obtain ⟨ha, q_ha⟩ := ofBool a0_5
 subst q_ha
 obtain ⟨l2_0, e2, g2_0⟩ := ofAgg a0_6
 obtain ⟨d2_0, l2_1, e2_0, a2_0, g2_1⟩ := all2_cons g2_0
 obtain ⟨d2_1, l2_2, e2_1, a2_1, g2_2⟩ := all2_cons g2_1
 obtain ⟨d2_2, l2_3, e2_2, a2_2, g2_3⟩ := all2_cons g2_2
 have z2 := all2_nil g2_3
 subst e2 e2_0 e2_1 e2_2 z2
 obtain ⟨mo, q_mo, w_mo⟩ := ofInt a2_0
 subst q_mo
 obtain ⟨xms, ds_ms, q_ms, w_ms, y_ms⟩ := ofLst a2_1
 subst q_ms
 obtain ⟨ms, c_ms, m_ms⟩ := strsD _ ds_ms y_ms
 have n_ms : ds_ms.length = ms.length := by rw [c_ms, List.length_map]
 obtain ⟨ag, q_ag, w_ag⟩ := ofInt a2_2
 subst q_ag
 simp only [cellsD, cellsDs, m_tl, m_ms, n_tl, n_ms, List.append_nil, List.singleton_append, List.cons_append, List.nil_append] at h2
 have h3 := @realL_of0 gl (Frz.of W) [] _ _ h2
 refine ⟨pl, rq, h, mx, co, se, xml, ds_ml.length, cellsDs ds_ml, xtx, ds_tx.length, cellsDs ds_tx, xtl, tl, ha, mo, xms, ms, ag, ?_, by rw [← n_tl]; exact w_tl, by rw [← n_ms]; exact w_ms⟩
 have h4 := @Go.Vm.real_agg_mk gl (Frz.of W) [] _ _ h3
 rw [show (Value.agg cs).cells = cs from rfl, Array.toArray_toList] at h4
 exact h4
def polSh : Sh := .agg [.int .u8, .lst .str, .int .i64]
theorem polSh_ok : shOk Tryz.prog 9 polSh 28 = true := by kernel_rfl
def IsPol (w : World) (v : Value) : Prop := ∃ mo xms ms ag, @real gl (Frz.of w) [] (.agg [.int .u8 mo, lstS xms ms, .int .i64 ag]) = some v ∧ ms.length ≤ maxLen
theorem open_Pol {H : Type} {enc : TypeId × Value → H} {W : World} {b0 : Nat} {r : Reach} {v : Value} {d : DataW H} {ps : List MemPlace}
  (hval : Value.okWide Tryz.prog W r b0 28 v) (hd : DataW.Trod enc Tryz.prog W 0 (fun _ => true) true 28 v d ps) : IsPol W v := by
 obtain ⟨cs, rfl, _⟩ := okWide_struct Tryz.underlying28 hval
 obtain ⟨fuel, hf⟩ := hd
 obtain ⟨dd, h1, h2⟩ := @open_sh gl _ _ _ _ _ _ _ 9 polSh 28 fuel _ _ polSh_ok hf
 obtain ⟨l0_0, e0, g0_0⟩ := ofAgg h1
 obtain ⟨d0_0, l0_1, e0_0, a0_0, g0_1⟩ := all2_cons g0_0
 obtain ⟨d0_1, l0_2, e0_1, a0_1, g0_2⟩ := all2_cons g0_1
 obtain ⟨d0_2, l0_3, e0_2, a0_2, g0_3⟩ := all2_cons g0_2
 have z0 := all2_nil g0_3
 subst e0 e0_0 e0_1 e0_2 z0
 obtain ⟨mo, q_mo, w_mo⟩ := ofInt a0_0
 subst q_mo
 obtain ⟨xms, ds_ms, q_ms, w_ms, y_ms⟩ := ofLst a0_1
 subst q_ms
 obtain ⟨ms, c_ms, m_ms⟩ := strsD _ ds_ms y_ms
 have n_ms : ds_ms.length = ms.length := by rw [c_ms, List.length_map]
 obtain ⟨ag, q_ag, w_ag⟩ := ofInt a0_2
 subst q_ag
 simp only [cellsD, cellsDs, m_ms, n_ms, List.append_nil, List.singleton_append, List.cons_append, List.nil_append] at h2
 have h3 := @realL_of0 gl (Frz.of W) [] _ _ h2
 refine ⟨mo, xms, ms, ag, ?_, by rw [← n_ms]; exact w_ms⟩
 have h4 := @Go.Vm.real_agg_mk gl (Frz.of W) [] _ _ h3
 rw [show (Value.agg cs).cells = cs from rfl, Array.toArray_toList] at h4
 exact h4
theorem maxLen_eq : maxLen = 9223372036854775807 := by decide
theorem bytes_str {w : World} (s : ByteArray) : @real gl (Frz.of w) [] (.str s.data.toList) = some (.string s) := by simp [real]
theorem needKeys_walk (v0 : Value) (v1 : Value) (a2 : Bool) (w : World) (x0 : IsAsk w v0) (x1 : IsPol w v1) (hg : @GOk gl (Frz.of w) w.heap.size w) :
  Calls Tryz.prog 5 #[v0, v1, .bool a2] w (fun e w' => e = .returned (.bool true) ∧ Below w.heap.size w w') := by
 obtain ⟨pl_0, rq_0, h_0, mx_0, co_0, se_0, xml_0, nml_0, ml_0, xtx_0, ntx_0, tx_0, xtl_0, tl_0, ha_0, mo_0, xms_0, ms_0, ag_0, re0, hy_tl_0, hy_ms_0⟩ := x0
 obtain ⟨mo_1, xms_1, ms_1, ag_1, re1, hy_ms_1⟩ := x1
 refine @frz_law gl Tryz.prog 5 [.agg [.bool pl_0, .bool rq_0, .str h_0, .bool mx_0, .int .u8 co_0, .bool se_0, .lst xml_0 nml_0 ml_0, .lst xtx_0 ntx_0 tx_0, lstT xtl_0 tl_0, .bool ha_0, .int .u8 mo_0, lstS xms_0 ms_0, .int .i64 ag_0], .agg [.int .u8 mo_1, lstS xms_1 ms_1, .int .i64 ag_1], .bool a2] [v0, v1, .bool a2] w (@keys_close (Frz.of w) pl_0 rq_0 h_0 mx_0 co_0 se_0 xml_0 nml_0 ml_0 xtx_0 ntx_0 tx_0 xtl_0 tl_0 ha_0 mo_0 xms_0 ms_0 ag_0 mo_1 xms_1 ms_1 ag_1 a2 (by rw [maxLen_eq] at hy_tl_0; exact hy_tl_0) (by rw [maxLen_eq] at hy_ms_0; exact hy_ms_0) (by rw [maxLen_eq] at hy_ms_1; exact hy_ms_1)) ?_ hg
 simp only [realL, bytes_str, re0, re1]
 try rfl
end Go.Proofs.YtakfcajmfgnchaaGreatDoor
