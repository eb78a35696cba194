/- The laws of this seat: the arguments as they lie there; the walks. -/
import Derived.Test.YtakfcajmfgnchaaGreatDoorNLess
import Derived.Test.YtakfcajmfgnchaaGreatDoorTlU
import Derived.Test.YtakfcajmfgnchaaGreatDoorVmc
import Derived.Test.YtakfcajmfgnchaaGreatDoorRows
import Derived.WalkKit
import Derived.ProofKit
import Derived.OpenShut
import Derived.ShutString
namespace Go.Proofs.YtakfcajmfgnchaaGreatDoor
open Go Go.Vm Go.RowKit
open Go.ChangeShapes Go.WideShapes Go.ChangeAt
set_option linter.unusedVariables false
set_option linter.unusedSectionVars false
set_option maxRecDepth 100000
def askSh : Sh := .agg [.bool, .bool, .str, .bool, .agg [.int .u8, .bool, .lst (.agg [.int .i64,.str]), .lst (.str), .lst tlSh], .bool, .agg [.int .u8, .lst .str, .int .i64]]
theorem askSh_ok : shOk Tryz.prog 9 askSh 30 = true := by kernel_rfl
def IsAsk (w : World) (v : Value) : Prop := ∃ pl rq h mx co se xml nml ml xtx ntx tx xtl tl ha mo xms ms ag, @real gl (Frz.of w) [] (.agg [.bool pl, .bool rq, .str h, .bool mx, .int .u8 co, .bool se, .lst xml nml ml, .lst xtx ntx tx, lstT xtl tl, .bool ha, .int .u8 mo, lstS xms ms, .int .i64 ag]) = some v ∧ tl.length ≤ maxLen ∧ tl.all inU = true ∧ ms.length ≤ maxLen
theorem open_Ask {H : Type} {enc : TypeId × Value → H} {W : World} {b0 : Nat} {r : Reach} {v : Value} {d : DataW H} {ps : List MemPlace}
  (hval : Value.okWide Tryz.prog W r b0 30 v) (hd : DataW.Trod enc Tryz.prog W 0 (fun _ => true) true 30 v d ps) : IsAsk W v := by
 obtain ⟨cs, rfl, _⟩ := okWide_struct Tryz.underlying30 hval
 obtain ⟨fuel, hf⟩ := hd
 obtain ⟨dd, h1, h2⟩ := @open_sh gl _ _ _ _ _ _ _ 9 askSh 30 fuel _ _ askSh_ok hf
 obtain ⟨l0_0, e0, g0_0⟩ := ofAgg h1
 obtain ⟨d0_0, l0_1, e0_0, a0_0, g0_1⟩ := bh g0_0
 obtain ⟨d0_1, l0_2, e0_1, a0_1, g0_2⟩ := bh g0_1
 obtain ⟨d0_2, l0_3, e0_2, a0_2, g0_3⟩ := bh g0_2
 obtain ⟨d0_3, l0_4, e0_3, a0_3, g0_4⟩ := bh g0_3
 obtain ⟨d0_4, l0_5, e0_4, a0_4, g0_5⟩ := bh g0_4
 obtain ⟨d0_5, l0_6, e0_5, a0_5, g0_6⟩ := bh g0_5
 obtain ⟨d0_6, l0_7, e0_6, a0_6, g0_7⟩ := bh g0_6
 have z0 := all2_nil g0_7
 subst e0 e0_0 e0_1 e0_2 e0_3 e0_4 e0_5 e0_6 z0
 obtain ⟨pl, q_pl⟩ := ofBool a0_0
 subst q_pl
 obtain ⟨rq, q_rq⟩ := ofBool a0_1
 subst q_rq
 obtain ⟨h, q_h, w_h⟩ := ofStr a0_2
 subst q_h
 obtain ⟨mx, q_mx⟩ := ofBool a0_3
 subst q_mx
 obtain ⟨l1_0, e1, g1_0⟩ := ofAgg a0_4
 obtain ⟨d1_0, l1_1, e1_0, a1_0, g1_1⟩ := bh g1_0
 obtain ⟨d1_1, l1_2, e1_1, a1_1, g1_2⟩ := bh g1_1
 obtain ⟨d1_2, l1_3, e1_2, a1_2, g1_3⟩ := bh g1_2
 obtain ⟨d1_3, l1_4, e1_3, a1_3, g1_4⟩ := bh g1_3
 obtain ⟨d1_4, l1_5, e1_4, a1_4, g1_5⟩ := bh g1_4
 have z1 := all2_nil g1_5
 subst e1 e1_0 e1_1 e1_2 e1_3 e1_4 z1
 obtain ⟨co, q_co, w_co⟩ := ofInt a1_0
 subst q_co
 obtain ⟨se, q_se⟩ := ofBool a1_1
 subst q_se
 obtain ⟨xml, ds_ml, q_ml, w_ml, y_ml⟩ := ofLst a1_2
 subst q_ml
 obtain ⟨xtx, ds_tx, q_tx, w_tx, y_tx⟩ := ofLst a1_3
 subst q_tx
 obtain ⟨xtl, ds_tl, q_tl, w_tl, y_tl⟩ := ofLst a1_4
 subst q_tl
 obtain ⟨tl, n_tl, m_tl, u_tl⟩ := tlsDU _ ds_tl y_tl
 obtain ⟨ha, q_ha⟩ := ofBool a0_5
 subst q_ha
 obtain ⟨l2_0, e2, g2_0⟩ := ofAgg a0_6
 obtain ⟨d2_0, l2_1, e2_0, a2_0, g2_1⟩ := bh g2_0
 obtain ⟨d2_1, l2_2, e2_1, a2_1, g2_2⟩ := bh g2_1
 obtain ⟨d2_2, l2_3, e2_2, a2_2, g2_3⟩ := bh g2_2
 have z2 := all2_nil g2_3
 subst e2 e2_0 e2_1 e2_2 z2
 obtain ⟨mo, q_mo, w_mo⟩ := ofInt a2_0
 subst q_mo
 obtain ⟨xms, ds_ms, q_ms, w_ms, y_ms⟩ := ofLst a2_1
 subst q_ms
 obtain ⟨ms, c_ms, m_ms⟩ := strsD _ ds_ms y_ms
 have n_ms : ds_ms.length = ms.length := by rw [c_ms, List.length_map]
 obtain ⟨ag, q_ag, w_ag⟩ := ofInt a2_2
 subst q_ag
 simp only [cellsD, bU, m_tl, m_ms, n_tl, n_ms, List.append_nil, List.singleton_append, List.cons_append, List.nil_append] at h2
 have h3 := @realL_of0 gl (Frz.of W) [] _ _ h2
 refine ⟨pl, rq, h, mx, co, se, xml, ds_ml.length, bU ds_ml, xtx, ds_tx.length, bU ds_tx, xtl, tl, ha, mo, xms, ms, ag, ?_, by rw [← n_tl]; exact w_tl, u_tl, by rw [← n_ms]; exact w_ms⟩
 have h4 := @Go.Vm.real_agg_mk gl (Frz.of W) [] _ _ h3
 rw [show (Value.agg cs).cells = cs from rfl, Array.toArray_toList] at h4
 exact h4
def shakeSh : Sh := .agg [.bool, .int .u16, .lst .str]
theorem shakeSh_ok : shOk Tryz.prog 9 shakeSh 33 = true := by kernel_rfl
def IsShake (w : World) (v : Value) : Prop := ∃ sok ver xch ch, @real gl (Frz.of w) [] (.agg [.bool sok, .int .u16 ver, lstS xch ch]) = some v ∧ ch.length ≤ maxLen
theorem open_Shake {H : Type} {enc : TypeId × Value → H} {W : World} {b0 : Nat} {r : Reach} {v : Value} {d : DataW H} {ps : List MemPlace}
  (hval : Value.okWide Tryz.prog W r b0 33 v) (hd : DataW.Trod enc Tryz.prog W 0 (fun _ => true) true 33 v d ps) : IsShake W v := by
 obtain ⟨cs, rfl, _⟩ := okWide_struct Tryz.underlying33 hval
 obtain ⟨fuel, hf⟩ := hd
 obtain ⟨dd, h1, h2⟩ := @open_sh gl _ _ _ _ _ _ _ 9 shakeSh 33 fuel _ _ shakeSh_ok hf
 obtain ⟨l0_0, e0, g0_0⟩ := ofAgg h1
 obtain ⟨d0_0, l0_1, e0_0, a0_0, g0_1⟩ := bh g0_0
 obtain ⟨d0_1, l0_2, e0_1, a0_1, g0_2⟩ := bh g0_1
 obtain ⟨d0_2, l0_3, e0_2, a0_2, g0_3⟩ := bh g0_2
 have z0 := all2_nil g0_3
 subst e0 e0_0 e0_1 e0_2 z0
 obtain ⟨sok, q_sok⟩ := ofBool a0_0
 subst q_sok
 obtain ⟨ver, q_ver, w_ver⟩ := ofInt a0_1
 subst q_ver
 obtain ⟨xch, ds_ch, q_ch, w_ch, y_ch⟩ := ofLst a0_2
 subst q_ch
 obtain ⟨ch, c_ch, m_ch⟩ := strsD _ ds_ch y_ch
 have n_ch : ds_ch.length = ch.length := by rw [c_ch, List.length_map]
 simp only [cellsD, bU, m_ch, n_ch, List.append_nil, List.singleton_append, List.cons_append, List.nil_append] at h2
 have h3 := @realL_of0 gl (Frz.of W) [] _ _ h2
 refine ⟨sok, ver, xch, ch, ?_, by rw [← n_ch]; exact w_ch⟩
 have h4 := @Go.Vm.real_agg_mk gl (Frz.of W) [] _ _ h3
 rw [show (Value.agg cs).cells = cs from rfl, Array.toArray_toList] at h4
 exact h4
def strsSh : Sh := .lst .str
theorem strsSh_ok : shOk Tryz.prog 9 strsSh 23 = true := by kernel_rfl
def IsStrs (w : World) (v : Value) : Prop := ∃ xan an, @real gl (Frz.of w) [] (lstS xan an) = some v ∧ an.length ≤ maxLen
theorem open_Strs {H : Type} {enc : TypeId × Value → H} {W : World} {b0 : Nat} {r : Reach} {v : Value} {d : DataW H} {ps : List MemPlace}
  (hval : Value.okWide Tryz.prog W r b0 23 v) (hd : DataW.Trod enc Tryz.prog W 0 (fun _ => true) true 23 v d ps) : IsStrs W v := by
 obtain ⟨sa, sl, sc, rfl⟩ := okWide_slice Tryz.underlying23 hval
 obtain ⟨fuel, hf⟩ := hd
 obtain ⟨dd, h1, h2⟩ := @open_sh gl _ _ _ _ _ _ _ 9 strsSh 23 fuel _ _ strsSh_ok hf
 obtain ⟨xan, ds_an, q_an, w_an, y_an⟩ := ofLst h1
 subst q_an
 obtain ⟨an, c_an, m_an⟩ := strsD _ ds_an y_an
 have n_an : ds_an.length = an.length := by rw [c_an, List.length_map]
 simp only [cellsD, bU, m_an, n_an, List.append_nil, List.singleton_append, List.cons_append, List.nil_append] at h2
 have h3 := @realL_of0 gl (Frz.of W) [] _ _ h2
 refine ⟨xan, an, ?_, by rw [← n_an]; exact w_an⟩
 simp only [ah] at h3
 split at h3
 ·rename_i q1 q2 q3 q4
  obtain ⟨e1, _⟩ := List.cons.inj (Option.some.inj h3)
  subst e1
  exact q3
 ·cases h3
theorem maxLen_eq : maxLen = 9223372036854775807 := by decide
theorem bytes_str {w : World} (s : ByteArray) : @real gl (Frz.of w) [] (.str s.data.toList) = some (.string s) := by simp [real]
theorem needLess_walk (v0 : Value) (v1 : Value) (a2 : Int) (v3 : Value) (w : World) (x0 : IsAsk w v0) (x1 : IsShake w v1) (w2 : (Lit.int .i64 a2).wf = true) (x3 : IsStrs w v3) (hg : @GOk gl (Frz.of w) w.heap.size w) :
  Calls Tryz.prog 6 #[v0, v1, .int .i64 a2, v3] w (fun e w' => e = .returned (.bool true) ∧ Below w.heap.size w w') := by
 obtain ⟨pl_0, rq_0, h_0, mx_0, co_0, se_0, xml_0, nml_0, ml_0, xtx_0, ntx_0, tx_0, xtl_0, tl_0, ha_0, mo_0, xms_0, ms_0, ag_0, re0, hy_tl_0, hyu_tl_0, hy_ms_0⟩ := x0
 obtain ⟨sok_1, ver_1, xch_1, ch_1, re1, hy_ch_1⟩ := x1
 obtain ⟨xan_3, an_3, re3, hy_an_3⟩ := x3
 refine @frz_law gl Tryz.prog 6 [.agg [.bool pl_0, .bool rq_0, .str h_0, .bool mx_0, .int .u8 co_0, .bool se_0, .lst xml_0 nml_0 ml_0, .lst xtx_0 ntx_0 tx_0, lstT xtl_0 tl_0, .bool ha_0, .int .u8 mo_0, lstS xms_0 ms_0, .int .i64 ag_0], .agg [.bool sok_1, .int .u16 ver_1, lstS xch_1 ch_1], .int .i64 a2, lstS xan_3 an_3] [v0, v1, .int .i64 a2, v3] w (@less_close (Frz.of w) pl_0 rq_0 h_0 mx_0 co_0 se_0 xml_0 nml_0 ml_0 xtx_0 ntx_0 tx_0 xtl_0 tl_0 ha_0 mo_0 xms_0 ms_0 ag_0 sok_1 ver_1 xch_1 ch_1 a2 xan_3 an_3 (by rw [maxLen_eq] at hy_tl_0; exact hy_tl_0) hyu_tl_0 (by rw [maxLen_eq] at hy_ms_0; exact hy_ms_0) (by rw [maxLen_eq] at hy_ch_1; exact hy_ch_1) (by rw [maxLen_eq] at hy_an_3; exact hy_an_3)) ?_ hg
 simp only [ah, bytes_str, re0, re1, re3]
 try rfl
end Go.Proofs.YtakfcajmfgnchaaGreatDoor
