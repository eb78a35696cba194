/- The laws of this seat: the arguments as they lie there; the walks. -/
import Derived.Test.YtakfcajmfgnchaaGreatDoorNMore
import Derived.Test.YtakfcajmfgnchaaGreatDoorTlU
import Derived.Test.YtakfcajmfgnchaaGreatDoorVmc
import Derived.Test.YtakfcajmfgnchaaGreatDoorRows
import Derived.WalkKit
import Derived.ProofKit
import Derived.OpenShut
import Derived.ShutString
namespace Go.Proofs.YtakfcajmfgnchaaGreatDoor
open Go Go.Vm Go.RowKit
open Go.ChangeShapes Go.WideShapes Go.ChangeAt
set_option linter.unusedVariables false
set_option linter.unusedSectionVars false
set_option maxRecDepth 100000
def needSh : Sh := .agg [.str, .lst tlSh, .bool, .bool, .int .u8]
theorem needSh_ok : shOk Tryz.prog 9 needSh 38 = true := by kernel_rfl
def IsNeed (w : World) (v : Value) : Prop := ∃ h xtl tl ch se ty, @real gl (Frz.of w) [] (.agg [.str h, lstT xtl tl, .bool ch, .bool se, .int .u8 ty]) = some v ∧ tl.length ≤ maxLen ∧ tl.all inU = true
theorem open_Need {H : Type} {enc : TypeId × Value → H} {W : World} {b0 : Nat} {r : Reach} {v : Value} {d : DataW H} {ps : List MemPlace}
  (hval : Value.okWide Tryz.prog W r b0 38 v) (hd : DataW.Trod enc Tryz.prog W 0 (fun _ => true) true 38 v d ps) : IsNeed W v := by
 obtain ⟨cs, rfl, _⟩ := okWide_struct Tryz.underlying38 hval
 obtain ⟨fuel, hf⟩ := hd
 obtain ⟨dd, h1, h2⟩ := @open_sh gl _ _ _ _ _ _ _ 9 needSh 38 fuel _ _ needSh_ok hf
 obtain ⟨l0_0, e0, g0_0⟩ := ofAgg h1
 obtain ⟨d0_0, l0_1, e0_0, a0_0, g0_1⟩ := all2_cons g0_0
 obtain ⟨d0_1, l0_2, e0_1, a0_1, g0_2⟩ := all2_cons g0_1
 obtain ⟨d0_2, l0_3, e0_2, a0_2, g0_3⟩ := all2_cons g0_2
 obtain ⟨d0_3, l0_4, e0_3, a0_3, g0_4⟩ := all2_cons g0_3
 obtain ⟨d0_4, l0_5, e0_4, a0_4, g0_5⟩ := all2_cons g0_4
 have z0 := all2_nil g0_5
 subst e0 e0_0 e0_1 e0_2 e0_3 e0_4 z0
 obtain ⟨h, q_h, w_h⟩ := ofStr a0_0
 subst q_h
 obtain ⟨xtl, ds_tl, q_tl, w_tl, y_tl⟩ := ofLst a0_1
 subst q_tl
 obtain ⟨tl, n_tl, m_tl, u_tl⟩ := tlsDU _ ds_tl y_tl
 obtain ⟨ch, q_ch⟩ := ofBool a0_2
 subst q_ch
 obtain ⟨se, q_se⟩ := ofBool a0_3
 subst q_se
 obtain ⟨ty, q_ty, w_ty⟩ := ofInt a0_4
 subst q_ty
 simp only [cellsD, cellsDs, m_tl, n_tl, List.append_nil, List.singleton_append, List.cons_append, List.nil_append] at h2
 have h3 := @realL_of0 gl (Frz.of W) [] _ _ h2
 refine ⟨h, xtl, tl, ch, se, ty, ?_, by rw [← n_tl]; exact w_tl, u_tl⟩
 have h4 := @Go.Vm.real_agg_mk gl (Frz.of W) [] _ _ h3
 rw [show (Value.agg cs).cells = cs from rfl, Array.toArray_toList] at h4
 exact h4
def shakeSh : Sh := .agg [.bool, .int .u16, .lst .str]
theorem shakeSh_ok : shOk Tryz.prog 9 shakeSh 33 = true := by kernel_rfl
def IsShake (w : World) (v : Value) : Prop := ∃ sok ver xch ch, @real gl (Frz.of w) [] (.agg [.bool sok, .int .u16 ver, lstS xch ch]) = some v ∧ ch.length ≤ maxLen
theorem open_Shake {H : Type} {enc : TypeId × Value → H} {W : World} {b0 : Nat} {r : Reach} {v : Value} {d : DataW H} {ps : List MemPlace}
  (hval : Value.okWide Tryz.prog W r b0 33 v) (hd : DataW.Trod enc Tryz.prog W 0 (fun _ => true) true 33 v d ps) : IsShake W v := by
 obtain ⟨cs, rfl, _⟩ := okWide_struct Tryz.underlying33 hval
 obtain ⟨fuel, hf⟩ := hd
 obtain ⟨dd, h1, h2⟩ := @open_sh gl _ _ _ _ _ _ _ 9 shakeSh 33 fuel _ _ shakeSh_ok hf
 obtain ⟨l0_0, e0, g0_0⟩ := ofAgg h1
 obtain ⟨d0_0, l0_1, e0_0, a0_0, g0_1⟩ := all2_cons g0_0
 obtain ⟨d0_1, l0_2, e0_1, a0_1, g0_2⟩ := all2_cons g0_1
 obtain ⟨d0_2, l0_3, e0_2, a0_2, g0_3⟩ := all2_cons g0_2
 have z0 := all2_nil g0_3
 subst e0 e0_0 e0_1 e0_2 z0
 obtain ⟨sok, q_sok⟩ := ofBool a0_0
 subst q_sok
 obtain ⟨ver, q_ver, w_ver⟩ := ofInt a0_1
 subst q_ver
 obtain ⟨xch, ds_ch, q_ch, w_ch, y_ch⟩ := ofLst a0_2
 subst q_ch
 obtain ⟨ch, c_ch, m_ch⟩ := strsD _ ds_ch y_ch
 have n_ch : ds_ch.length = ch.length := by rw [c_ch, List.length_map]
 simp only [cellsD, cellsDs, m_ch, n_ch, List.append_nil, List.singleton_append, List.cons_append, List.nil_append] at h2
 have h3 := @realL_of0 gl (Frz.of W) [] _ _ h2
 refine ⟨sok, ver, xch, ch, ?_, by rw [← n_ch]; exact w_ch⟩
 have h4 := @Go.Vm.real_agg_mk gl (Frz.of W) [] _ _ h3
 rw [show (Value.agg cs).cells = cs from rfl, Array.toArray_toList] at h4
 exact h4
def strsSh : Sh := .lst .str
theorem strsSh_ok : shOk Tryz.prog 9 strsSh 23 = true := by kernel_rfl
def IsStrs (w : World) (v : Value) : Prop := ∃ xan an, @real gl (Frz.of w) [] (lstS xan an) = some v ∧ an.length ≤ maxLen
theorem open_Strs {H : Type} {enc : TypeId × Value → H} {W : World} {b0 : Nat} {r : Reach} {v : Value} {d : DataW H} {ps : List MemPlace}
  (hval : Value.okWide Tryz.prog W r b0 23 v) (hd : DataW.Trod enc Tryz.prog W 0 (fun _ => true) true 23 v d ps) : IsStrs W v := by
 obtain ⟨sa, sl, sc, rfl⟩ := okWide_slice Tryz.underlying23 hval
 obtain ⟨fuel, hf⟩ := hd
 obtain ⟨dd, h1, h2⟩ := @open_sh gl _ _ _ _ _ _ _ 9 strsSh 23 fuel _ _ strsSh_ok hf
 obtain ⟨xan, ds_an, q_an, w_an, y_an⟩ := ofLst h1
 subst q_an
 obtain ⟨an, c_an, m_an⟩ := strsD _ ds_an y_an
 have n_an : ds_an.length = an.length := by rw [c_an, List.length_map]
 simp only [cellsD, cellsDs, m_an, n_an, List.append_nil, List.singleton_append, List.cons_append, List.nil_append] at h2
 have h3 := @realL_of0 gl (Frz.of W) [] _ _ h2
 refine ⟨xan, an, ?_, by rw [← n_an]; exact w_an⟩
 simp only [realL] at h3
 split at h3
 ·rename_i q1 q2 q3 q4
  obtain ⟨e1, _⟩ := List.cons.inj (Option.some.inj h3)
  subst e1
  exact q3
 ·cases h3
theorem maxLen_eq : maxLen = 9223372036854775807 := by decide
theorem bytes_str {w : World} (s : ByteArray) : @real gl (Frz.of w) [] (.str s.data.toList) = some (.string s) := by simp [real]
theorem needMore_walk (v0 : Value) (v1 : Value) (a2 : Int) (v3 : Value) (w : World) (x0 : IsNeed w v0) (x1 : IsShake w v1) (w2 : (Lit.int .i64 a2).wf = true) (x3 : IsStrs w v3) (hg : @GOk gl (Frz.of w) w.heap.size w) :
  Calls Tryz.prog 4 #[v0, v1, .int .i64 a2, v3] w (fun e w' => e = .returned (.bool true) ∧ Below w.heap.size w w') := by
 obtain ⟨h_0, xtl_0, tl_0, ch_0, se_0, ty_0, re0, hy_tl_0, hyu_tl_0⟩ := x0
 obtain ⟨sok_1, ver_1, xch_1, ch_1, re1, hy_ch_1⟩ := x1
 obtain ⟨xan_3, an_3, re3, hy_an_3⟩ := x3
 refine @frz_law gl Tryz.prog 4 [.agg [.str h_0, lstT xtl_0 tl_0, .bool ch_0, .bool se_0, .int .u8 ty_0], .agg [.bool sok_1, .int .u16 ver_1, lstS xch_1 ch_1], .int .i64 a2, lstS xan_3 an_3] [v0, v1, .int .i64 a2, v3] w (@more_close (Frz.of w) h_0 xtl_0 tl_0 ch_0 se_0 ty_0 sok_1 ver_1 xch_1 ch_1 a2 xan_3 an_3 (by rw [maxLen_eq] at hy_tl_0; exact hy_tl_0) hyu_tl_0 (by rw [maxLen_eq] at hy_ch_1; exact hy_ch_1) (by rw [maxLen_eq] at hy_an_3; exact hy_an_3)) ?_ hg
 simp only [realL, bytes_str, re0, re1, re3]
 try rfl
end Go.Proofs.YtakfcajmfgnchaaGreatDoor
