/- The laws of this seat: the arguments as they lie there; the walks. -/
import Derived.Test.YthcoeoibejgaiaaGreatDoorTMore
import Derived.Test.YthcoeoibejgaiaaGreatDoorTlU
import Derived.Test.YthcoeoibejgaiaaGreatDoorVmc
import Derived.Test.YthcoeoibejgaiaaGreatDoorRows
import Derived.WalkKit
import Derived.ProofKit
import Derived.OpenShut
import Derived.ShutString
namespace Go.Proofs.YthcoeoibejgaiaaGreatDoor
open Go Go.Vm Go.RowKit
open Go.ChangeShapes Go.WideShapes Go.ChangeAt
set_option linter.unusedVariables false
set_option linter.unusedSectionVars false
set_option maxRecDepth 100000
def tlsSh : Sh := .lst tlSh
theorem tlsSh_ok : shOk Tryz.prog 9 tlsSh 22 = true := by kernel_rfl
def IsTls (w : World) (v : Value) : Prop := ∃ xl l, @real gl (Frz.of w) [] (lstT xl l) = some v ∧ l.length ≤ maxLen ∧ l.all inU = true
theorem open_Tls {H : Type} {enc : TypeId × Value → H} {W : World} {b0 : Nat} {r : Reach} {v : Value} {d : DataW H} {ps : List MemPlace}
  (hval : Value.okWide Tryz.prog W r b0 22 v) (hd : DataW.Trod enc Tryz.prog W 0 (fun _ => true) true 22 v d ps) : IsTls W v := by
 obtain ⟨sa, sl, sc, rfl⟩ := okWide_slice Tryz.underlying22 hval
 obtain ⟨fuel, hf⟩ := hd
 obtain ⟨dd, h1, h2⟩ := @open_sh gl _ _ _ _ _ _ _ 9 tlsSh 22 fuel _ _ tlsSh_ok hf
 obtain ⟨xl, ds_l, q_l, w_l, y_l⟩ := ofLst h1
 subst q_l
 obtain ⟨l, n_l, m_l, u_l⟩ := tlsDU _ ds_l y_l
 simp only [cellsD, cellsDs, m_l, n_l, List.append_nil, List.singleton_append, List.cons_append, List.nil_append] at h2
 have h3 := @realL_of0 gl (Frz.of W) [] _ _ h2
 refine ⟨xl, l, ?_, by rw [← n_l]; exact w_l, u_l⟩
 simp only [realL] at h3
 split at h3
 ·rename_i q1 q2 q3 q4
  obtain ⟨e1, _⟩ := List.cons.inj (Option.some.inj h3)
  subst e1
  exact q3
 ·cases h3
def tlSh : Sh := .agg [.int .u8, .int .u8, .int .u8, .str]
theorem tlSh_ok : shOk Tryz.prog 9 tlSh 24 = true := by kernel_rfl
def IsTl (w : World) (v : Value) : Prop := ∃ u s m d, @real gl (Frz.of w) [] (.agg [.int .u8 u, .int .u8 s, .int .u8 m, .str d]) = some v ∧ (Lit.int .u8 s).wf = true ∧ (Lit.int .u8 m).wf = true
theorem open_Tl {H : Type} {enc : TypeId × Value → H} {W : World} {b0 : Nat} {r : Reach} {v : Value} {d : DataW H} {ps : List MemPlace}
  (hval : Value.okWide Tryz.prog W r b0 24 v) (hd : DataW.Trod enc Tryz.prog W 0 (fun _ => true) true 24 v d ps) : IsTl W v := by
 obtain ⟨cs, rfl, _⟩ := okWide_struct Tryz.underlying24 hval
 obtain ⟨fuel, hf⟩ := hd
 obtain ⟨dd, h1, h2⟩ := @open_sh gl _ _ _ _ _ _ _ 9 tlSh 24 fuel _ _ tlSh_ok hf
 obtain ⟨l0_0, e0, g0_0⟩ := ofAgg h1
 obtain ⟨d0_0, l0_1, e0_0, a0_0, g0_1⟩ := all2_cons g0_0
 obtain ⟨d0_1, l0_2, e0_1, a0_1, g0_2⟩ := all2_cons g0_1
 obtain ⟨d0_2, l0_3, e0_2, a0_2, g0_3⟩ := all2_cons g0_2
 obtain ⟨d0_3, l0_4, e0_3, a0_3, g0_4⟩ := all2_cons g0_3
 have z0 := all2_nil g0_4
 subst e0 e0_0 e0_1 e0_2 e0_3 z0
 obtain ⟨u, q_u, w_u⟩ := ofInt a0_0
 subst q_u
 obtain ⟨s, q_s, w_s⟩ := ofInt a0_1
 subst q_s
 obtain ⟨m, q_m, w_m⟩ := ofInt a0_2
 subst q_m
 obtain ⟨d, q_d, w_d⟩ := ofStr a0_3
 subst q_d
 simp only [cellsD, cellsDs, List.append_nil, List.singleton_append, List.cons_append, List.nil_append] at h2
 have h3 := @realL_of0 gl (Frz.of W) [] _ _ h2
 refine ⟨u, s, m, d, ?_, w_s, w_m⟩
 have h4 := @Go.Vm.real_agg_mk gl (Frz.of W) [] _ _ h3
 rw [show (Value.agg cs).cells = cs from rfl, Array.toArray_toList] at h4
 exact h4
def strsSh : Sh := .lst .str
theorem strsSh_ok : shOk Tryz.prog 9 strsSh 25 = true := by kernel_rfl
def IsStrs (w : World) (v : Value) : Prop := ∃ xan an, @real gl (Frz.of w) [] (lstS xan an) = some v ∧ an.length ≤ maxLen
theorem open_Strs {H : Type} {enc : TypeId × Value → H} {W : World} {b0 : Nat} {r : Reach} {v : Value} {d : DataW H} {ps : List MemPlace}
  (hval : Value.okWide Tryz.prog W r b0 25 v) (hd : DataW.Trod enc Tryz.prog W 0 (fun _ => true) true 25 v d ps) : IsStrs W v := by
 obtain ⟨sa, sl, sc, rfl⟩ := okWide_slice Tryz.underlying25 hval
 obtain ⟨fuel, hf⟩ := hd
 obtain ⟨dd, h1, h2⟩ := @open_sh gl _ _ _ _ _ _ _ 9 strsSh 25 fuel _ _ strsSh_ok hf
 obtain ⟨xan, ds_an, q_an, w_an, y_an⟩ := ofLst h1
 subst q_an
 obtain ⟨an, c_an, m_an⟩ := strsD _ ds_an y_an
 have n_an : ds_an.length = an.length := by rw [c_an, List.length_map]
 simp only [cellsD, cellsDs, m_an, n_an, List.append_nil, List.singleton_append, List.cons_append, List.nil_append] at h2
 have h3 := @realL_of0 gl (Frz.of W) [] _ _ h2
 refine ⟨xan, an, ?_, by rw [← n_an]; exact w_an⟩
 simp only [realL] at h3
 split at h3
 ·rename_i q1 q2 q3 q4
  obtain ⟨e1, _⟩ := List.cons.inj (Option.some.inj h3)
  subst e1
  exact q3
 ·cases h3
theorem maxLen_eq : maxLen = 9223372036854775807 := by decide
theorem bytes_str {w : World} (s : ByteArray) : @real gl (Frz.of w) [] (.str s.data.toList) = some (.string s) := by simp [real]
theorem tlsaMore_walk (v0 : Value) (v1 : Value) (v2 : Value) (a3 : ByteArray) (a4 : Int) (w : World) (x0 : IsTls w v0) (x1 : IsTl w v1) (x2 : IsStrs w v2) (w3 : a3.size ≤ maxLen) (w4 : (Lit.int .i64 a4).wf = true) (hg : @GOk gl (Frz.of w) w.heap.size w) :
  Calls Tryz.prog 4 #[v0, v1, v2, .string a3, .int .i64 a4] w (fun e w' => e = .returned (.bool true) ∧ Below w.heap.size w w') := by
 obtain ⟨xl_0, l_0, re0, hy_l_0, hyu_l_0⟩ := x0
 obtain ⟨u_1, s_1, m_1, d_1, re1, hy_s_1, hy_m_1⟩ := x1
 obtain ⟨xan_2, an_2, re2, hy_an_2⟩ := x2
 refine @frz_law gl Tryz.prog 4 [lstT xl_0 l_0, .agg [.int .u8 u_1, .int .u8 s_1, .int .u8 m_1, .str d_1], lstS xan_2 an_2, .str a3.data.toList, .int .i64 a4] [v0, v1, v2, .string a3, .int .i64 a4] w (@more_close (Frz.of w) xl_0 l_0 u_1 s_1 m_1 d_1 xan_2 an_2 a3.data.toList a4 (by rw [maxLen_eq] at hy_l_0; exact hy_l_0) hyu_l_0 hy_s_1 hy_m_1 (by rw [maxLen_eq] at hy_an_2; exact hy_an_2)) ?_ hg
 simp only [realL, bytes_str, re0, re1, re2]
 try rfl
end Go.Proofs.YthcoeoibejgaiaaGreatDoor
