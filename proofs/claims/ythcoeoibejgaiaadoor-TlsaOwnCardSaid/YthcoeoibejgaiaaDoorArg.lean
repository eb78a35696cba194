/- The laws of this seat: the arguments as they lie there; the walks. -/
import Derived.Test.YthcoeoibejgaiaaDoorTOwn
import Derived.Test.YthcoeoibejgaiaaDoorVmc
import Derived.Test.YthcoeoibejgaiaaDoorRows
import Derived.WalkKit
import Derived.ProofKit
import Derived.OpenShut
import Derived.ShutString
import Derived.SizedLaws
namespace Go.Proofs.YthcoeoibejgaiaaDoor
open Go Go.Vm Go.RowKit
open Go.ChangeShapes Go.WideShapes Go.ChangeAt
set_option linter.unusedVariables false
set_option linter.unusedSectionVars false
set_option maxRecDepth 100000
def tlSh : Sh := .agg [.int .u8, .int .u8, .int .u8, .str]
theorem tlSh_ok : shOk Tryd.prog 9 tlSh 23 = true := by kernel_rfl
def IsTl (w : World) (v : Value) : Prop := ∃ u s m d, @real gl (Frz.of w) [] (.agg [.int .u8 u, .int .u8 s, .int .u8 m, .str d]) = some v ∧ (Lit.int .u8 s).wf = true ∧ (Lit.int .u8 m).wf = true
theorem open_Tl {H : Type} {enc : TypeId × Value → H} {W : World} {b0 : Nat} {r : Reach} {v : Value} {d : DataW H} {ps : List MemPlace}
  (hval : Value.okWide Tryd.prog W r b0 23 v) (hd : DataW.Trod enc Tryd.prog W 0 (fun _ => true) true 23 v d ps) : IsTl W v := by
 obtain ⟨cs, rfl, _⟩ := okWide_struct Tryd.underlying23 hval
 obtain ⟨fuel, hf⟩ := hd
 obtain ⟨dd, h1, h2⟩ := @open_sh gl _ _ _ _ _ _ _ 9 tlSh 23 fuel _ _ tlSh_ok hf
 obtain ⟨l0_0, e0, g0_0⟩ := ofAgg h1
 obtain ⟨d0_0, l0_1, e0_0, a0_0, g0_1⟩ := all2_cons g0_0
 obtain ⟨d0_1, l0_2, e0_1, a0_1, g0_2⟩ := all2_cons g0_1
 obtain ⟨d0_2, l0_3, e0_2, a0_2, g0_3⟩ := all2_cons g0_2
 obtain ⟨d0_3, l0_4, e0_3, a0_3, g0_4⟩ := all2_cons g0_3
 have z0 := all2_nil g0_4
 subst e0 e0_0 e0_1 e0_2 e0_3 z0
 obtain ⟨u, q_u, w_u⟩ := ofInt a0_0
 subst q_u
 obtain ⟨s, q_s, w_s⟩ := ofInt a0_1
 subst q_s
 obtain ⟨m, q_m, w_m⟩ := ofInt a0_2
 subst q_m
 obtain ⟨d, q_d, w_d⟩ := ofStr a0_3
 subst q_d
 simp only [cellsD, cellsDs, List.append_nil, List.singleton_append, List.cons_append, List.nil_append] at h2
 have h3 := @realL_of0 gl (Frz.of W) [] _ _ h2
 refine ⟨u, s, m, d, ?_, w_s, w_m⟩
 have h4 := @Go.Vm.real_agg_mk gl (Frz.of W) [] _ _ h3
 rw [show (Value.agg cs).cells = cs from rfl, Array.toArray_toList] at h4
 exact h4
def strsSh : Sh := .lst .str
theorem strsSh_ok : shOk Tryd.prog 9 strsSh 24 = true := by kernel_rfl
def IsStrs (w : World) (v : Value) : Prop := ∃ xan an, @real gl (Frz.of w) [] (lstS xan an) = some v ∧ an.length ≤ maxLen
theorem open_Strs {H : Type} {enc : TypeId × Value → H} {W : World} {b0 : Nat} {r : Reach} {v : Value} {d : DataW H} {ps : List MemPlace}
  (hval : Value.okWide Tryd.prog W r b0 24 v) (hd : DataW.Trod enc Tryd.prog W 0 (fun _ => true) true 24 v d ps) : IsStrs W v := by
 obtain ⟨sa, sl, sc, rfl⟩ := okWide_slice Tryd.underlying24 hval
 obtain ⟨fuel, hf⟩ := hd
 obtain ⟨dd, h1, h2⟩ := @open_sh gl _ _ _ _ _ _ _ 9 strsSh 24 fuel _ _ strsSh_ok hf
 obtain ⟨xan, ds_an, q_an, w_an, y_an⟩ := ofLst h1
 subst q_an
 obtain ⟨an, c_an, m_an⟩ := strsD _ ds_an y_an
 have n_an : ds_an.length = an.length := by rw [c_an, List.length_map]
 simp only [cellsD, cellsDs, m_an, n_an, List.append_nil, List.singleton_append, List.cons_append, List.nil_append] at h2
 have h3 := @realL_of0 gl (Frz.of W) [] _ _ h2
 refine ⟨xan, an, ?_, by rw [← n_an]; exact w_an⟩
 simp only [realL] at h3
 split at h3
 ·rename_i q1 q2 q3 q4
  obtain ⟨e1, _⟩ := List.cons.inj (Option.some.inj h3)
  subst e1
  exact q3
 ·cases h3
theorem lst_room {v x : Value} {n k : Nat} {cs : List V} {Ψ : Frz} (h : @real gl Ψ [] (.lst x n cs) = some v) (hz : ∀ a n c, v = .slice a n c → n * k ≤ 140737488351232) : n * k ≤ 140737488351232 := by
 simp only [real] at h
 split at h
 ·rename_i xs hx
  unfold lstV at h
  split at h
  ·rename_i hl
   cases h
   rcases hl with ⟨a, cap, rfl, rfl, rfl⟩ | ⟨b, off, cap, arr, t, fz, rfl, _⟩
   ·exact hz _ _ _ rfl
   ·exact hz _ _ _ rfl
  ·cases h
 ·cases h
theorem sized_len {H : Type} {enc : TypeId × Value → H} {P : Program} {W : World} {ts : List TypeId} {ds : List (DataW H)} {k : Nat} (h : (DataW.weightsEach P ts ds).all (· ≤ reachBytes) = true) {j : Nat} {t e : TypeId} {v : Value} {d : DataW H} {ps : List MemPlace} (ht : ts[j]? = some t) (hd : ds[j]? = some d) (hu : P.underlying t = some (.slice e)) (hk : P.bytesOf e = k) (hT : DataW.Trod enc P W 0 (fun _ => true) true t v d ps) : ∀ a n c, v = .slice a n c → n * k ≤ 140737488351232 := by
 rintro a n c rfl
 have hB : reachBytes = 140737488351232 := by decide
 obtain ⟨fuel, hf⟩ := hT
 rcases DataW.trod_slice hu hf with ⟨hc, hx⟩ | ⟨a', len, cap, elems, rest, m, _, hc, hx, _, _, _, hl, _⟩
 ·cases hc; omega
 ·cases hc
  cases hx
  have := sized_slice h ht hd hu
  rw [List.length_map, List.length_map, hl, hk, hB] at this
  exact Nat.le_trans (Nat.mul_le_mul_right k (Nat.le_add_right _ _)) this
theorem maxLen_eq : maxLen = 9223372036854775807 := by decide
theorem bytes_str {w : World} (s : ByteArray) : @real gl (Frz.of w) [] (.str s.data.toList) = some (.string s) := by simp [real]
theorem tlsaOwn_walk (v0 : Value) (v1 : Value) (v2 : Value) (a3 : ByteArray) (a4 : ByteArray) (a5 : Int) (a6 : Int) (w : World) (x0 : IsTl w v0) (x1 : IsStrs w v1) (x2 : IsStrs w v2) (z2 : ∀ a n c, v2 = .slice a n c → n * 16 ≤ 140737488351232) (w3 : a3.size ≤ maxLen) (w4 : a4.size ≤ maxLen) (w5 : (Lit.int .i64 a5).wf = true) (w6 : (Lit.int .i64 a6).wf = true) (hg : @GOk gl (Frz.of w) w.heap.size w) :
  Calls Tryd.prog 3 #[v0, v1, v2, .string a3, .string a4, .int .i64 a5, .int .i64 a6] w (fun e w' => e = .returned (.bool true) ∧ Below w.heap.size w w') := by
 obtain ⟨u_0, s_0, m_0, d_0, re0, hy_s_0, hy_m_0⟩ := x0
 obtain ⟨xan_1, an_1, re1, hy_an_1⟩ := x1
 obtain ⟨xan_2, an_2, re2, hy_an_2⟩ := x2
 refine @frz_law gl Tryd.prog 3 [.agg [.int .u8 u_0, .int .u8 s_0, .int .u8 m_0, .str d_0], lstS xan_1 an_1, lstS xan_2 an_2, .str a3.data.toList, .str a4.data.toList, .int .i64 a5, .int .i64 a6] [v0, v1, v2, .string a3, .string a4, .int .i64 a5, .int .i64 a6] w (@own_close (Frz.of w) u_0 s_0 m_0 d_0 xan_1 an_1 xan_2 an_2 a3.data.toList a4.data.toList a5 a6 hy_s_0 hy_m_0 (by rw [maxLen_eq] at hy_an_1; exact hy_an_1) (by rw [maxLen_eq] at hy_an_2; exact hy_an_2) (lst_room re2 z2)) ?_ hg
 simp only [realL, bytes_str, re0, re1, re2]
 try rfl
end Go.Proofs.YthcoeoibejgaiaaDoor
