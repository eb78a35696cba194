/- strconv.Itoa by its contract: its form for the machine, and the contract laid at this program. -/
import Derived.Test.YtlgapohnmcmhdaaDoorSum
import Derived.Test.YtlgapohnmcmhdaaDoorVmc
import Derived.Lib.LaidTab
import Derived.Lib.AppendIntMem
import Derived.Shelf.Strconv.Itoa3
import Derived.Test.YtlgapohnmcmhdaaDoorProg
namespace Go.Vm
variable [G : Glob]
set_option linter.unusedSectionVars false
set_option linter.unusedVariables false
open Go.RowKit
/-- A table of numbers of which all cells are known. -/
theorem tabIs_of {P : Program} {w : World} {name : String} {gv : Nat} {k : IntKind} {zs : List Int} (hr : GOk w.heap.size w) (hn : P.globalNamed name = some gv) (hgv : gblk gv = gv ∧ goff gv = 0) (hG : G.cells gv = some (zs.map fun z => V.int k z)) (hf : G.full gv = true) : Lib.TabIs P w name k zs := by
  obtain ⟨_, arr, t, fz, h2, h3, h4⟩ := hr.1 gv _ hG
  have h4 := h4 hf
  rw [hgv.1] at h2
  rw [hgv.2] at h3 h4
  unfold Lib.TabIs World.var?
  simp only [hn, Option.bind_some, h2, Option.some.injEq]
  refine Array.ext (by simp [h4]) fun i h5 h6 => ?_
  have h7 : i < zs.length := by simpa using h6
  obtain ⟨x, hx, ha⟩ := h3 i (.int k zs[i]) (by simp [List.getElem?_map, List.getElem?_eq_getElem h7])
  rw [Nat.zero_add, Array.getElem?_eq_getElem h5, Option.some.injEq] at ha
  simp only [real, Option.some.injEq] at hx
  simp [ha, ← hx]
/-- What strconv.Itoa is said to come to. -/
def ItoaOk (P : Program) (g : FuncId) (name : String) : Prop := ∀ (n : Int) (w : World), -9223372036854775808 ≤ n → n ≤ 9223372036854775807 → Lib.TabIs P w name .u64 Lib.pow10Tab →
  Calls P g #[.int .i64 n] w fun e w' => e = .returned (.string ⟨(Lib.itoa n).toArray⟩) ∧ Below w.heap.size w w'
/-- Is it a whole number of 64 bits? -/
def isI64 (n : Int) : Bool := decide (-9223372036854775808 ≤ n) && decide (n ≤ 9223372036854775807)
def itoaF : List V → Option (List (Bool × (V × St)))
  | [.int .i64 n] => some [(isI64 n, (.str (Lib.itoa n), []))]
  | _ => none
theorem itoa_sat {P : Program} {g : FuncId} {name : String} {gv : Nat} (hi : ItoaOk P g name) (hn : P.globalNamed name = some gv) (hgv : gblk gv = gv ∧ goff gv = 0) (hG : G.cells gv = some (Lib.pow10Tab.map fun z => V.int .u64 z)) (hf : G.full gv = true)
    (args : List V) (l : List (Bool × (V × St))) (o : V × St) (h : itoaF args = some l) (ho : pickO l = some o) : FnSat P g args [] (Is o) := by
  unfold itoaF at h
  split at h
  · rename_i n
    cases h
    cases hk : isI64 n with
    | false => rw [hk] at ho; cases ho
    | true =>
      rw [hk] at ho
      cases ho
      simp only [isI64, Bool.and_eq_true, decide_eq_true_eq] at hk
      intro B W0 m w rargs hargs hr
      obtain ⟨a1, r1, g1, g2, rfl⟩ := realL_cons hargs
      simp only [realL, Option.some.injEq] at g2; subst g2
      simp only [real, Option.some.injEq] at g1; subst g1
      refine (hi n w hk.1 hk.2 (tabIs_of hr.gok hn hgv hG hf)).mono ?_
      rintro e w' ⟨rfl, hb⟩
      exact ⟨.str (Lib.itoa n), _, m, [], rfl, Ext.refl m, rfl, hr.later hb, rfl⟩
  · cases h
end Go.Vm
namespace Go.Proofs
open Go.Shelf
def Tryd.laysM171_ren : Go.Shelf.Ren := ⟨fun | 171 => 31 | 243 => 45 | 246 => 56 | 283 => 66 | 284 => 67 | 285 => 68 | 286 => 69 | 129 => 78 | 317 => 77 | 318 => 79 | 319 => 80 | 320 => 81 | 337 => 84 | 338 => 85 | n => n, fun | 3 => 3 | 9 => 9 | 2 => 2 | 4 => 4 | 171 => 80 | 0 => 0 | 53 => 48 | 37 => 37 | 5 => 5 | 173 => 83 | 212 => 94 | 51 => 49 | 20 => 20 | 213 => 95 | 46 => 38 | 232 => 108 | 233 => 109 | n => n, fun | 17 => 4 | 18 => 7 | 19 => 8 | n => n⟩
theorem Tryd.laysM171 : Go.Proofs.LaysM.n171 Tryd.prog Tryd.laysM171_ren := {
  mixed := by kernel_rfl
  f129 := Tryd.func78.trans (congrArg some (by kernel_rfl))
  f171 := Tryd.func31.trans (congrArg some (by kernel_rfl))
  f243 := Tryd.func45.trans (congrArg some (by kernel_rfl))
  f246 := Tryd.func56.trans (congrArg some (by kernel_rfl))
  f283 := Tryd.func66.trans (congrArg some (by kernel_rfl))
  f284 := Tryd.func67.trans (congrArg some (by kernel_rfl))
  f285 := Tryd.func68.trans (congrArg some (by kernel_rfl))
  f286 := Tryd.func69.trans (congrArg some (by kernel_rfl))
  f317 := Tryd.func77.trans (congrArg some (by kernel_rfl))
  f318 := Tryd.func79.trans (congrArg some (by kernel_rfl))
  f319 := Tryd.func80.trans (congrArg some (by kernel_rfl))
  f320 := Tryd.func81.trans (congrArg some (by kernel_rfl))
  f337 := Tryd.func84.trans (congrArg some (by kernel_rfl))
  f338 := Tryd.func85.trans (congrArg some (by kernel_rfl))
  t0 := Tryd.underlying0
  a0 := Tryd.isAgg0
  z0 := Tryd.sizeOf0
  v0 := Tryd.zeroValue0
  t2 := Tryd.underlying2
  a2 := Tryd.isAgg2
  z2 := Tryd.sizeOf2
  v2 := Tryd.zeroValue2
  t3 := Tryd.underlying3
  a3 := Tryd.isAgg3
  z3 := Tryd.sizeOf3
  v3 := Tryd.zeroValue3
  t4 := Tryd.underlying4
  a4 := Tryd.isAgg4
  z4 := Tryd.sizeOf4
  v4 := Tryd.zeroValue4
  t5 := Tryd.underlying5
  a5 := Tryd.isAgg5
  z5 := Tryd.sizeOf5
  v5 := Tryd.zeroValue5
  t9 := Tryd.underlying9
  a9 := Tryd.isAgg9
  z9 := Tryd.sizeOf9
  v9 := Tryd.zeroValue9
  t20 := Tryd.underlying20
  a20 := Tryd.isAgg20
  z20 := Tryd.sizeOf20
  v20 := Tryd.zeroValue20
  t37 := Tryd.underlying37
  a37 := Tryd.isAgg37
  z37 := Tryd.sizeOf37
  v37 := Tryd.zeroValue37
  t46 := Tryd.underlying38
  a46 := Tryd.isAgg38
  z46 := Tryd.sizeOf38
  v46 := Tryd.zeroValue38
  t51 := Tryd.underlying49
  a51 := Tryd.isAgg49
  z51 := Tryd.sizeOf49
  v51 := Tryd.zeroValue49
  t53 := Tryd.underlying48
  a53 := Tryd.isAgg48
  z53 := Tryd.sizeOf48
  v53 := Tryd.zeroValue48
  t171 := Tryd.underlying80
  a171 := Tryd.isAgg80
  z171 := Tryd.sizeOf80
  v171 := Tryd.zeroValue80
  t173 := Tryd.underlying83
  a173 := Tryd.isAgg83
  z173 := Tryd.sizeOf83
  v173 := Tryd.zeroValue83
  t212 := Tryd.underlying94
  a212 := Tryd.isAgg94
  z212 := Tryd.sizeOf94
  v212 := Tryd.zeroValue94
  t213 := Tryd.underlying95
  a213 := Tryd.isAgg95
  z213 := Tryd.sizeOf95
  t232 := Tryd.underlying108
  a232 := Tryd.isAgg108
  z232 := Tryd.sizeOf108
  v232 := Tryd.zeroValue108
  t233 := Tryd.underlying109
  a233 := Tryd.isAgg109
  z233 := Tryd.sizeOf109
  v233 := Tryd.zeroValue109
  g17 := by kernel_rfl
  g18 := by kernel_rfl
  g19 := by kernel_rfl
  i0 := by kernel_rfl
  i2 := by kernel_rfl
  i3 := by kernel_rfl
  i4 := by kernel_rfl
  i5 := by kernel_rfl
  i9 := by kernel_rfl
  i20 := by kernel_rfl
  i37 := by kernel_rfl
  i46 := by kernel_rfl
  i51 := by kernel_rfl
  i53 := by kernel_rfl
  i171 := by kernel_rfl
  i173 := by kernel_rfl
  i212 := by kernel_rfl
  i232 := by kernel_rfl
  i233 := by kernel_rfl
  m17 := by kernel_rfl
  m18 := by kernel_rfl
  m19 := by kernel_rfl }
open Go.RowKit Go.Sort Go.Lib in
/-- strconv.Itoa: "Itoa is equivalent to FormatInt(int64(i), 10).": i's DECIMAL NUMERAL ('Lib.itoa': a '-' where i is negative, then the digits), FOR EVERY int. The world behind the call: the world before it, new blocks behind the heap (the library's 'var a [24]byte'), draws. (LAID: no walk: one application.) -/
theorem Tryd.strconv_Itoa (n : Int) (h0 : -9223372036854775808 ≤ n) (h1 : n ≤ 9223372036854775807) (w : World) (htab : Lib.TabIs Tryd.prog w "internal/strconv.uint64pow10" .u64 Lib.pow10Tab) :
    Calls Tryd.prog 31 #[.int .i64 n] w fun e w' => e = .returned (.string ⟨(Lib.itoa n).toArray⟩) ∧ ∃ k os, w' = grow (w.drewN k) os := Any.strconv_Itoa Tryd.laysM171 n h0 h1 w htab
end Go.Proofs
namespace Go.Proofs.YtlgapohnmcmhdaaDoor
open Go Go.Vm Go.RowKit
theorem itoaOk : ItoaOk Tryd.prog 31 "internal/strconv.uint64pow10" := fun n w h0 h1 ht => (Tryd.strconv_Itoa n h0 h1 w ht).mono fun e w' ⟨q, k, os, q2⟩ => ⟨q, by rw [q2]; exact Lib.below_grow _ w (Nat.le_refl _) k os⟩
theorem itoa_ok (args : List V) (l : List (Bool × (V × St))) (o : V × St) (h : itoaF args = some l) (ho : pickO l = some o) : FnSat Tryd.prog 31 args [] (Is o) :=
  itoa_sat (gv := 4) itoaOk (by kernel_rfl) ⟨rfl, rfl⟩ rfl rfl args l o h ho
end Go.Proofs.YtlgapohnmcmhdaaDoor
