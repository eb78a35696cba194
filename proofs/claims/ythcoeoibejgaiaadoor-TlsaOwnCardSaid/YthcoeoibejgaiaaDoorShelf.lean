/- strings.Join by its contract, laid at this program. -/
import Derived.Test.YthcoeoibejgaiaaDoorVmd
import Derived.Shelf.Strings.OnBuilder
import Derived.Test.YthcoeoibejgaiaaDoorProg
namespace Go.Proofs
open Go.Shelf
def Tryd.lays156_ren : Go.Shelf.Ren := ⟨fun | 156 => 30 | 165 => 51 | 166 => 52 | 169 => 53 | 240 => 67 | 241 => 68 | 276 => 77 | 277 => 78 | n => n, fun | 31 => 24 | 9 => 9 | 3 => 3 | 4 => 4 | 0 => 0 | 20 => 20 | 72 => 95 | 76 => 99 | 70 => 93 | 37 => 87 | 75 => 98 | 127 => 117 | 164 => 123 | 5 => 5 | 80 => 101 | n => n, fun | n => n⟩
theorem Tryd.lays156 : Go.Proofs.Lays.n156 Tryd.prog Tryd.lays156_ren := {
 mixed := by kernel_rfl
 f156 := Tryd.func30.trans (congrArg some (by kernel_rfl))
 f165 := Tryd.func51.trans (congrArg some (by kernel_rfl))
 f166 := Tryd.func52.trans (congrArg some (by kernel_rfl))
 f169 := Tryd.func53.trans (congrArg some (by kernel_rfl))
 f240 := Tryd.func67.trans (congrArg some (by kernel_rfl))
 f241 := Tryd.func68.trans (congrArg some (by kernel_rfl))
 f276 := Tryd.func77.trans (congrArg some (by kernel_rfl))
 f277 := Tryd.func78.trans (congrArg some (by kernel_rfl))
 t0 := Tryd.underlying0
 a0 := Tryd.isAgg0
 z0 := Tryd.sizeOf0
 v0 := Tryd.zeroValue0
 t3 := Tryd.underlying3
 a3 := Tryd.isAgg3
 z3 := Tryd.sizeOf3
 v3 := Tryd.zeroValue3
 t4 := Tryd.underlying4
 a4 := Tryd.isAgg4
 z4 := Tryd.sizeOf4
 v4 := Tryd.zeroValue4
 t9 := Tryd.underlying9
 a9 := Tryd.isAgg9
 z9 := Tryd.sizeOf9
 v9 := Tryd.zeroValue9
 t20 := Tryd.underlying20
 a20 := Tryd.isAgg20
 z20 := Tryd.sizeOf20
 v20 := Tryd.zeroValue20
 t31 := Tryd.underlying24
 a31 := Tryd.isAgg24
 z31 := Tryd.sizeOf24
 v31 := Tryd.zeroValue24
 t37 := Tryd.underlying87
 a37 := Tryd.isAgg87
 z37 := Tryd.sizeOf87
 v37 := Tryd.zeroValue87
 t70 := Tryd.underlying93
 a70 := Tryd.isAgg93
 z70 := Tryd.sizeOf93
 v70 := Tryd.zeroValue93
 t72 := Tryd.underlying95
 a72 := Tryd.isAgg95
 z72 := Tryd.sizeOf95
 v72 := Tryd.zeroValue95
 t75 := Tryd.underlying98
 a75 := Tryd.isAgg98
 z75 := Tryd.sizeOf98
 v75 := Tryd.zeroValue98
 t76 := Tryd.underlying99
 a76 := Tryd.isAgg99
 z76 := Tryd.sizeOf99
 v76 := Tryd.zeroValue99
 t127 := Tryd.underlying117
 a127 := Tryd.isAgg117
 z127 := Tryd.sizeOf117
 v127 := Tryd.zeroValue117
 t164 := Tryd.underlying123
 a164 := Tryd.isAgg123
 z164 := Tryd.sizeOf123
 v164 := Tryd.zeroValue123 }
theorem Tryd.Builder_Extra_156 : Builder.Extra Tryd.prog Tryd.lays156_ren := {
 sizeBuilder := by kernel_rfl
 liesBuilder := by kernel_rfl
 t5 := Tryd.underlying5
 a5 := Tryd.isAgg5
 z5 := Tryd.sizeOf5
 v5 := Tryd.zeroValue5
 infoByte := by kernel_rfl
 cellsByte := by kernel_rfl
 sizeByte := by kernel_rfl
 neB5 := by decide }
open Go.RowKit in
open Go.RowKit in
theorem Tryd.strings_Join (bk o c : Nat) (xs : List ByteArray) (sep : ByteArray) (w : World) (hcells : ∀ (j : Nat) x, xs[j]? = some x → w.cell? ⟨bk, o + j, none⟩ = some (.string x)) (hbk : bk < w.heap.size) (hN : xs.length ≤ 140737488355328) (hcap : xs.length ≤ c) (hlen : (Lib.join (xs.map (·.data.toList)) sep.data.toList).length ≤ 140737488355328) :
  Calls Tryd.prog 30 #[.slice (some ⟨bk, o, none⟩) xs.length c, .string sep] w fun e w' => e = .returned (.string ⟨(Lib.join (xs.map (·.data.toList)) sep.data.toList).toArray⟩) ∧ Below w.heap.size w w' := Any.strings_Join Tryd.lays156 Tryd.Builder_Extra_156 bk o c xs sep w hcells hbk hN hcap hlen
end Go.Proofs
namespace Go.Proofs.YthcoeoibejgaiaaDoor
open Go Go.Vm Go.RowKit
theorem joinOk : JoinOk Tryd.prog 30 := fun bk o c xs sep w h1 h2 h3 h4 h5 => Tryd.strings_Join bk o c xs sep w h1 h2 h3 h4 h5
end Go.Proofs.YthcoeoibejgaiaaDoor
