/- CapsNames: what it comes to. -/
import Derived.Test.YtlacmijbjdpbpaaDoorCBase
import Derived.Test.YtlacmijbjdpbpaaDoorCShelf
import Derived.Test.YtlacmijbjdpbpaaDoorVmc
namespace Go.Proofs.YtlacmijbjdpbpaaDoor
open Go Go.Vm Go.RowKit
set_option maxRecDepth 100000
set_option linter.unusedSectionVars false
variable [EA : ErrAt]
noncomputable def TS : Tab := ⟨noT, noL, noLks 9⟩
theorem TS_ok : TabOk3 Tryd.prog TS := ⟨noT_ok, noL_ok, noLks_ok 9⟩
def cakGs (g : Nat) : Bool := !([57].any (Nat.beq g))
def caks0 : List EntF := []
theorem caks0_ok : ∀ e ∈ caks0, EntFOk Tryd.prog e := entf_nil
def cak0 : EntF := ⟨32, [.func (.func 33) [] [], .str [83, 73, 90, 69, 32, 49, 48, 48, 48]], [], .str [83, 73, 90, 69, 32, 49, 48, 48, 48], []⟩
theorem cak0_ok : EntFOk Tryd.prog cak0 := map_known (by kernel_rfl)
def caks1 : List EntF := cak0 :: caks0
theorem caks1_ok : ∀ e ∈ caks1, EntFOk Tryd.prog e := entf_cons cak0_ok caks0_ok
def cak1 : EntF := ⟨67, [.str [49, 48, 48, 48]], [], .tuple [.int .i64 1000, .nilIface], []⟩
theorem cak1_ok : EntFOk Tryd.prog cak1 := entf_ok mixedC (gs := cakGs) caks1_ok (tabL_ok TS_ok) (lim := 3000) (n := 40) (by kernel_rfl)
def caks2 : List EntF := cak1 :: caks1
theorem caks2_ok : ∀ e ∈ caks2, EntFOk Tryd.prog e := entf_cons cak1_ok caks1_ok
def cak2 : EntF := ⟨32, [.func (.func 33) [] [], .str [115, 116, 97, 114, 116, 116, 108, 115]], [], .str [83, 84, 65, 82, 84, 84, 76, 83], []⟩
theorem cak2_ok : EntFOk Tryd.prog cak2 := map_known (by kernel_rfl)
def caks3 : List EntF := cak2 :: caks2
theorem caks3_ok : ∀ e ∈ caks3, EntFOk Tryd.prog e := entf_cons cak2_ok caks2_ok
def cak3 : EntF := ⟨32, [.func (.func 33) [] [], .str [88, 45, 79, 68, 68, 32, 49]], [], .str [88, 45, 79, 68, 68, 32, 49], []⟩
theorem cak3_ok : EntFOk Tryd.prog cak3 := map_known (by kernel_rfl)
def caks4 : List EntF := cak3 :: caks3
theorem caks4_ok : ∀ e ∈ caks4, EntFOk Tryd.prog e := entf_cons cak3_ok caks3_ok
def cak4 : EntF := ⟨32, [.func (.func 33) [] [], .str [83, 84, 65, 82, 84, 84, 76, 83, 32, 110, 111, 119]], [], .str [83, 84, 65, 82, 84, 84, 76, 83, 32, 78, 79, 87], []⟩
theorem cak4_ok : EntFOk Tryd.prog cak4 := map_known (by kernel_rfl)
def caks5 : List EntF := cak4 :: caks4
theorem caks5_ok : ∀ e ∈ caks5, EntFOk Tryd.prog e := entf_cons cak4_ok caks4_ok
def cak5 : EntF := ⟨32, [.func (.func 33) [] [], .str [83, 73, 90, 69, 32, 48, 49]], [], .str [83, 73, 90, 69, 32, 48, 49], []⟩
theorem cak5_ok : EntFOk Tryd.prog cak5 := map_known (by kernel_rfl)
def caks6 : List EntF := cak5 :: caks5
theorem caks6_ok : ∀ e ∈ caks6, EntFOk Tryd.prog e := entf_cons cak5_ok caks5_ok
def cak6 : EntF := ⟨32, [.func (.func 33) [] [], .str [83, 73, 90, 69, 32, 32, 53]], [], .str [83, 73, 90, 69, 32, 32, 53], []⟩
theorem cak6_ok : EntFOk Tryd.prog cak6 := map_known (by kernel_rfl)
def caks7 : List EntF := cak6 :: caks6
theorem caks7_ok : ∀ e ∈ caks7, EntFOk Tryd.prog e := entf_cons cak6_ok caks6_ok
def cak7 : EntF := ⟨32, [.func (.func 33) [] [], .str [83, 84, 65, 82, 84]], [], .str [83, 84, 65, 82, 84], []⟩
theorem cak7_ok : EntFOk Tryd.prog cak7 := map_known (by kernel_rfl)
def caks8 : List EntF := cak7 :: caks7
theorem caks8_ok : ∀ e ∈ caks8, EntFOk Tryd.prog e := entf_cons cak7_ok caks7_ok
def cak8 : EntF := ⟨32, [.func (.func 33) [] [], .str [83, 73, 90, 69]], [], .str [83, 73, 90, 69], []⟩
theorem cak8_ok : EntFOk Tryd.prog cak8 := map_known (by kernel_rfl)
def caks9 : List EntF := cak8 :: caks8
theorem caks9_ok : ∀ e ∈ caks9, EntFOk Tryd.prog e := entf_cons cak8_ok caks8_ok
def cak9 : EntF := ⟨32, [.func (.func 33) [] [], .str [80, 105, 112, 101, 108, 105, 110, 105, 110, 103]], [], .str [80, 73, 80, 69, 76, 73, 78, 73, 78, 71], []⟩
theorem cak9_ok : EntFOk Tryd.prog cak9 := map_known (by kernel_rfl)
def caks10 : List EntF := cak9 :: caks9
theorem caks10_ok : ∀ e ∈ caks10, EntFOk Tryd.prog e := entf_cons cak9_ok caks9_ok
def cak10 : EntF := ⟨32, [.func (.func 33) [] [], .str [114, 101, 113, 117, 105, 114, 101, 84, 76, 83]], [], .str [82, 69, 81, 85, 73, 82, 69, 84, 76, 83], []⟩
theorem cak10_ok : EntFOk Tryd.prog cak10 := map_known (by kernel_rfl)
def caks11 : List EntF := cak10 :: caks10
theorem caks11_ok : ∀ e ∈ caks11, EntFOk Tryd.prog e := entf_cons cak10_ok caks10_ok
def cak11 : EntF := ⟨32, [.func (.func 33) [] [], .str [100, 115, 110]], [], .str [68, 83, 78], []⟩
theorem cak11_ok : EntFOk Tryd.prog cak11 := map_known (by kernel_rfl)
def caks12 : List EntF := cak11 :: caks11
theorem caks12_ok : ∀ e ∈ caks12, EntFOk Tryd.prog e := entf_cons cak11_ok caks11_ok
def cak12 : EntF := ⟨32, [.func (.func 33) [] [], .str [56, 98, 105, 116, 109, 105, 109, 101]], [], .str [56, 66, 73, 84, 77, 73, 77, 69], []⟩
theorem cak12_ok : EntFOk Tryd.prog cak12 := map_known (by kernel_rfl)
def caks13 : List EntF := cak12 :: caks12
theorem caks13_ok : ∀ e ∈ caks13, EntFOk Tryd.prog e := entf_cons cak12_ok caks12_ok
def cak13 : EntF := ⟨32, [.func (.func 33) [] [], .str [115, 105, 122, 101, 32, 55]], [], .str [83, 73, 90, 69, 32, 55], []⟩
theorem cak13_ok : EntFOk Tryd.prog cak13 := map_known (by kernel_rfl)
def caks14 : List EntF := cak13 :: caks13
theorem caks14_ok : ∀ e ∈ caks14, EntFOk Tryd.prog e := entf_cons cak13_ok caks13_ok
def cak14 : EntF := ⟨67, [.str [55]], [], .tuple [.int .i64 7, .nilIface], []⟩
theorem cak14_ok : EntFOk Tryd.prog cak14 := entf_ok mixedC (gs := cakGs) caks14_ok (tabL_ok TS_ok) (lim := 3000) (n := 40) (by kernel_rfl)
def caks15 : List EntF := cak14 :: caks14
theorem caks15_ok : ∀ e ∈ caks15, EntFOk Tryd.prog e := entf_cons cak14_ok caks14_ok
def cak15 : EntF := ⟨32, [.func (.func 33) [] [], .str []], [], .str [], []⟩
theorem cak15_ok : EntFOk Tryd.prog cak15 := map_known (by kernel_rfl)
def caks16 : List EntF := cak15 :: caks15
theorem caks16_ok : ∀ e ∈ caks16, EntFOk Tryd.prog e := entf_cons cak15_ok caks15_ok
def cak16 : EntF := ⟨32, [.func (.func 33) [] [], .str [32]], [], .str [32], []⟩
theorem cak16_ok : EntFOk Tryd.prog cak16 := map_known (by kernel_rfl)
def caks17 : List EntF := cak16 :: caks16
theorem caks17_ok : ∀ e ∈ caks17, EntFOk Tryd.prog e := entf_cons cak16_ok caks16_ok
def cak17 : EntF := ⟨32, [.func (.func 33) [] [], .str [83, 84, 65, 82, 84, 84, 76, 83, 32]], [], .str [83, 84, 65, 82, 84, 84, 76, 83, 32], []⟩
theorem cak17_ok : EntFOk Tryd.prog cak17 := map_known (by kernel_rfl)
def caks18 : List EntF := cak17 :: caks17
theorem caks18_ok : ∀ e ∈ caks18, EntFOk Tryd.prog e := entf_cons cak17_ok caks17_ok
def cak18 : EntF := ⟨32, [.func (.func 33) [] [], .str [32, 83, 84, 65, 82, 84, 84, 76, 83]], [], .str [32, 83, 84, 65, 82, 84, 84, 76, 83], []⟩
theorem cak18_ok : EntFOk Tryd.prog cak18 := map_known (by kernel_rfl)
def caks19 : List EntF := cak18 :: caks18
theorem caks19_ok : ∀ e ∈ caks19, EntFOk Tryd.prog e := entf_cons cak18_ok caks18_ok
def cak19 : EntF := ⟨32, [.func (.func 33) [] [], .str [83, 84, 65, 82, 84, 84, 76, 83, 88]], [], .str [83, 84, 65, 82, 84, 84, 76, 83, 88], []⟩
theorem cak19_ok : EntFOk Tryd.prog cak19 := map_known (by kernel_rfl)
def caks20 : List EntF := cak19 :: caks19
theorem caks20_ok : ∀ e ∈ caks20, EntFOk Tryd.prog e := entf_cons cak19_ok caks19_ok
def cak20 : EntF := ⟨32, [.func (.func 33) [] [], .str [83, 73, 90, 69, 32]], [], .str [83, 73, 90, 69, 32], []⟩
theorem cak20_ok : EntFOk Tryd.prog cak20 := map_known (by kernel_rfl)
def caks21 : List EntF := cak20 :: caks20
theorem caks21_ok : ∀ e ∈ caks21, EntFOk Tryd.prog e := entf_cons cak20_ok caks20_ok
def cak21 : EntF := ⟨32, [.func (.func 33) [] [], .str [83, 73, 90, 69, 32, 120]], [], .str [83, 73, 90, 69, 32, 88], []⟩
theorem cak21_ok : EntFOk Tryd.prog cak21 := map_known (by kernel_rfl)
def caks22 : List EntF := cak21 :: caks21
theorem caks22_ok : ∀ e ∈ caks22, EntFOk Tryd.prog e := entf_cons cak21_ok caks21_ok
def cak22 : EntF := ⟨32, [.func (.func 33) [] [], .str [83, 73, 90, 69, 32, 45, 49]], [], .str [83, 73, 90, 69, 32, 45, 49], []⟩
theorem cak22_ok : EntFOk Tryd.prog cak22 := map_known (by kernel_rfl)
def caks23 : List EntF := cak22 :: caks22
theorem caks23_ok : ∀ e ∈ caks23, EntFOk Tryd.prog e := entf_cons cak22_ok caks22_ok
def cak23 : EntF := ⟨32, [.func (.func 33) [] [], .str [83, 73, 90, 69, 32, 49, 32, 50]], [], .str [83, 73, 90, 69, 32, 49, 32, 50], []⟩
theorem cak23_ok : EntFOk Tryd.prog cak23 := map_known (by kernel_rfl)
def caks24 : List EntF := cak23 :: caks23
theorem caks24_ok : ∀ e ∈ caks24, EntFOk Tryd.prog e := entf_cons cak23_ok caks23_ok
def cak24 : EntF := ⟨32, [.func (.func 33) [] [], .str [80, 73, 80, 69, 76, 73, 78, 73, 78, 71, 32, 49]], [], .str [80, 73, 80, 69, 76, 73, 78, 73, 78, 71, 32, 49], []⟩
theorem cak24_ok : EntFOk Tryd.prog cak24 := map_known (by kernel_rfl)
def caks25 : List EntF := cak24 :: caks24
theorem caks25_ok : ∀ e ∈ caks25, EntFOk Tryd.prog e := entf_cons cak24_ok caks24_ok
def cak25 : EntF := ⟨32, [.func (.func 33) [] [], .str [68, 83, 78, 9]], [], .str [68, 83, 78, 9], []⟩
theorem cak25_ok : EntFOk Tryd.prog cak25 := map_known (by kernel_rfl)
def caks26 : List EntF := cak25 :: caks25
theorem caks26_ok : ∀ e ∈ caks26, EntFOk Tryd.prog e := entf_cons cak25_ok caks25_ok
def cak26 : EntF := ⟨32, [.func (.func 33) [] [], .str [56, 66, 73, 84, 77, 73, 77, 69, 61, 49]], [], .str [56, 66, 73, 84, 77, 73, 77, 69, 61, 49], []⟩
theorem cak26_ok : EntFOk Tryd.prog cak26 := map_known (by kernel_rfl)
def caks27 : List EntF := cak26 :: caks26
theorem caks27_ok : ∀ e ∈ caks27, EntFOk Tryd.prog e := entf_cons cak26_ok caks26_ok
def cak27 : EntF := ⟨32, [.func (.func 33) [] [], .str [255]], [], .str [239, 191, 189], []⟩
theorem cak27_ok : EntFOk Tryd.prog cak27 := map_known (by kernel_rfl)
def caks28 : List EntF := cak27 :: caks27
theorem caks28_ok : ∀ e ∈ caks28, EntFOk Tryd.prog e := entf_cons cak27_ok caks27_ok
def cak28 : EntF := ⟨32, [.func (.func 33) [] [], .str [83, 73, 90, 69, 32, 48]], [], .str [83, 73, 90, 69, 32, 48], []⟩
theorem cak28_ok : EntFOk Tryd.prog cak28 := map_known (by kernel_rfl)
def caks29 : List EntF := cak28 :: caks28
theorem caks29_ok : ∀ e ∈ caks29, EntFOk Tryd.prog e := entf_cons cak28_ok caks28_ok
def cak29 : EntF := ⟨67, [.str [48]], [], .tuple [.int .i64 0, .nilIface], []⟩
theorem cak29_ok : EntFOk Tryd.prog cak29 := entf_ok mixedC (gs := cakGs) caks29_ok (tabL_ok TS_ok) (lim := 3000) (n := 40) (by kernel_rfl)
def caks30 : List EntF := cak29 :: caks29
theorem caks30_ok : ∀ e ∈ caks30, EntFOk Tryd.prog e := entf_cons cak29_ok caks29_ok
def cak30 : EntF := ⟨32, [.func (.func 33) [] [], .str [83, 73, 90, 69, 32, 53]], [], .str [83, 73, 90, 69, 32, 53], []⟩
theorem cak30_ok : EntFOk Tryd.prog cak30 := map_known (by kernel_rfl)
def caks31 : List EntF := cak30 :: caks30
theorem caks31_ok : ∀ e ∈ caks31, EntFOk Tryd.prog e := entf_cons cak30_ok caks30_ok
def cak31 : EntF := ⟨67, [.str [53]], [], .tuple [.int .i64 5, .nilIface], []⟩
theorem cak31_ok : EntFOk Tryd.prog cak31 := entf_ok mixedC (gs := cakGs) caks31_ok (tabL_ok TS_ok) (lim := 3000) (n := 40) (by kernel_rfl)
def caks32 : List EntF := cak31 :: caks31
theorem caks32_ok : ∀ e ∈ caks32, EntFOk Tryd.prog e := entf_cons cak31_ok caks31_ok
def cak32 : EntF := ⟨32, [.func (.func 33) [] [], .str [83, 73, 90, 69, 32, 54]], [], .str [83, 73, 90, 69, 32, 54], []⟩
theorem cak32_ok : EntFOk Tryd.prog cak32 := map_known (by kernel_rfl)
def caks33 : List EntF := cak32 :: caks32
theorem caks33_ok : ∀ e ∈ caks33, EntFOk Tryd.prog e := entf_cons cak32_ok caks32_ok
def cak33 : EntF := ⟨67, [.str [54]], [], .tuple [.int .i64 6, .nilIface], []⟩
theorem cak33_ok : EntFOk Tryd.prog cak33 := entf_ok mixedC (gs := cakGs) caks33_ok (tabL_ok TS_ok) (lim := 3000) (n := 40) (by kernel_rfl)
def caks34 : List EntF := cak33 :: caks33
theorem caks34_ok : ∀ e ∈ caks34, EntFOk Tryd.prog e := entf_cons cak33_ok caks33_ok
def cak34 : EntF := ⟨32, [.func (.func 33) [] [], .str [83, 73, 90, 69, 32, 49, 48, 57, 57, 53, 49, 49, 54, 50, 55, 55, 55, 54]], [], .str [83, 73, 90, 69, 32, 49, 48, 57, 57, 53, 49, 49, 54, 50, 55, 55, 55, 54], []⟩
theorem cak34_ok : EntFOk Tryd.prog cak34 := map_known (by kernel_rfl)
def caks35 : List EntF := cak34 :: caks34
theorem caks35_ok : ∀ e ∈ caks35, EntFOk Tryd.prog e := entf_cons cak34_ok caks34_ok
def cak35 : EntF := ⟨67, [.str [49, 48, 57, 57, 53, 49, 49, 54, 50, 55, 55, 55, 54]], [], .tuple [.int .i64 1099511627776, .nilIface], []⟩
theorem cak35_ok : EntFOk Tryd.prog cak35 := entf_ok mixedC (gs := cakGs) caks35_ok (tabL_ok TS_ok) (lim := 3000) (n := 40) (by kernel_rfl)
def caks36 : List EntF := cak35 :: caks35
theorem caks36_ok : ∀ e ∈ caks36, EntFOk Tryd.prog e := entf_cons cak35_ok caks35_ok
def cak36 : EntF := ⟨32, [.func (.func 33) [] [], .str [83, 73, 90, 69, 32, 49, 48, 57, 57, 53, 49, 49, 54, 50, 55, 55, 55, 55]], [], .str [83, 73, 90, 69, 32, 49, 48, 57, 57, 53, 49, 49, 54, 50, 55, 55, 55, 55], []⟩
theorem cak36_ok : EntFOk Tryd.prog cak36 := map_known (by kernel_rfl)
def caks37 : List EntF := cak36 :: caks36
theorem caks37_ok : ∀ e ∈ caks37, EntFOk Tryd.prog e := entf_cons cak36_ok caks36_ok
def cak37 : EntF := ⟨67, [.str [49, 48, 57, 57, 53, 49, 49, 54, 50, 55, 55, 55, 55]], [], .tuple [.int .i64 1099511627777, .nilIface], []⟩
theorem cak37_ok : EntFOk Tryd.prog cak37 := entf_ok mixedC (gs := cakGs) caks37_ok (tabL_ok TS_ok) (lim := 3000) (n := 40) (by kernel_rfl)
def caks38 : List EntF := cak37 :: caks37
theorem caks38_ok : ∀ e ∈ caks38, EntFOk Tryd.prog e := entf_cons cak37_ok caks37_ok
def cak38 : EntF := ⟨32, [.func (.func 33) [] [], .str [83, 73, 90, 69, 32, 57, 57, 57, 57, 57, 57, 57, 57, 57, 57, 57, 57, 57, 57, 57, 57, 57, 57, 57, 57, 57, 57, 57]], [], .str [83, 73, 90, 69, 32, 57, 57, 57, 57, 57, 57, 57, 57, 57, 57, 57, 57, 57, 57, 57, 57, 57, 57, 57, 57, 57, 57, 57], []⟩
theorem cak38_ok : EntFOk Tryd.prog cak38 := map_known (by kernel_rfl)
def caks39 : List EntF := cak38 :: caks38
theorem caks39_ok : ∀ e ∈ caks39, EntFOk Tryd.prog e := entf_cons cak38_ok caks38_ok
def cak39 : EntF := ⟨67, [.str [57, 57, 57, 57, 57, 57, 57, 57, 57, 57, 57, 57, 57, 57, 57, 57, 57, 57, 57, 57, 57, 57, 57]], [], .tuple [.int .i64 9223372036854775807, .iface 162 (.ptr 0 0)], [.dead]⟩
theorem cak39_ok : EntFOk Tryd.prog cak39 := atoi_known (by kernel_rfl)
def caks40 : List EntF := cak39 :: caks39
theorem caks40_ok : ∀ e ∈ caks40, EntFOk Tryd.prog e := entf_cons cak39_ok caks39_ok
def cakAll : List EntF := caks40
theorem cakAll_ok : ∀ e ∈ cakAll, EntFOk Tryd.prog e := caks40_ok
theorem capsNames_run : isTrue (evalFn Tryd.prog (EF Tryd.prog cakGs cakAll (tabL TS) 3000 40) 3000 4 [] []) = true := by kernel_rfl
theorem capsNames_walk (w : World) (hg : GOk w.heap.size w) : Calls Tryd.prog 4 #[] w (fun e w' => e = .returned (.bool true) ∧ Below w.heap.size w w') :=
  law_of_sat (entf_law mixedC cakAll_ok (tabL_ok TS_ok) capsNames_run) rfl w hg
end Go.Proofs.YtlacmijbjdpbpaaDoor
