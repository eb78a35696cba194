/- CodeNames: what it comes to. -/
import Derived.Test.YtcgmgbiddjacmaaDoorSum2
import Derived.Test.YtcgmgbiddjacmaaDoorShelf
import Derived.Test.YtcgmgbiddjacmaaDoorVmc
namespace Go.Proofs.YtcgmgbiddjacmaaDoor
open Go Go.Vm Go.RowKit
set_option maxRecDepth 100000
set_option linter.unusedSectionVars false
variable [EA : ErrAt]
noncomputable def TS : Tab := ⟨addT (addP noT 22 rotF) 12 mixF, addM noL 13 blkG, noLks 9⟩
theorem TS_ok : TabOk3 Tryd.prog TS := ⟨addT_ok (addP_ok noT_ok rot_ok) mix_ok, addM_ok noL_ok blk_ok, noLks_ok 9⟩
def cokGs (g : Nat) : Bool := !([21,24,16,11,8,4,37,26,7,55].any (Nat.beq g))
def coks0 : List EntF := []
theorem coks0_ok : ∀ e ∈ coks0, EntFOk Tryd.prog e := entf_nil
def cok0 : EntF := ⟨19, [.str [49, 48]], [], .tuple [.int .i64 10, .nilIface], []⟩
theorem cok0_ok : EntFOk Tryd.prog cok0 := entf_ok mixed (gs := cokGs) coks0_ok (tabL_ok TS_ok) (lim := 3000) (n := 40) (by kernel_rfl)
def coks1 : List EntF := cok0 :: coks0
theorem coks1_ok : ∀ e ∈ coks1, EntFOk Tryd.prog e := entf_cons cok0_ok coks0_ok
def cok1 : EntF := ⟨6, [.str [97, 98, 99]], [], .str [186, 120, 22, 191, 143, 1, 207, 234, 65, 65, 64, 222, 93, 174, 34, 35, 176, 3, 97, 163, 150, 23, 122, 156, 180, 16, 255, 97, 242, 0, 21, 173], []⟩
theorem cok1_ok : EntFOk Tryd.prog cok1 := entf_ok mixed (gs := cokGs) coks1_ok (tabL_ok TS_ok) (lim := 3000) (n := 40) (by kernel_rfl)
def coks2 : List EntF := cok1 :: coks1
theorem coks2_ok : ∀ e ∈ coks2, EntFOk Tryd.prog e := entf_cons cok1_ok coks1_ok
def cok2 : EntF := ⟨6, [.str []], [], .str [227, 176, 196, 66, 152, 252, 28, 20, 154, 251, 244, 200, 153, 111, 185, 36, 39, 174, 65, 228, 100, 155, 147, 76, 164, 149, 153, 27, 120, 82, 184, 85], []⟩
theorem cok2_ok : EntFOk Tryd.prog cok2 := entf_ok mixed (gs := cokGs) coks2_ok (tabL_ok TS_ok) (lim := 3000) (n := 40) (by kernel_rfl)
def coks3 : List EntF := cok2 :: coks2
theorem coks3_ok : ∀ e ∈ coks3, EntFOk Tryd.prog e := entf_cons cok2_ok coks2_ok
def cok3 : EntF := ⟨6, [.str [97, 98, 99, 100, 98, 99, 100, 101, 99, 100, 101, 102, 100, 101, 102, 103, 101, 102, 103, 104, 102, 103, 104, 105, 103, 104, 105, 106, 104, 105, 106, 107, 105, 106, 107, 108, 106, 107, 108, 109, 107, 108, 109, 110, 108, 109, 110, 111, 109, 110, 111, 112, 110, 111, 112, 113]], [], .str [36, 141, 106, 97, 210, 6, 56, 184, 229, 192, 38, 147, 12, 62, 96, 57, 163, 60, 228, 89, 100, 255, 33, 103, 246, 236, 237, 212, 25, 219, 6, 193], []⟩
theorem cok3_ok : EntFOk Tryd.prog cok3 := entf_ok mixed (gs := cokGs) coks3_ok (tabL_ok TS_ok) (lim := 3000) (n := 40) (by kernel_rfl)
def coks4 : List EntF := cok3 :: coks3
theorem coks4_ok : ∀ e ∈ coks4, EntFOk Tryd.prog e := entf_cons cok3_ok coks3_ok
def cok4 : EntF := ⟨19, [.str [57, 50, 50, 51, 51, 55, 50, 48, 51, 54, 56, 53, 52, 55, 55, 53, 56, 48, 55]], [], .tuple [.int .i64 9223372036854775807, .nilIface], []⟩
theorem cok4_ok : EntFOk Tryd.prog cok4 := entf_ok mixed (gs := cokGs) coks4_ok (tabL_ok TS_ok) (lim := 3000) (n := 40) (by kernel_rfl)
def coks5 : List EntF := cok4 :: coks4
theorem coks5_ok : ∀ e ∈ coks5, EntFOk Tryd.prog e := entf_cons cok4_ok coks4_ok
def cok5 : EntF := ⟨19, [.str [57, 50, 50, 51, 51, 55, 50, 48, 51, 54, 56, 53, 52, 55, 55, 53, 56, 48, 56]], [], .tuple [.int .i64 9223372036854775807, .iface 64 (.ptr 0 0)], [.dead]⟩
theorem cok5_ok : EntFOk Tryd.prog cok5 := atoi_known (by kernel_rfl)
def coks6 : List EntF := cok5 :: coks5
theorem coks6_ok : ∀ e ∈ coks6, EntFOk Tryd.prog e := entf_cons cok5_ok coks5_ok
def cok6 : EntF := ⟨19, [.str [57, 57, 57, 57, 57, 57, 57, 57, 57, 57, 57, 57, 57, 57, 57, 57, 57, 57, 57, 57, 57, 57, 57]], [], .tuple [.int .i64 9223372036854775807, .iface 64 (.ptr 0 0)], [.dead]⟩
theorem cok6_ok : EntFOk Tryd.prog cok6 := atoi_known (by kernel_rfl)
def coks7 : List EntF := cok6 :: coks6
theorem coks7_ok : ∀ e ∈ coks7, EntFOk Tryd.prog e := entf_cons cok6_ok coks6_ok
def cok7 : EntF := ⟨19, [.str [48]], [], .tuple [.int .i64 0, .nilIface], []⟩
theorem cok7_ok : EntFOk Tryd.prog cok7 := entf_ok mixed (gs := cokGs) coks7_ok (tabL_ok TS_ok) (lim := 3000) (n := 40) (by kernel_rfl)
def coks8 : List EntF := cok7 :: coks7
theorem coks8_ok : ∀ e ∈ coks8, EntFOk Tryd.prog e := entf_cons cok7_ok coks7_ok
def cok8 : EntF := ⟨19, [.str [49]], [], .tuple [.int .i64 1, .nilIface], []⟩
theorem cok8_ok : EntFOk Tryd.prog cok8 := entf_ok mixed (gs := cokGs) coks8_ok (tabL_ok TS_ok) (lim := 3000) (n := 40) (by kernel_rfl)
def coks9 : List EntF := cok8 :: coks8
theorem coks9_ok : ∀ e ∈ coks9, EntFOk Tryd.prog e := entf_cons cok8_ok coks8_ok
def cokAll : List EntF := coks9
theorem cokAll_ok : ∀ e ∈ cokAll, EntFOk Tryd.prog e := coks9_ok
theorem codeNames_run : isTrue (evalFn Tryd.prog (EF Tryd.prog cokGs cokAll (tabL TS) 3000 40) 3000 3 [] []) = true := by kernel_rfl
theorem codeNames_walk (w : World) (hg : GOk w.heap.size w) : Calls Tryd.prog 3 #[] w (fun e w' => e = .returned (.bool true) ∧ Below w.heap.size w w') :=
  law_of_sat (entf_law mixed cokAll_ok (tabL_ok TS_ok) codeNames_run) rfl w hg
end Go.Proofs.YtcgmgbiddjacmaaDoor
