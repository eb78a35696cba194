/- NeedNames: what it comes to. -/
import Derived.Test.YtojpkjahoahedaaGreatDoorSum2
import Derived.Test.YtojpkjahoahedaaGreatDoorVmc
namespace Go.Proofs.YtojpkjahoahedaaGreatDoor
open Go Go.Vm Go.RowKit
set_option maxRecDepth 100000
noncomputable def TS : Tab := ⟨addT (addP noT 60 rotF) 40 mixF, addM noL 41 blkG, noLks 9⟩
theorem TS_ok : TabOk3 Tryz.prog TS := ⟨addT_ok (addP_ok noT_ok rot_ok) mix_ok, addM_ok noL_ok blk_ok, noLks_ok 9⟩
def nekGs (g : Nat) : Bool := !([88,86,35,21,8,96].any (Nat.beq g))
def neks0 : List EntF := []
theorem neks0_ok : ∀ e ∈ neks0, EntFOk Tryz.prog e := entf_nil
def nek0 : EntF := ⟨28, [.str [48, 6, 4, 4, 114, 111, 111, 116]], [], .str [246, 224, 93, 86, 208, 156, 75, 39, 186, 121, 83, 86, 177, 57, 62, 226, 94, 144, 55, 93, 247, 231, 182, 134, 64, 240, 199, 54, 143, 189, 142, 104], []⟩
theorem nek0_ok : EntFOk Tryz.prog nek0 := entf_ok mixed (gs := nekGs) neks0_ok (tabL_ok TS_ok) (lim := 3000) (n := 40) (by kernel_rfl)
def neks1 : List EntF := nek0 :: neks0
theorem neks1_ok : ∀ e ∈ neks1, EntFOk Tryz.prog e := entf_cons nek0_ok neks0_ok
def nek1 : EntF := ⟨18, [.agg [.str [107], .str [246, 224, 93, 86, 208, 156, 75, 39, 186, 121, 83, 86, 177, 57, 62, 226, 94, 144, 55, 93, 247, 231, 182, 134, 64, 240, 199, 54, 143, 189, 142, 104], .slice 0 0 1 false 0 0, .int .i64 10, .int .i64 20, .bool false]], [.ro false [.str [109, 120, 46, 97]]], .tuple [.str [48, 56, 48, 3, 4, 1, 107, 4, 32, 246, 224, 93, 86, 208, 156, 75, 39, 186, 121, 83, 86, 177, 57, 62, 226, 94, 144, 55, 93, 247, 231, 182, 134, 64, 240, 199, 54, 143, 189, 142, 104, 48, 6, 130, 4, 109, 120, 46, 97, 2, 1, 10, 2, 1, 20, 1, 1, 0], .int .i64 0], []⟩
theorem nek1_ok : EntFOk Tryz.prog nek1 := entf_ok mixed (gs := nekGs) neks1_ok (tabL_ok TS_ok) (lim := 3000) (n := 40) (by kernel_rfl)
def neks2 : List EntF := nek1 :: neks1
theorem neks2_ok : ∀ e ∈ neks2, EntFOk Tryz.prog e := entf_cons nek1_ok neks1_ok
def nek2 : EntF := ⟨30, [.str [48, 56, 48, 3, 4, 1, 107, 4, 32, 246, 224, 93, 86, 208, 156, 75, 39, 186, 121, 83, 86, 177, 57, 62, 226, 94, 144, 55, 93, 247, 231, 182, 134, 64, 240, 199, 54, 143, 189, 142, 104, 48, 6, 130, 4, 109, 120, 46, 97, 2, 1, 10, 2, 1, 20, 1, 1, 0]], [], .tuple [.agg [.str [107], .str [246, 224, 93, 86, 208, 156, 75, 39, 186, 121, 83, 86, 177, 57, 62, 226, 94, 144, 55, 93, 247, 231, 182, 134, 64, 240, 199, 54, 143, 189, 142, 104], .slice 0 0 1 false 0 0, .int .i64 10, .int .i64 20, .bool false], .int .i64 0], [.row [.str [109, 120, 46, 97]] 9 1]⟩
theorem nek2_ok : EntFOk Tryz.prog nek2 := entf_ok mixed (gs := nekGs) neks2_ok (tabL_ok TS_ok) (lim := 3000) (n := 40) (by kernel_rfl)
def neks3 : List EntF := nek2 :: neks2
theorem neks3_ok : ∀ e ∈ neks3, EntFOk Tryz.prog e := entf_cons nek2_ok neks2_ok
def nek3 : EntF := ⟨28, [.str [48, 3, 4, 1, 107]], [], .str [228, 140, 182, 54, 184, 149, 29, 177, 3, 246, 33, 146, 213, 139, 63, 118, 107, 57, 192, 248, 139, 150, 135, 218, 91, 81, 13, 208, 43, 167, 240, 128], []⟩
theorem nek3_ok : EntFOk Tryz.prog nek3 := entf_ok mixed (gs := nekGs) neks3_ok (tabL_ok TS_ok) (lim := 3000) (n := 40) (by kernel_rfl)
def neks4 : List EntF := nek3 :: neks3
theorem neks4_ok : ∀ e ∈ neks4, EntFOk Tryz.prog e := entf_cons nek3_ok neks3_ok
def nekAll : List EntF := neks4
theorem nekAll_ok : ∀ e ∈ nekAll, EntFOk Tryz.prog e := neks4_ok
theorem needNames_run : isTrue (evalFn Tryz.prog (EF Tryz.prog nekGs nekAll (tabL TS) 3000 40) 3000 3 [] []) = true := by kernel_rfl
theorem needNames_walk (w : World) (hg : GOk w.heap.size w) : Calls Tryz.prog 3 #[] w (fun e w' => e = .returned (.bool true) ∧ Below w.heap.size w w') :=
  law_of_sat (entf_law mixed nekAll_ok (tabL_ok TS_ok) needNames_run) rfl w hg
end Go.Proofs.YtojpkjahoahedaaGreatDoor
