/- The examples of layer 2: what they come to. -/
import Derived.Test.YtlgapohnmcmhdaaDoorSum2
import Derived.Test.YtlgapohnmcmhdaaDoorVmc
namespace Go.Proofs.YtlgapohnmcmhdaaDoor
open Go Go.Vm Go.RowKit
set_option maxRecDepth 100000
noncomputable def TS : Tab := ⟨addT (addP noT 51 rotF) 34 mixF, addM noL 35 blkG, noLks 9⟩
theorem TS_ok : TabOk3 Tryd.prog TS := ⟨addT_ok (addP_ok noT_ok rot_ok) mix_ok, addM_ok noL_ok blk_ok, noLks_ok 9⟩
def wokGs (g : Nat) : Bool := !([25,26,29,39,68].any (Nat.beq g))
def woks0 : List EntF := []
theorem woks0_ok : ∀ e ∈ woks0, EntFOk Tryd.prog e := entf_nil
def wok0 : EntF := ⟨33, [.str [49, 48]], [], .tuple [.int .i64 10, .nilIface], []⟩
theorem wok0_ok : EntFOk Tryd.prog wok0 := entf_ok mixed (gs := wokGs) woks0_ok (tabL_ok TS_ok) (lim := 3000) (n := 40) (by kernel_rfl)
def woks1 : List EntF := wok0 :: woks0
theorem woks1_ok : ∀ e ∈ woks1, EntFOk Tryd.prog e := entf_cons wok0_ok woks0_ok
def wok1 : EntF := ⟨23, [.str [97, 98, 99]], [], .str [186, 120, 22, 191, 143, 1, 207, 234, 65, 65, 64, 222, 93, 174, 34, 35, 176, 3, 97, 163, 150, 23, 122, 156, 180, 16, 255, 97, 242, 0, 21, 173], []⟩
theorem wok1_ok : EntFOk Tryd.prog wok1 := entf_ok mixed (gs := wokGs) woks1_ok (tabL_ok TS_ok) (lim := 3000) (n := 40) (by kernel_rfl)
def woks2 : List EntF := wok1 :: woks1
theorem woks2_ok : ∀ e ∈ woks2, EntFOk Tryd.prog e := entf_cons wok1_ok woks1_ok
def wok2 : EntF := ⟨23, [.str []], [], .str [227, 176, 196, 66, 152, 252, 28, 20, 154, 251, 244, 200, 153, 111, 185, 36, 39, 174, 65, 228, 100, 155, 147, 76, 164, 149, 153, 27, 120, 82, 184, 85], []⟩
theorem wok2_ok : EntFOk Tryd.prog wok2 := entf_ok mixed (gs := wokGs) woks2_ok (tabL_ok TS_ok) (lim := 3000) (n := 40) (by kernel_rfl)
def woks3 : List EntF := wok2 :: woks2
theorem woks3_ok : ∀ e ∈ woks3, EntFOk Tryd.prog e := entf_cons wok2_ok woks2_ok
def wokAll : List EntF := woks3
theorem wokAll_ok : ∀ e ∈ wokAll, EntFOk Tryd.prog e := woks3_ok
theorem works_run : isTrue (evalFn Tryd.prog (EF Tryd.prog wokGs wokAll (tabL TS) 3000 40) 3000 10 [] []) = true := by kernel_rfl
theorem works_sat : FnSat Tryd.prog 10 [] [] (Is (.bool true, [])) :=
  FnSat.flatK rfl ((entf_law mixed wokAll_ok (tabL_ok TS_ok) works_run).mono fun u s h => by cases h; rfl)
def worksF : List V → Option V
  | [] => some (.bool true)
  | _ => none
theorem works_ok (args : List V) (v : V) (h : worksF args = some v) : FnSat Tryd.prog 10 args [] (Is (v, [])) := by
  unfold worksF at h
  split at h
  · cases h; exact works_sat
  · cases h
end Go.Proofs.YtlgapohnmcmhdaaDoor
