/- The examples of layer 2: what they come to. -/
import Derived.Test.YtnenadbbhdcaoaaDoorP1
import Derived.Test.YtnenadbbhdcaoaaDoorVmc
namespace Go.Proofs.YtnenadbbhdcaoaaDoor
open Go Go.Vm Go.RowKit
set_option maxRecDepth 100000
set_option linter.unusedSectionVars false
variable [Φ:Frz]
noncomputable def TS:Tab:=⟨addT (addP noT 114 rotF) 83 mixF,addM noL 84 blkG,dA 9⟩
theorem TS_ok:TabOk3 Tryd.prog TS:=⟨eB (gI cK rot_ok) mix_ok,ke cL blk_ok,bE 9⟩
def wokGs(g:Nat):Bool:=!([107,108,112,128,163].any (Nat.beq g))
def woks0:List EntF:=[]
theorem woks0_ok:∀e∈woks0,bH Tryd.prog e:=entf_nil
def wok0:EntF:=⟨111,[.str [49,48]],[],.tuple [.int .i64 10,.nilIface],[]⟩
theorem wok0_ok:bH Tryd.prog wok0:=jY bL (gs:=wokGs) woks0_ok (gD TS_ok) (lim:=3000) (n:=40) (by kernel_rfl)
def woks1:List EntF:=wok0::woks0
theorem woks1_ok:∀e∈woks1,bH Tryd.prog e:=ga wok0_ok woks0_ok
def wok1:EntF:=⟨40,[.str [97,98,99]],[],.str [186,120,22,191,143,1,207,234,65,65,64,222,93,174,34,35,176,3,97,163,150,23,122,156,180,16,255,97,242,0,21,173],[]⟩
theorem wok1_ok:bH Tryd.prog wok1:=jY bL (gs:=wokGs) woks1_ok (gD TS_ok) (lim:=3000) (n:=40) (by kernel_rfl)
def woks2:List EntF:=wok1::woks1
theorem woks2_ok:∀e∈woks2,bH Tryd.prog e:=ga wok1_ok woks1_ok
def wok2:EntF:=⟨40,[.str []],[],.str [227,176,196,66,152,252,28,20,154,251,244,200,153,111,185,36,39,174,65,228,100,155,147,76,164,149,153,27,120,82,184,85],[]⟩
theorem wok2_ok:bH Tryd.prog wok2:=jY bL (gs:=wokGs) woks2_ok (gD TS_ok) (lim:=3000) (n:=40) (by kernel_rfl)
def woks3:List EntF:=wok2::woks2
theorem woks3_ok:∀e∈woks3,bH Tryd.prog e:=ga wok2_ok woks2_ok
def wokAll:List EntF:=woks3
theorem wokAll_ok:∀e∈wokAll,bH Tryd.prog e:=woks3_ok
theorem works_run:jO (ed Tryd.prog (EF Tryd.prog wokGs wokAll (tabL TS) 3000 40) 3000 39 [] [])=true:=by kernel_rfl
theorem works_sat:FnSat Tryd.prog 39 [] [] (Is (.bool true,[])):=
 FnSat.flatK rfl ((entf_law bL wokAll_ok (gD TS_ok) works_run).mono fun u s h=>by cases h;rfl)
def worksF:List V→Option V
 |[]=>some (.bool true)
 |_=>none
theorem works_ok(args:List V)(v:V)(h:worksF args=some v):FnSat Tryd.prog 39 args [] (Is (v,[])):=by
 unfold worksF at h;split at h
 ·cases h;exact works_sat
 ·cases h
end Go.Proofs.YtnenadbbhdcaoaaDoor
