/- Awake: what it comes to. -/
import Derived.Test.YtmcdajbfomngcaaDoorP1
import Derived.Test.YtmcdajbfomngcaaDoorVmc
namespace Go.Proofs.YtmcdajbfomngcaaDoor
open Go Go.Vm Go.RowKit
set_option maxRecDepth 100000
set_option linter.unusedSectionVars false
variable [Φ:Frz]
noncomputable def TS:Tab:=⟨noT,noL,noLks 9⟩
theorem TS_ok:TabOk3 Tryd.prog TS:=⟨noT_ok,noL_ok,noLks_ok 9⟩
def awkGs(g:Nat):Bool:=!([55].any (Nat.beq g))
def awks0:List EntF:=[]
theorem awks0_ok:∀e∈awks0,EntFOk Tryd.prog e:=entf_nil
def awk0:EntF:=⟨37,[.func (.func 38) [] [],.str [83,73,90,69,32,49,48,48,48]],[],.str [83,73,90,69,32,49,48,48,48],[]⟩
theorem awk0_ok:EntFOk Tryd.prog awk0:=map_known (by kernel_rfl)
def awks1:List EntF:=awk0::awks0
theorem awks1_ok:∀e∈awks1,EntFOk Tryd.prog e:=entf_cons awk0_ok awks0_ok
def awk1:EntF:=⟨37,[.func (.func 38) [] [],.str [115,116,97,114,116,116,108,115]],[],.str [83,84,65,82,84,84,76,83],[]⟩
theorem awk1_ok:EntFOk Tryd.prog awk1:=map_known (by kernel_rfl)
def awks2:List EntF:=awk1::awks1
theorem awks2_ok:∀e∈awks2,EntFOk Tryd.prog e:=entf_cons awk1_ok awks1_ok
def awk2:EntF:=⟨37,[.func (.func 38) [] [],.str [88,45,79,68,68,32,49]],[],.str [88,45,79,68,68,32,49],[]⟩
theorem awk2_ok:EntFOk Tryd.prog awk2:=map_known (by kernel_rfl)
def awks3:List EntF:=awk2::awks2
theorem awks3_ok:∀e∈awks3,EntFOk Tryd.prog e:=entf_cons awk2_ok awks2_ok
def awk3:EntF:=⟨37,[.func (.func 38) [] [],.str [83,84,65,82,84,84,76,83,32,110,111,119]],[],.str [83,84,65,82,84,84,76,83,32,78,79,87],[]⟩
theorem awk3_ok:EntFOk Tryd.prog awk3:=map_known (by kernel_rfl)
def awks4:List EntF:=awk3::awks3
theorem awks4_ok:∀e∈awks4,EntFOk Tryd.prog e:=entf_cons awk3_ok awks3_ok
def awk4:EntF:=⟨37,[.func (.func 38) [] [],.str [83,73,90,69,32,48,49]],[],.str [83,73,90,69,32,48,49],[]⟩
theorem awk4_ok:EntFOk Tryd.prog awk4:=map_known (by kernel_rfl)
def awks5:List EntF:=awk4::awks4
theorem awks5_ok:∀e∈awks5,EntFOk Tryd.prog e:=entf_cons awk4_ok awks4_ok
def awk5:EntF:=⟨37,[.func (.func 38) [] [],.str [83,73,90,69,32,32,53]],[],.str [83,73,90,69,32,32,53],[]⟩
theorem awk5_ok:EntFOk Tryd.prog awk5:=map_known (by kernel_rfl)
def awks6:List EntF:=awk5::awks5
theorem awks6_ok:∀e∈awks6,EntFOk Tryd.prog e:=entf_cons awk5_ok awks5_ok
def awk6:EntF:=⟨37,[.func (.func 38) [] [],.str [83,84,65,82,84]],[],.str [83,84,65,82,84],[]⟩
theorem awk6_ok:EntFOk Tryd.prog awk6:=map_known (by kernel_rfl)
def awks7:List EntF:=awk6::awks6
theorem awks7_ok:∀e∈awks7,EntFOk Tryd.prog e:=entf_cons awk6_ok awks6_ok
def awk7:EntF:=⟨37,[.func (.func 38) [] [],.str [83,73,90,69]],[],.str [83,73,90,69],[]⟩
theorem awk7_ok:EntFOk Tryd.prog awk7:=map_known (by kernel_rfl)
def awks8:List EntF:=awk7::awks7
theorem awks8_ok:∀e∈awks8,EntFOk Tryd.prog e:=entf_cons awk7_ok awks7_ok
def awkAll:List EntF:=awks8
theorem awkAll_ok:∀e∈awkAll,EntFOk Tryd.prog e:=awks8_ok
theorem awE_ok:EntFOk Tryd.prog ⟨18,[],[],.bool true,[]⟩:=entf_ok mixed (gs:=awkGs) awkAll_ok (tabL_ok TS_ok) (lim:=3000) (n:=40) (by kernel_rfl)
theorem works_sat:FnSat Tryd.prog 18 [] [] (Is (.bool true,[])):=awE_ok
def worksF:List V→Option V
 |[]=>some (.bool true)
 |_=>none
theorem worksF_ok(args:List V)(v:V)(h:worksF args=some v):FnSat Tryd.prog 18 args [] (Is (v,[])):=by
 unfold worksF at h;split at h
 ·cases h;exact works_sat
 ·cases h
end Go.Proofs.YtmcdajbfomngcaaDoor
