/- awk: what it comes to. -/
import Derived.Test.YtebkeppoicllmaaGreatDoorBase
import Derived.Test.YtebkeppoicllmaaGreatDoorVmc
namespace Go.Proofs.YtebkeppoicllmaaGreatDoor
open Go Go.Vm Go.RowKit
set_option maxRecDepth 100000
set_option linter.unusedSectionVars false
variable [Φ:Frz]
noncomputable def TS:Tab:=⟨noT,noL,c8 9⟩
theorem TS_ok:TabOk3 Tryz.prog TS:=⟨cp,cr,be 9⟩
def awkGs(g:Nat):Bool:=!([182,163,112,109,114].any (Nat.beq g))
def awks0:List EntF:=[]
theorem awks0_ok:∀e∈awks0,bG Tryz.prog e:=entf_nil
def awk0:EntF:=⟨65,[.str [118,101,114,115,105,111,110,58,32,83,84,83,118,49,10,109,111,100,101,58,32,101,110,102,111,114,99,101,10,109,120,58,32,42,46,69,120,97,109,112,108,101,46,99,111,109,10,109,97,120,95,97,103,101,58,32,56,54,52,48,48,10]],[],.tuple [.agg [.int .u8 3,.slice 0 0 1 false 0 0,.int .i64 86400],.int .i64 0],[.row [.str [42,46,101,120,97,109,112,108,101,46,99,111,109]] 9 1]⟩
theorem awk0_ok:bG Tryz.prog awk0:=gD bQ (gs:=awkGs) awks0_ok (ge TS_ok) (lim:=3000) (n:=40) (by kernel_rfl)
def awks1:List EntF:=awk0::awks0
theorem awks1_ok:∀e∈awks1,bG Tryz.prog e:=fo awk0_ok awks0_ok
def awk1:EntF:=⟨35,[.slice 0 0 1 false 0 0],[.ro false [.str [118,61,83,84,83,118,49,59,32,105,100,61,50,48,50,54,48,49,48,49,84,48,59]]],.tuple [.str [50,48,50,54,48,49,48,49,84,48],.bool true],[]⟩
theorem awk1_ok:bG Tryz.prog awk1:=gD bQ (gs:=awkGs) awks1_ok (ge TS_ok) (lim:=3000) (n:=40) (by kernel_rfl)
def awks2:List EntF:=awk1::awks1
theorem awks2_ok:∀e∈awks2,bG Tryz.prog e:=fo awk1_ok awks1_ok
def awk2:EntF:=⟨65,[.str [118,101,114,115,105,111,110,58,32,83,84,83,118,49,10,109,111,100,101,58,32,101,110,102,111,114,99,101,10,109,97,120,95,97,103,101,58,32,56,54,52,48,48,10]],[],.tuple [.agg [.int .u8 0,.nilSlice,.int .i64 0],.int .i64 4],[]⟩
theorem awk2_ok:bG Tryz.prog awk2:=gD bQ (gs:=awkGs) awks2_ok (ge TS_ok) (lim:=3000) (n:=40) (by kernel_rfl)
def awks3:List EntF:=awk2::awks2
theorem awks3_ok:∀e∈awks3,bG Tryz.prog e:=fo awk2_ok awks2_ok
def awk3:EntF:=⟨65,[.str [118,101,114,115,105,111,110,58,32,83,84,83,118,49,10,109,111,100,101,58,32,110,111,110,101,10,109,97,120,95,97,103,101,58,32,56,54,52,48,48,10]],[],.tuple [.agg [.int .u8 1,.nilSlice,.int .i64 86400],.int .i64 0],[]⟩
theorem awk3_ok:bG Tryz.prog awk3:=gD bQ (gs:=awkGs) awks3_ok (ge TS_ok) (lim:=3000) (n:=40) (by kernel_rfl)
def awks4:List EntF:=awk3::awks3
theorem awks4_ok:∀e∈awks4,bG Tryz.prog e:=fo awk3_ok awks3_ok
def awkAll:List EntF:=awks4
theorem awkAll_ok:∀e∈awkAll,bG Tryz.prog e:=awks4_ok
theorem awE_ok:bG Tryz.prog ⟨34,[],[],.bool true,[]⟩:=gD bQ (gs:=awkGs) awkAll_ok (ge TS_ok) (lim:=3000) (n:=40) (by kernel_rfl)
theorem awake_sat:FnSat Tryz.prog 34 [] [] (Is (.bool true,[])):=awE_ok
def ly:List V→Option V
 |[]=>some (.bool true)
 |_=>none
theorem ks(args:List V)(v:V)(h:ly args=some v):FnSat Tryz.prog 34 args [] (Is (v,[])):=by
 unfold ly at h;split at h
 ·cases h;exact awake_sat
 ·cases h
end Go.Proofs.YtebkeppoicllmaaGreatDoor
