/- Awake: what it comes to. -/
import Derived.Test.YtebkeppoicllmaaDoorSum2
import Derived.Test.YtebkeppoicllmaaDoorVmc
namespace Go.Proofs.YtebkeppoicllmaaDoor
open Go Go.Vm Go.RowKit
set_option maxRecDepth 100000
set_option linter.unusedSectionVars false
variable [Φ:Frz]
noncomputable def TS:Tab:=⟨addT (addP noT 41 rotF) 25 mixF,addM noL 26 blkG,bf 9⟩
theorem TS_ok:TabOk3 Tryd.prog TS:=⟨b8 (aQ aL rot_ok) mix_ok,o9 aM blk_ok,au 9⟩
def awkGs(g:Nat):Bool:=!([53,62,27,52,38].any (Nat.beq g))
def awks0:List EntF:=[]
theorem awks0_ok:∀e∈awks0,di Tryd.prog e:=entf_nil
def awk0:EntF:=⟨26,[.slice 0 0 64 false 0 0],[.ro false [.int .u8 48,.int .u8 6,.int .u8 4,.int .u8 4,.int .u8 114,.int .u8 111,.int .u8 111,.int .u8 116,.int .u8 128,.int .u8 0,.int .u8 0,.int .u8 0,.int .u8 0,.int .u8 0,.int .u8 0,.int .u8 0,.int .u8 0,.int .u8 0,.int .u8 0,.int .u8 0,.int .u8 0,.int .u8 0,.int .u8 0,.int .u8 0,.int .u8 0,.int .u8 0,.int .u8 0,.int .u8 0,.int .u8 0,.int .u8 0,.int .u8 0,.int .u8 0,.int .u8 0,.int .u8 0,.int .u8 0,.int .u8 0,.int .u8 0,.int .u8 0,.int .u8 0,.int .u8 0,.int .u8 0,.int .u8 0,.int .u8 0,.int .u8 0,.int .u8 0,.int .u8 0,.int .u8 0,.int .u8 0,.int .u8 0,.int .u8 0,.int .u8 0,.int .u8 0,.int .u8 0,.int .u8 0,.int .u8 0,.int .u8 0,.int .u8 0,.int .u8 0,.int .u8 0,.int .u8 0,.int .u8 0,.int .u8 0,.int .u8 0,.int .u8 64]],.agg [.int .u32 805700612,.int .u32 1919905652,.int .u32 2147483648,.int .u32 0,.int .u32 0,.int .u32 0,.int .u32 0,.int .u32 0,.int .u32 0,.int .u32 0,.int .u32 0,.int .u32 0,.int .u32 0,.int .u32 0,.int .u32 0,.int .u32 64,.int .u32 1836725167,.int .u32 2207747956,.int .u32 3753444766,.int .u32 913585242,.int .u32 2722847338,.int .u32 2628501753,.int .u32 3327170554,.int .u32 96406239,.int .u32 3704307515,.int .u32 1139675976,.int .u32 784456589,.int .u32 1848192120,.int .u32 1936212935,.int .u32 2046380180,.int .u32 2941687984,.int .u32 1236301400,.int .u32 1802951923,.int .u32 1333695050,.int .u32 3281263350,.int .u32 1559461760,.int .u32 3136047216,.int .u32 3839980837,.int .u32 958750124,.int .u32 2838717742,.int .u32 1306506010,.int .u32 1325526810,.int .u32 1908006946,.int .u32 2215454504,.int .u32 2587662204,.int .u32 3171372544,.int .u32 3593784229,.int .u32 1124343644,.int .u32 4042286509,.int .u32 1087764191,.int .u32 1523079888,.int .u32 554242862,.int .u32 2822029329,.int .u32 1867433714,.int .u32 92932439,.int .u32 667373388,.int .u32 451827948,.int .u32 720208988,.int .u32 2188626100,.int .u32 1855840209,.int .u32 1817342992,.int .u32 2048793263,.int .u32 700376387,.int .u32 2292440660],[]⟩
theorem awk0_ok:di Tryd.prog awk0:=oT aH (gs:=awkGs) awks0_ok (nY TS_ok) (lim:=3000) (n:=40) (by kernel_rfl)
def awks1:List EntF:=awk0::awks0
theorem awks1_ok:∀e∈awks1,di Tryd.prog e:=nE awk0_ok awks0_ok
def awk1:EntF:=⟨25,[.agg [.int .u32 1779033703,.int .u32 3144134277,.int .u32 1013904242,.int .u32 2773480762,.int .u32 1359893119,.int .u32 2600822924,.int .u32 528734635,.int .u32 1541459225],.agg [.int .u32 805700612,.int .u32 1919905652,.int .u32 2147483648,.int .u32 0,.int .u32 0,.int .u32 0,.int .u32 0,.int .u32 0,.int .u32 0,.int .u32 0,.int .u32 0,.int .u32 0,.int .u32 0,.int .u32 0,.int .u32 0,.int .u32 64,.int .u32 1836725167,.int .u32 2207747956,.int .u32 3753444766,.int .u32 913585242,.int .u32 2722847338,.int .u32 2628501753,.int .u32 3327170554,.int .u32 96406239,.int .u32 3704307515,.int .u32 1139675976,.int .u32 784456589,.int .u32 1848192120,.int .u32 1936212935,.int .u32 2046380180,.int .u32 2941687984,.int .u32 1236301400,.int .u32 1802951923,.int .u32 1333695050,.int .u32 3281263350,.int .u32 1559461760,.int .u32 3136047216,.int .u32 3839980837,.int .u32 958750124,.int .u32 2838717742,.int .u32 1306506010,.int .u32 1325526810,.int .u32 1908006946,.int .u32 2215454504,.int .u32 2587662204,.int .u32 3171372544,.int .u32 3593784229,.int .u32 1124343644,.int .u32 4042286509,.int .u32 1087764191,.int .u32 1523079888,.int .u32 554242862,.int .u32 2822029329,.int .u32 1867433714,.int .u32 92932439,.int .u32 667373388,.int .u32 451827948,.int .u32 720208988,.int .u32 2188626100,.int .u32 1855840209,.int .u32 1817342992,.int .u32 2048793263,.int .u32 700376387,.int .u32 2292440660]],[],.agg [.int .u32 4141899094,.int .u32 3499903783,.int .u32 3128513366,.int .u32 2973318882,.int .u32 1586509661,.int .u32 4159157894,.int .u32 1089521462,.int .u32 2411564648],[]⟩
theorem awk1_ok:di Tryd.prog awk1:=oT aH (gs:=awkGs) awks1_ok (nY TS_ok) (lim:=3000) (n:=40) (by kernel_rfl)
def awks2:List EntF:=awk1::awks1
theorem awks2_ok:∀e∈awks2,di Tryd.prog e:=nE awk1_ok awks1_ok
def awkAll:List EntF:=awks2
theorem awkAll_ok:∀e∈awkAll,di Tryd.prog e:=awks2_ok
theorem awE_ok:di Tryd.prog ⟨4,[],[],.bool true,[]⟩:=oT aH (gs:=awkGs) awkAll_ok (nY TS_ok) (lim:=3000) (n:=40) (by kernel_rfl)
theorem awake_sat:FnSat Tryd.prog 4 [] [] (Is (.bool true,[])):=awE_ok
def awakeF:List V→Option V
 |[]=>some (.bool true)
 |_=>none
theorem awakeF_ok(args:List V)(v:V)(h:awakeF args=some v):FnSat Tryd.prog 4 args [] (Is (v,[])):=by
 unfold awakeF at h;split at h
 ·cases h;exact awake_sat
 ·cases h
end Go.Proofs.YtebkeppoicllmaaDoor
