/- Parts of this work: what the functions come to. -/
import Derived.Test.YtmcdajbfomngcaaDoorP1
import Derived.Test.YtmcdajbfomngcaaDoorWorks06
import Derived.Test.YtmcdajbfomngcaaDoorVmc
import Derived.Test.YtmcdajbfomngcaaDoorRows
import Derived.WalkKit
import Derived.ProofKit
import Derived.OpenShut
import Derived.ShutString
import Derived.SizedLaws
import Derived.LaidMore
import Derived.Stop.Joined
import Derived.LaidHandle
namespace Go.Proofs.YtmcdajbfomngcaaDoor
open Go Go.Vm Go.RowKit
set_option linter.unusedVariables false
set_option maxRecDepth 100000
set_option linter.unusedSectionVars false
variable [Φ:Frz]
noncomputable def CBT(N:List UInt8→Bool→Bool→Bool→Bool→Bool→Bool→Int→Nat)(F:List UInt8→Bool→Bool→Bool→Bool→Bool→Bool→Int→List V)(OK:V→St→Bool)(OV:Int→V→St→CP):Tab:=⟨addT (addP noT 18 worksF) 24 (textsTG N F),addS noL 22 (ofGV OK OV),noLks 9⟩
theorem CBT_ok:TabOk3 Tryd.prog (CBT (fun h a1 a2 a3 a4 a5 a6 mo=>(h::capW ⟨a1,a2,a3,a4,a5,a6,mo⟩).length) (fun h a1 a2 a3 a4 a5 a6 mo=>strs (h::capW ⟨a1,a2,a3,a4,a5,a6,mo⟩)) ofOK ofV):=⟨addT_ok (addP_ok noT_ok worksF_ok) texts_ok,addS_ok noL_ok ofGV_ok,noLks_ok 9⟩
theorem cb_law(N:List UInt8→Bool→Bool→Bool→Bool→Bool→Bool→Int→Nat)(F:List UInt8→Bool→Bool→Bool→Bool→Bool→Bool→Int→List V)(OK:V→St→Bool)(OV:Int→V→St→CP)(h:List UInt8)(a1 a2 a3 a4 a5 a6:Bool)(mo:Int)(R:V→Prop):runW Tryd.prog (CBT N F OK OV) 9 10 6 [.str h,.agg [.bool a1,.bool a2,.bool a3,.bool a4,.bool a5,.bool a6,.int .i64 mo]] R=
  (
 bif decide ((↑h.length:Int)>5000)then R (V.bool true)else bif !a6 then bif isI64 mo then bif decide ((↑(N h a1 a2 a3 a4 a5 a6 mo):Int)>0)then bif true&&
 decide (0<(↑(N h a1 a2 a3 a4 a5 a6 mo):Int))then bif Nat.blt 0 (shiftL 2 (F h a1 a2 a3 a4 a5 a6 mo)).length then bif isStrV ((shiftL 2 (F h a1 a2 a3 a4 a5 a6
 mo)).getD 0 (V.bool false))then bif strOfV ((shiftL 2 (F h a1 a2 a3 a4 a5 a6 mo)).getD 0 (V.bool false))==h then bif OK (V.slice 2 0 (N h a1 a2 a3 a4 a5 a6 mo) false 0
 0) [Blk.ro false [V.bool a1,V.bool a2,V.bool a3,V.bool a4,V.bool a5,V.bool a6,V.int IntKind.i64 mo],Blk.ro false [V.bool a1,V.bool a2,V.bool a3,V.bool a4,
 V.bool a5,V.bool a6,V.int IntKind.i64 0],Blk.ro false (shiftL 2 (F h a1 a2 a3 a4 a5 a6 mo))]then bif (OV 250 (V.slice 2 0 (N h a1 a2 a3 a4 a5 a6 mo) false 0 0)
 [Blk.ro false [V.bool a1,V.bool a2,V.bool a3,V.bool a4,V.bool a5,V.bool a6,V.int IntKind.i64 mo],Blk.ro false [V.bool a1,V.bool a2,V.bool a3,V.bool a4,V.bool
 a5,V.bool a6,V.int IntKind.i64 0],Blk.ro false (shiftL 2 (F h a1 a2 a3 a4 a5 a6 mo))]).st==a1 then bif (OV 250 (V.slice 2 0 (N h a1 a2 a3 a4 a5 a6 mo) false 0 0)
 [Blk.ro false [V.bool a1,V.bool a2,V.bool a3,V.bool a4,V.bool a5,V.bool a6,V.int IntKind.i64 mo],Blk.ro false [V.bool a1,V.bool a2,V.bool a3,V.bool a4,V.bool
 a5,V.bool a6,V.int IntKind.i64 0],Blk.ro false (shiftL 2 (F h a1 a2 a3 a4 a5 a6 mo))]).pi==a2 then bif (OV 250 (V.slice 2 0 (N h a1 a2 a3 a4 a5 a6 mo) false 0 0)
 [Blk.ro false [V.bool a1,V.bool a2,V.bool a3,V.bool a4,V.bool a5,V.bool a6,V.int IntKind.i64 mo],Blk.ro false [V.bool a1,V.bool a2,V.bool a3,V.bool a4,V.bool
 a5,V.bool a6,V.int IntKind.i64 0],Blk.ro false (shiftL 2 (F h a1 a2 a3 a4 a5 a6 mo))]).rq==a3 then bif (OV 250 (V.slice 2 0 (N h a1 a2 a3 a4 a5 a6 mo) false 0 0)
 [Blk.ro false [V.bool a1,V.bool a2,V.bool a3,V.bool a4,V.bool a5,V.bool a6,V.int IntKind.i64 mo],Blk.ro false [V.bool a1,V.bool a2,V.bool a3,V.bool a4,V.bool
 a5,V.bool a6,V.int IntKind.i64 0],Blk.ro false (shiftL 2 (F h a1 a2 a3 a4 a5 a6 mo))]).ds==a4 then bif (OV 250 (V.slice 2 0 (N h a1 a2 a3 a4 a5 a6 mo) false 0 0)
 [Blk.ro false [V.bool a1,V.bool a2,V.bool a3,V.bool a4,V.bool a5,V.bool a6,V.int IntKind.i64 mo],Blk.ro false [V.bool a1,V.bool a2,V.bool a3,V.bool a4,V.bool
 a5,V.bool a6,V.int IntKind.i64 0],Blk.ro false (shiftL 2 (F h a1 a2 a3 a4 a5 a6 mo))]).eb==a5 then bif (OV 250 (V.slice 2 0 (N h a1 a2 a3 a4 a5 a6 mo) false 0 0)
 [Blk.ro false [V.bool a1,V.bool a2,V.bool a3,V.bool a4,V.bool a5,V.bool a6,V.int IntKind.i64 mo],Blk.ro false [V.bool a1,V.bool a2,V.bool a3,V.bool a4,V.bool
 a5,V.bool a6,V.int IntKind.i64 0],Blk.ro false (shiftL 2 (F h a1 a2 a3 a4 a5 a6 mo))]).si==a6 then bif (OV 250 (V.slice 2 0 (N h a1 a2 a3 a4 a5 a6 mo) false 0 0)
 [Blk.ro false [V.bool a1,V.bool a2,V.bool a3,V.bool a4,V.bool a5,V.bool a6,V.int IntKind.i64 mo],Blk.ro false [V.bool a1,V.bool a2,V.bool a3,V.bool a4,V.bool
 a5,V.bool a6,V.int IntKind.i64 0],Blk.ro false (shiftL 2 (F h a1 a2 a3 a4 a5 a6 mo))]).mo==0 then R (V.bool true)else R (V.bool false)else R (V.bool false)else R
 (V.bool false)else R (V.bool false)else R (V.bool false)else R (V.bool false)else R (V.bool false)else False else R (V.bool false)else False else False else False
 else R (V.bool false)else False else bif decide (mo<1)then bif isI64 mo then bif decide ((↑(N h a1 a2 a3 a4 a5 a6 mo):Int)>0)then bif true&&decide (0<(↑(N h
 a1 a2 a3 a4 a5 a6 mo):Int))then bif Nat.blt 0 (shiftL 2 (F h a1 a2 a3 a4 a5 a6 mo)).length then bif isStrV ((shiftL 2 (F h a1 a2 a3 a4 a5 a6 mo)).getD 0 (V.bool
 false))then bif strOfV ((shiftL 2 (F h a1 a2 a3 a4 a5 a6 mo)).getD 0 (V.bool false))==h then bif OK (V.slice 2 0 (N h a1 a2 a3 a4 a5 a6 mo) false 0 0) [Blk.ro false
 [V.bool a1,V.bool a2,V.bool a3,V.bool a4,V.bool a5,V.bool a6,V.int IntKind.i64 mo],Blk.ro false [V.bool a1,V.bool a2,V.bool a3,V.bool a4,V.bool a5,V.bool a6,
 V.int IntKind.i64 0],Blk.ro false (shiftL 2 (F h a1 a2 a3 a4 a5 a6 mo))]then bif (OV 250 (V.slice 2 0 (N h a1 a2 a3 a4 a5 a6 mo) false 0 0) [Blk.ro false [V.bool a1,
 V.bool a2,V.bool a3,V.bool a4,V.bool a5,V.bool a6,V.int IntKind.i64 mo],Blk.ro false [V.bool a1,V.bool a2,V.bool a3,V.bool a4,V.bool a5,V.bool a6,V.int
 IntKind.i64 0],Blk.ro false (shiftL 2 (F h a1 a2 a3 a4 a5 a6 mo))]).st==a1 then bif (OV 250 (V.slice 2 0 (N h a1 a2 a3 a4 a5 a6 mo) false 0 0) [Blk.ro false [V.bool
 a1,V.bool a2,V.bool a3,V.bool a4,V.bool a5,V.bool a6,V.int IntKind.i64 mo],Blk.ro false [V.bool a1,V.bool a2,V.bool a3,V.bool a4,V.bool a5,V.bool a6,V.int
 IntKind.i64 0],Blk.ro false (shiftL 2 (F h a1 a2 a3 a4 a5 a6 mo))]).pi==a2 then bif (OV 250 (V.slice 2 0 (N h a1 a2 a3 a4 a5 a6 mo) false 0 0) [Blk.ro false [V.bool
 a1,V.bool a2,V.bool a3,V.bool a4,V.bool a5,V.bool a6,V.int IntKind.i64 mo],Blk.ro false [V.bool a1,V.bool a2,V.bool a3,V.bool a4,V.bool a5,V.bool a6,V.int
 IntKind.i64 0],Blk.ro false (shiftL 2 (F h a1 a2 a3 a4 a5 a6 mo))]).rq==a3 then bif (OV 250 (V.slice 2 0 (N h a1 a2 a3 a4 a5 a6 mo) false 0 0) [Blk.ro false [V.bool
 a1,V.bool a2,V.bool a3,V.bool a4,V.bool a5,V.bool a6,V.int IntKind.i64 mo],Blk.ro false [V.bool a1,V.bool a2,V.bool a3,V.bool a4,V.bool a5,V.bool a6,V.int
 IntKind.i64 0],Blk.ro false (shiftL 2 (F h a1 a2 a3 a4 a5 a6 mo))]).ds==a4 then bif (OV 250 (V.slice 2 0 (N h a1 a2 a3 a4 a5 a6 mo) false 0 0) [Blk.ro false [V.bool
 a1,V.bool a2,V.bool a3,V.bool a4,V.bool a5,V.bool a6,V.int IntKind.i64 mo],Blk.ro false [V.bool a1,V.bool a2,V.bool a3,V.bool a4,V.bool a5,V.bool a6,V.int
 IntKind.i64 0],Blk.ro false (shiftL 2 (F h a1 a2 a3 a4 a5 a6 mo))]).eb==a5 then bif (OV 250 (V.slice 2 0 (N h a1 a2 a3 a4 a5 a6 mo) false 0 0) [Blk.ro false [V.bool
 a1,V.bool a2,V.bool a3,V.bool a4,V.bool a5,V.bool a6,V.int IntKind.i64 mo],Blk.ro false [V.bool a1,V.bool a2,V.bool a3,V.bool a4,V.bool a5,V.bool a6,V.int
 IntKind.i64 0],Blk.ro false (shiftL 2 (F h a1 a2 a3 a4 a5 a6 mo))]).si==a6 then bif (OV 250 (V.slice 2 0 (N h a1 a2 a3 a4 a5 a6 mo) false 0 0) [Blk.ro false [V.bool
 a1,V.bool a2,V.bool a3,V.bool a4,V.bool a5,V.bool a6,V.int IntKind.i64 mo],Blk.ro false [V.bool a1,V.bool a2,V.bool a3,V.bool a4,V.bool a5,V.bool a6,V.int
 IntKind.i64 0],Blk.ro false (shiftL 2 (F h a1 a2 a3 a4 a5 a6 mo))]).mo==0 then R (V.bool true)else R (V.bool false)else R (V.bool false)else R (V.bool false)else R
 (V.bool false)else R (V.bool false)else R (V.bool false)else R (V.bool false)else False else R (V.bool false)else False else False else False else R (V.bool false)
 else False else bif decide (mo>1099511627776)then bif isI64 mo then bif decide ((↑(N h a1 a2 a3 a4 a5 a6 mo):Int)>0)then bif true&&decide (0<(↑(N h a1 a2 a3
 a4 a5 a6 mo):Int))then bif Nat.blt 0 (shiftL 2 (F h a1 a2 a3 a4 a5 a6 mo)).length then bif isStrV ((shiftL 2 (F h a1 a2 a3 a4 a5 a6 mo)).getD 0 (V.bool false))then
 bif strOfV ((shiftL 2 (F h a1 a2 a3 a4 a5 a6 mo)).getD 0 (V.bool false))==h then bif OK (V.slice 2 0 (N h a1 a2 a3 a4 a5 a6 mo) false 0 0) [Blk.ro false [V.bool a1,
 V.bool a2,V.bool a3,V.bool a4,V.bool a5,V.bool a6,V.int IntKind.i64 mo],Blk.ro false [V.bool a1,V.bool a2,V.bool a3,V.bool a4,V.bool a5,V.bool a6,V.int
 IntKind.i64 0],Blk.ro false (shiftL 2 (F h a1 a2 a3 a4 a5 a6 mo))]then bif (OV 250 (V.slice 2 0 (N h a1 a2 a3 a4 a5 a6 mo) false 0 0) [Blk.ro false [V.bool a1,V.bool
 a2,V.bool a3,V.bool a4,V.bool a5,V.bool a6,V.int IntKind.i64 mo],Blk.ro false [V.bool a1,V.bool a2,V.bool a3,V.bool a4,V.bool a5,V.bool a6,V.int IntKind.i64
 0],Blk.ro false (shiftL 2 (F h a1 a2 a3 a4 a5 a6 mo))]).st==a1 then bif (OV 250 (V.slice 2 0 (N h a1 a2 a3 a4 a5 a6 mo) false 0 0) [Blk.ro false [V.bool a1,V.bool a2,
 V.bool a3,V.bool a4,V.bool a5,V.bool a6,V.int IntKind.i64 mo],Blk.ro false [V.bool a1,V.bool a2,V.bool a3,V.bool a4,V.bool a5,V.bool a6,V.int IntKind.i64 0],
 Blk.ro false (shiftL 2 (F h a1 a2 a3 a4 a5 a6 mo))]).pi==a2 then bif (OV 250 (V.slice 2 0 (N h a1 a2 a3 a4 a5 a6 mo) false 0 0) [Blk.ro false [V.bool a1,V.bool a2,
 V.bool a3,V.bool a4,V.bool a5,V.bool a6,V.int IntKind.i64 mo],Blk.ro false [V.bool a1,V.bool a2,V.bool a3,V.bool a4,V.bool a5,V.bool a6,V.int IntKind.i64 0],
 Blk.ro false (shiftL 2 (F h a1 a2 a3 a4 a5 a6 mo))]).rq==a3 then bif (OV 250 (V.slice 2 0 (N h a1 a2 a3 a4 a5 a6 mo) false 0 0) [Blk.ro false [V.bool a1,V.bool a2,
 V.bool a3,V.bool a4,V.bool a5,V.bool a6,V.int IntKind.i64 mo],Blk.ro false [V.bool a1,V.bool a2,V.bool a3,V.bool a4,V.bool a5,V.bool a6,V.int IntKind.i64 0],
 Blk.ro false (shiftL 2 (F h a1 a2 a3 a4 a5 a6 mo))]).ds==a4 then bif (OV 250 (V.slice 2 0 (N h a1 a2 a3 a4 a5 a6 mo) false 0 0) [Blk.ro false [V.bool a1,V.bool a2,
 V.bool a3,V.bool a4,V.bool a5,V.bool a6,V.int IntKind.i64 mo],Blk.ro false [V.bool a1,V.bool a2,V.bool a3,V.bool a4,V.bool a5,V.bool a6,V.int IntKind.i64 0],
 Blk.ro false (shiftL 2 (F h a1 a2 a3 a4 a5 a6 mo))]).eb==a5 then bif (OV 250 (V.slice 2 0 (N h a1 a2 a3 a4 a5 a6 mo) false 0 0) [Blk.ro false [V.bool a1,V.bool a2,
 V.bool a3,V.bool a4,V.bool a5,V.bool a6,V.int IntKind.i64 mo],Blk.ro false [V.bool a1,V.bool a2,V.bool a3,V.bool a4,V.bool a5,V.bool a6,V.int IntKind.i64 0],
 Blk.ro false (shiftL 2 (F h a1 a2 a3 a4 a5 a6 mo))]).si==a6 then bif (OV 250 (V.slice 2 0 (N h a1 a2 a3 a4 a5 a6 mo) false 0 0) [Blk.ro false [V.bool a1,V.bool a2,
 V.bool a3,V.bool a4,V.bool a5,V.bool a6,V.int IntKind.i64 mo],Blk.ro false [V.bool a1,V.bool a2,V.bool a3,V.bool a4,V.bool a5,V.bool a6,V.int IntKind.i64 0],
 Blk.ro false (shiftL 2 (F h a1 a2 a3 a4 a5 a6 mo))]).mo==0 then R (V.bool true)else R (V.bool false)else R (V.bool false)else R (V.bool false)else R (V.bool false)
 else R (V.bool false)else R (V.bool false)else R (V.bool false)else False else R (V.bool false)else False else False else False else R (V.bool false)else False else
 bif isI64 mo then bif decide ((↑(N h a1 a2 a3 a4 a5 a6 mo):Int)>0)then bif true&&decide (0<(↑(N h a1 a2 a3 a4 a5 a6 mo):Int))then bif Nat.blt 0 (shiftL 2 (F h
 a1 a2 a3 a4 a5 a6 mo)).length then bif isStrV ((shiftL 2 (F h a1 a2 a3 a4 a5 a6 mo)).getD 0 (V.bool false))then bif strOfV ((shiftL 2 (F h a1 a2 a3 a4 a5 a6 mo)).getD 0
 (V.bool false))==h then bif OK (V.slice 2 0 (N h a1 a2 a3 a4 a5 a6 mo) false 0 0) [Blk.ro false [V.bool a1,V.bool a2,V.bool a3,V.bool a4,V.bool a5,V.bool a6,V.int
 IntKind.i64 mo],Blk.ro false [V.bool a1,V.bool a2,V.bool a3,V.bool a4,V.bool a5,V.bool a6,V.int IntKind.i64 mo],Blk.ro false (shiftL 2 (F h a1 a2 a3 a4 a5 a6
 mo))]then bif (OV 250 (V.slice 2 0 (N h a1 a2 a3 a4 a5 a6 mo) false 0 0) [Blk.ro false [V.bool a1,V.bool a2,V.bool a3,V.bool a4,V.bool a5,V.bool a6,V.int
 IntKind.i64 mo],Blk.ro false [V.bool a1,V.bool a2,V.bool a3,V.bool a4,V.bool a5,V.bool a6,V.int IntKind.i64 mo],Blk.ro false (shiftL 2 (F h a1 a2 a3 a4 a5 a6
 mo))]).st==a1 then bif (OV 250 (V.slice 2 0 (N h a1 a2 a3 a4 a5 a6 mo) false 0 0) [Blk.ro false [V.bool a1,V.bool a2,V.bool a3,V.bool a4,V.bool a5,V.bool a6,V.int
 IntKind.i64 mo],Blk.ro false [V.bool a1,V.bool a2,V.bool a3,V.bool a4,V.bool a5,V.bool a6,V.int IntKind.i64 mo],Blk.ro false (shiftL 2 (F h a1 a2 a3 a4 a5 a6
 mo))]).pi==a2 then bif (OV 250 (V.slice 2 0 (N h a1 a2 a3 a4 a5 a6 mo) false 0 0) [Blk.ro false [V.bool a1,V.bool a2,V.bool a3,V.bool a4,V.bool a5,V.bool a6,V.int
 IntKind.i64 mo],Blk.ro false [V.bool a1,V.bool a2,V.bool a3,V.bool a4,V.bool a5,V.bool a6,V.int IntKind.i64 mo],Blk.ro false (shiftL 2 (F h a1 a2 a3 a4 a5 a6
 mo))]).rq==a3 then bif (OV 250 (V.slice 2 0 (N h a1 a2 a3 a4 a5 a6 mo) false 0 0) [Blk.ro false [V.bool a1,V.bool a2,V.bool a3,V.bool a4,V.bool a5,V.bool a6,V.int
 IntKind.i64 mo],Blk.ro false [V.bool a1,V.bool a2,V.bool a3,V.bool a4,V.bool a5,V.bool a6,V.int IntKind.i64 mo],Blk.ro false (shiftL 2 (F h a1 a2 a3 a4 a5 a6
 mo))]).ds==a4 then bif (OV 250 (V.slice 2 0 (N h a1 a2 a3 a4 a5 a6 mo) false 0 0) [Blk.ro false [V.bool a1,V.bool a2,V.bool a3,V.bool a4,V.bool a5,V.bool a6,V.int
 IntKind.i64 mo],Blk.ro false [V.bool a1,V.bool a2,V.bool a3,V.bool a4,V.bool a5,V.bool a6,V.int IntKind.i64 mo],Blk.ro false (shiftL 2 (F h a1 a2 a3 a4 a5 a6
 mo))]).eb==a5 then bif (OV 250 (V.slice 2 0 (N h a1 a2 a3 a4 a5 a6 mo) false 0 0) [Blk.ro false [V.bool a1,V.bool a2,V.bool a3,V.bool a4,V.bool a5,V.bool a6,V.int
 IntKind.i64 mo],Blk.ro false [V.bool a1,V.bool a2,V.bool a3,V.bool a4,V.bool a5,V.bool a6,V.int IntKind.i64 mo],Blk.ro false (shiftL 2 (F h a1 a2 a3 a4 a5 a6
 mo))]).si==a6 then bif (OV 250 (V.slice 2 0 (N h a1 a2 a3 a4 a5 a6 mo) false 0 0) [Blk.ro false [V.bool a1,V.bool a2,V.bool a3,V.bool a4,V.bool a5,V.bool a6,V.int
 IntKind.i64 mo],Blk.ro false [V.bool a1,V.bool a2,V.bool a3,V.bool a4,V.bool a5,V.bool a6,V.int IntKind.i64 mo],Blk.ro false (shiftL 2 (F h a1 a2 a3 a4 a5 a6
 mo))]).mo==mo then R (V.bool true)else R (V.bool false)else R (V.bool false)else R (V.bool false)else R (V.bool false)else R (V.bool false)else R (V.bool false)
 else R (V.bool false)else False else R (V.bool false)else False else False else False else R (V.bool false)else False):=by kernel_rfl
theorem view_ro{st:St}{k n c z:Nat}{ex own:Bool}{q:List (List UInt8)}(hk:st[k]?=some (.ro own (strs q)))(hn:n=q.length):viewS st (.slice k 0 n ex c z)=some (true,q):=by
 subst hn;have h1:((strs q).drop 0).take (q.length*1)=strs q:=by rw[List.drop_zero,List.take_of_length_le (by rw[strs_len];omega)]
 have h2:Nat.ble (0+q.length*1) q.length=true:=Nat.ble_eq_true_of_le (by omega);simp only[viewS,viewC,hk,h1,h2,strs_len,strs_isStr,strs_strOf,Nat.beq_refl,Bool.and_self]
theorem cap_short(c:CP)(h:isI64 c.mo=true):(capW c).all shortS=true:=by
 have k:=cap_okL c h;unfold capW;have one:∀(b:Bool) (w:List UInt8),shortS w=true→(bif b then[w]else[]).all shortS=true:=fun b w hw=>by cases b<;>simp[hw]
 have hz:shortS (sizeT c.mo)=true:=by
  unfold sizeT;cases hm:decide (1≤c.mo)&&decide (c.mo≤1099511627776)with
  |false=>rfl
  |true=>
   rw[cond_true];rw[Bool.and_eq_true]at hm;have h1:1≤c.mo:=of_decide_eq_true hm.1;have h3:c.mo≤1099511627776:=of_decide_eq_true hm.2;unfold Lib.itoa;rw[if_neg (by omega)];have:=dec_len 24 c.mo.toNat (by omega) (by have e:(10:Nat)^24=1000000000000000000000000:=rfl;omega);refine Nat.ble_eq_true_of_le ?_;rw[List.length_append];have e:wSZ.length=5:=rfl;omega
 simp only[List.all_append,one c.pi wPI rfl,one c.si _ hz,one c.st wST rfl,one c.rq wRQ rfl,one c.ds wDS rfl,one c.eb wEB rfl,Bool.and_self]
theorem cb_close(h:List UInt8)(a1 a2 a3 a4 a5 a6:Bool)(mo:Int)(hb:(Lit.int .i64 mo).wf=true):
  FnSat Tryd.prog 6 [.str h,.agg [.bool a1,.bool a2,.bool a3,.bool a4,.bool a5,.bool a6,.int .i64 mo]] [] (fun v _=>v=.bool true):=by
 have hmo:isI64 mo=true:=by
  unfold Lit.wf at hb;unfold isI64;simpa[IntKind.min,IntKind.max,IntKind.signed,IntKind.bits]using hb
 refine runW_ok (lim:=9) (n:=10) mixed CBT_ok ?_;rw[cb_law _ _ ofOK ofV h a1 a2 a3 a4 a5 a6 mo (fun v=>v=.bool true)];refine bif_intro (fun _=>rfl) (fun hl=>?_);have hl:=of_decide_eq_false hl;have hs:shortS h=true:=Nat.ble_eq_true_of_le (by omega);have hc:=cap_len ⟨a1,a2,a3,a4,a5,a6,mo⟩;have n1:decide (((h::capW ⟨a1,a2,a3,a4,a5,a6,mo⟩).length:Int)>0)=true:=decide_eq_true (by rw[List.length_cons];omega);have n2:decide ((0:Int)<((h::capW ⟨a1,a2,a3,a4,a5,a6,mo⟩).length:Int))=true:=n1;have n3:Nat.blt 0 (strs (h::capW ⟨a1,a2,a3,a4,a5,a6,mo⟩)).length=true:=Nat.ble_eq_true_of_le (by rw[strs_len,List.length_cons];omega);have g0:(strs (h::capW ⟨a1,a2,a3,a4,a5,a6,mo⟩)).getD 0 (.bool false)=.str h:=rfl;have hq:(h::capW ⟨a1,a2,a3,a4,a5,a6,mo⟩).all shortS=true:=by rw[List.all_cons,hs,cap_short _ hmo];rfl
 have e250:ofC 250 (h::capW ⟨a1,a2,a3,a4,a5,a6,mo⟩)=⟨a1,a2,a3,a4,a5,a6,saidM a6 mo 0⟩:=caps_back ⟨a1,a2,a3,a4,a5,a6,mo⟩;have hv:∀(b c:Blk),ofOK (.slice 2 0 (h::capW ⟨a1,a2,a3,a4,a5,a6,mo⟩).length false 0 0) [b,c,.ro false (strs (h::capW ⟨a1,a2,a3,a4,a5,a6,mo⟩))]=true∧ofV 250 (.slice 2 0 (h::capW ⟨a1,a2,a3,a4,a5,a6,mo⟩).length false 0 0) [b,c,.ro false (strs (h::capW ⟨a1,a2,a3,a4,a5,a6,mo⟩))]=⟨a1,a2,a3,a4,a5,a6,saidM a6 mo 0⟩:=fun b c=>by
  obtain⟨k1,k2⟩:=of_view (st:=[b,c,.ro false (strs (h::capW ⟨a1,a2,a3,a4,a5,a6,mo⟩))]) (p:=.slice 2 0 (h::capW ⟨a1,a2,a3,a4,a5,a6,mo⟩).length false 0 0) (view_ro rfl rfl) (by rw[List.length_cons];omega) hq;exact⟨k1,(k2 250).trans e250⟩
 simp only[shift_strs,n1,n2,n3,g0,isStrV,strOfV,beq_self_eq_true,cond_true,Bool.true_and,(hv _ _).1,(hv _ _).2,hmo];refine bif_intro (fun h1=>?_) (fun h1=>?_)
 ·have:a6=false:=by cases a6<;>simp at h1 ⊢
  subst this;exact trivial
 ·have:a6=true:=by cases a6<;>simp at h1 ⊢
  subst this;refine bif_intro (fun h2=>?_) (fun h2=>?_)
  ·have h2:=of_decide_eq_true h2;have e:saidM true mo 0=0:=by unfold saidM;rw[decide_eq_false (show ¬1≤mo by omega)];rfl
   rw[e];exact trivial
  ·have h2:=of_decide_eq_false h2;refine bif_intro (fun h3=>?_) (fun h3=>?_)
   ·have h3:=of_decide_eq_true h3;have e:saidM true mo 0=0:=by unfold saidM;rw[decide_eq_false (show ¬mo≤1099511627776 by omega),Bool.and_false];rfl
    rw[e];exact trivial
   ·have h3:=of_decide_eq_false h3;have e:saidM true mo 0=mo:=by unfold saidM;rw[decide_eq_true (show 1≤mo by omega),decide_eq_true (show mo≤1099511627776 by omega)];rfl
    rw[e,beq_self_eq_true];exact trivial
end Go.Proofs.YtmcdajbfomngcaaDoor
namespace Go.Proofs.YtmcdajbfomngcaaDoor
open Go Go.Vm Go.RowKit
open Go.ChangeShapes Go.WideShapes Go.ChangeAt
set_option linter.unusedVariables false
set_option linter.unusedSectionVars false
set_option maxRecDepth 100000
def capsSh:Sh:=.agg [.bool,.bool,.bool,.bool,.bool,.bool,.int .i64]
theorem capsSh_ok:shOk Tryd.prog 9 capsSh 34=true:=by kernel_rfl
def IsCaps(w:World)(v:Value):Prop:=∃st pi rq ds eb si mo,@real gl (Frz.of w) [] (.agg [.bool st,.bool pi,.bool rq,.bool ds,.bool eb,.bool si,.int .i64 mo])=some v∧(Lit.int .i64 mo).wf=true
theorem open_Caps{H:Type}{enc:TypeId×Value→H}{W:World}{b0:Nat}{r:Reach}{v:Value}{d:DataW H}{ps:List MemPlace}
  (hval:Value.okWide Tryd.prog W r b0 34 v)(hd:DataW.Trod enc Tryd.prog W 0 (fun _=>true) true 34 v d ps):IsCaps W v:=by
 obtain⟨cs,rfl,_⟩:=okWide_struct Tryd.underlying34 hval;obtain⟨fuel,hf⟩:=hd;obtain⟨dd,h1,h2⟩:=@open_sh gl _ _ _ _ _ _ _ 9 capsSh 34 fuel _ _ capsSh_ok hf;obtain⟨l0_0,e0,g0_0⟩:=ofAgg h1;obtain⟨d0_0,l0_1,e0_0,a0_0,g0_1⟩:=all2_cons g0_0;obtain⟨d0_1,l0_2,e0_1,a0_1,g0_2⟩:=all2_cons g0_1;obtain⟨d0_2,l0_3,e0_2,a0_2,g0_3⟩:=all2_cons g0_2;obtain⟨d0_3,l0_4,e0_3,a0_3,g0_4⟩:=all2_cons g0_3;obtain⟨d0_4,l0_5,e0_4,a0_4,g0_5⟩:=all2_cons g0_4;obtain⟨d0_5,l0_6,e0_5,a0_5,g0_6⟩:=all2_cons g0_5;obtain⟨d0_6,l0_7,e0_6,a0_6,g0_7⟩:=all2_cons g0_6;have z0:=all2_nil g0_7;subst e0 e0_0 e0_1 e0_2 e0_3 e0_4 e0_5 e0_6 z0;obtain⟨st,q_st⟩:=ofBool a0_0;subst q_st;obtain⟨pi,q_pi⟩:=ofBool a0_1;subst q_pi;obtain⟨rq,q_rq⟩:=ofBool a0_2;subst q_rq;obtain⟨ds,q_ds⟩:=ofBool a0_3;subst q_ds;obtain⟨eb,q_eb⟩:=ofBool a0_4;subst q_eb;obtain⟨si,q_si⟩:=ofBool a0_5;subst q_si;obtain⟨mo,q_mo,w_mo⟩:=ofInt a0_6;subst q_mo;simp only[cellsD,cellsDs,List.append_nil,List.cons_append,List.nil_append]at h2;have h3:=@realL_of0 gl (Frz.of W) [] _ _ h2;refine⟨st,pi,rq,ds,eb,si,mo,?_,w_mo⟩;have h4:=@Go.Vm.real_agg_mk gl (Frz.of W) [] _ _ h3;rw[show(Value.agg cs).cells=cs from rfl,Array.toArray_toList]at h4;exact h4
theorem bytes_str{w:World}(s:ByteArray):@real gl (Frz.of w) [] (.str s.data.toList)=some (.string s):=by simp[real]
theorem capsBack_walk(a0:ByteArray)(v1:Value)(w:World)(w0:a0.size≤maxLen)(x1:IsCaps w v1)(hg:@GOk gl (Frz.of w) w.heap.size w):
  Calls Tryd.prog 6 #[.string a0,v1] w (fun e w'=>e=.returned (.bool true)∧Below w.heap.size w w'):=by
 obtain⟨st_1,pi_1,rq_1,ds_1,eb_1,si_1,mo_1,re1,hy_mo_1⟩:=x1;refine @frz_law gl Tryd.prog 6 [.str a0.data.toList,.agg [.bool st_1,.bool pi_1,.bool rq_1,.bool ds_1,.bool eb_1,.bool si_1,.int .i64 mo_1]] [.string a0,v1] w (@cb_close (Frz.of w) a0.data.toList st_1 pi_1 rq_1 ds_1 eb_1 si_1 mo_1 hy_mo_1) ?_ hg;simp only[realL,bytes_str,re1]
end Go.Proofs.YtmcdajbfomngcaaDoor
namespace Go.Proofs.YtmcdajbfomngcaaDoor
open Go Go.Vm Go.RowKit
open Go.ChangeShapes Go.WideShapes Go.ChangeAt Go.WideMaps Go.WideElems
set_option linter.unusedVariables false
set_option linter.unusedSectionVars false
set_option maxRecDepth 100000
variable [Φ:Frz]
def partsD:DataW Unit→List (DataW Unit)
 |.agg l=>l
 |_=>[]
def ofD:DataW Unit→V
 |.lit (.int k n)=>.int k n
 |_=>.bool false
theorem var_heap{P:Program}{w:World}{n:String}{g:Nat}{cs:Array Value}(hg:P.globalNamed n=some g)(h:w.var? P n=some cs):∃t fz,w.heap[g]?=some (.cells cs t fz):=by
 simp only[World.var?,hg,Option.bind_some]at h;split at h
 ·rename_i c t fz hb;cases h;exact⟨t,fz,hb⟩
 ·cases h
section
def Cells(W:World)(g:Nat)(C:List V):Prop:=∃arr t fz,W.heap[g]?=some (.cells arr t fz)∧(∀i v,C[i]?=some v→∃x,real [] v=some x∧arr[0+i]?=some x)∧arr.size=0+C.length
theorem int_cells{W:World}{n:String}{g t0 t e N f0:Nat}{k:IntKind}{C:List V}{d:DataW Unit}{cs0:Array Value}{p0:List MemPlace}{sp:Nat→Bool}{held:Bool}{enc:TypeId×Value→Unit}(hg:Tryd.prog.globalNamed n=some g)(hu:Tryd.prog.underlying t=some (.array N e))(hk:Tryd.prog.underlying e=some (.int k))(hw:Tryd.prog.cellsOf e=1)(hct:Tryd.prog.cellsOf t=N)
  (hd:d=.agg (partsD d))(hC:C=(partsD d).map ofD)(ht0:t0=t)(hv0:W.var? Tryd.prog n=some cs0)(hd0:DataW.trod enc Tryd.prog W 0 sp held f0 t0 cs0.toList=some (d,p0)):Cells W g C:=by
 subst ht0;obtain⟨ty,fz,hheap⟩:=var_heap hg hv0;obtain⟨xs,m1,rfl,hx1,hlen,hn,hel⟩:=DataW.trod_array hu hd0;rw[hd]at hx1;simp only[Prod.mk.injEq,DataW.agg.injEq]at hx1;have hD:=hx1.1;refine⟨cs0,ty,fz,hheap,fun i v hv=>?_,?_⟩
 ·rw[hC,hD,List.getElem?_map,List.getElem?_map]at hv;cases hxi:xs[i]? with
  |none=>rw[hxi]at hv;cases hv
  |some x=>
   rw[hxi]at hv;simp only[Option.map_some,Option.some.injEq]at hv;have hi:i<N:=by rw[←hn];exact(List.getElem?_eq_some_iff.1 hxi).1
   have h1:=hel i hi;rw[hxi,hw,Nat.mul_one]at h1;obtain⟨a,e0,e1,wa⟩:=DataW.trod_int hk h1;subst e1;simp only[ofD]at hv;subst hv;refine⟨.int k a,rfl,?_⟩;rw[Nat.zero_add];have e2:((cs0.toList.drop i).take 1)[0]?=some (Value.int k a):=by rw[e0];rfl
   rw[List.getElem?_take,if_pos (by omega),List.getElem?_drop,Nat.add_zero]at e2;simpa using e2
 ·rw[hC,hD,Nat.zero_add,List.length_map,List.length_map,hn,←hct];simpa using hlen
end
theorem plain_part{P:Program}{l:List (String×DataW Unit)}{w:World}(h:laidMetH P l w):laidMet P (l.filter fun x=>x.2.handleName?.isNone) w:=by
 unfold laidMetH at h;generalize hfl:(l.filter fun x=>x.2.handleName?.isSome)=fl at h;cases fl with
 |nil=>
  have e:(l.filter fun x=>x.2.handleName?.isNone)=l:=by
   rw[List.filter_eq_self];intro x hx;have:=(List.filter_eq_nil_iff.1 hfl) x hx;cases hn:x.2.handleName? with
   |none=>rfl
   |some s=>rw[hn]at this;exact absurd rfl this
  rw[e];exact h
 |cons a b=>exact h.1
theorem laid_var{P:Program}{w:World}{n:String}{d:DataW Unit}:∀{l:List (String×DataW Unit)} {ps:List MemPlace},DataW.LaidVars P w l ps→(n,d)∈l→∃g t cs fuel p,P.globalNamed n=some g∧(P.globals[g]?).map (·.type)=some t∧w.var? P n=some cs∧DataW.trod (fun _=>()) P w 0 (fun _=>true) false fuel t cs.toList=some (d,p)
 |[],_,_,h=>by cases h
 |(n',d')::r,ps,h,hm=>by
  obtain⟨g,t,cs,fuel,p,q,h1,h2,h3,h4,h5,_⟩:=h;rcases List.mem_cons.1 hm with e|hm
  ·cases e;exact⟨g,t,cs,fuel,p,h1,h2,h3,h4⟩
  ·exact laid_var h5 hm
theorem plain_var{P:Program}{l:List (String×DataW Unit)}{w:World}(h:laidMetH P l w){n:String}{d:DataW Unit}(hm:(n,d)∈l)(hn:d.handleName?.isNone=true):∃g t cs fuel p,P.globalNamed n=some g∧(P.globals[g]?).map (·.type)=some t∧w.var? P n=some cs∧DataW.trod (fun _=>()) P w 0 (fun _=>true) false fuel t cs.toList=some (d,p):=by
 obtain⟨ps,hl,_,_⟩:=plain_part h;exact laid_var hl (List.mem_filter.2 ⟨hm,hn⟩)
theorem own:ownKnob Tryd.prog.godebug=none:=by kernel_rfl
theorem cells_6{W:World}(h:laidMetH Tryd.prog Rows.capsBackRow.laid W):Cells W 6 powC:=by
 have hm:("internal/strconv.uint64pow10",(Rows.laid_internal_strconv_uint64pow10:DataW Unit))∈Rows.capsBackRow.laid:=List.mem_of_getElem? (i:=2) rfl;obtain⟨g,t,cs,fuel,p,h1,h2,h3,h4⟩:=plain_var h hm rfl;have e1:Tryd.prog.globalNamed "internal/strconv.uint64pow10"=some 6:=by kernel_rfl
 obtain rfl:=Option.some.inj (e1.symm.trans h1);have e2:(Tryd.prog.globals[6]?).map (·.type)=some 142:=by kernel_rfl
 exact int_cells (n:= "internal/strconv.uint64pow10") (t:=142) (e:=30) (N:=20) (k:=.u64) e1 (by kernel_rfl) (by kernel_rfl) (by kernel_rfl) (by kernel_rfl) rfl (by kernel_rfl) (Option.some.inj (e2.symm.trans h2)).symm h3 h4
theorem cells_2{W:World}(h:laidMetH Tryd.prog Rows.capsBackRow.laid W):Cells W 2 firstC:=by
 have hm:("unicode/utf8.first",(Rows.laid_unicode_utf8_first:DataW Unit))∈Rows.capsBackRow.laid:=List.mem_of_getElem? (i:=6) rfl;obtain⟨g,t,cs,fuel,p,h1,h2,h3,h4⟩:=plain_var h hm rfl;have e1:Tryd.prog.globalNamed "unicode/utf8.first"=some 2:=by kernel_rfl
 obtain rfl:=Option.some.inj (e1.symm.trans h1);have e2:(Tryd.prog.globals[2]?).map (·.type)=some 117:=by kernel_rfl
 exact int_cells (n:= "unicode/utf8.first") (t:=117) (e:=5) (N:=256) (k:=.u8) e1 (by kernel_rfl) (by kernel_rfl) (by kernel_rfl) (by kernel_rfl) rfl (by kernel_rfl) (Option.some.inj (e2.symm.trans h2)).symm h3 h4
theorem cells_3{W:World}(h:laidMetH Tryd.prog Rows.capsBackRow.laid W):Cells W 3 accC:=by
 have hm:("unicode/utf8.acceptRanges",(Rows.laid_unicode_utf8_acceptRanges:DataW Unit))∈Rows.capsBackRow.laid:=List.mem_of_getElem? (i:=3) rfl;obtain⟨g,t,cs,fuel,p,h1,h2,h3,h4⟩:=plain_var h hm rfl;have e1:Tryd.prog.globalNamed "unicode/utf8.acceptRanges"=some 3:=by kernel_rfl
 obtain rfl:=Option.some.inj (e1.symm.trans h1);have e2:(Tryd.prog.globals[3]?).map (·.type)=some 120:=by kernel_rfl
 obtain rfl:=Option.some.inj (e2.symm.trans h2);obtain⟨ty,fz,hheap⟩:=var_heap e1 h3;obtain⟨xs,m1,rfl,hx1,hlen,hn,hel⟩:=DataW.trod_array (n:=16) (e:=119) (by kernel_rfl) h4;have eD:(Rows.laid_unicode_utf8_acceptRanges:DataW Unit)=.agg ((List.range 16).map fun i=>.agg [.lit (.int .u8 (Lib.accLo i)),.lit (.int .u8 (Lib.accHi i))]):=by kernel_rfl
 rw[eD]at hx1;simp only[Prod.mk.injEq,DataW.agg.injEq]at hx1;have hD:=hx1.1;have hsz:cs.size=32:=by
  have hc:Tryd.prog.cellsOf 120=32:=by kernel_rfl
  rw[hc]at hlen;simpa using hlen
 have hc2:Tryd.prog.cellsOf 119=2:=by kernel_rfl
 have both:∀i,i<16→cs[2*i]?=some (.int .u8 (Lib.accLo i))∧cs[2*i+1]?=some (.int .u8 (Lib.accHi i)):=by
  intro i hi;have h1:=hel i hi;rw[hc2]at h1;have h5:((List.range 16).map fun i=>(DataW.agg [.lit (.int .u8 (Lib.accLo i)),.lit (.int .u8 (Lib.accHi i))]:DataW Unit))[i]?=some (.agg [.lit (.int .u8 (Lib.accLo i)),.lit (.int .u8 (Lib.accHi i))]):=by
   rw[List.getElem?_map,List.getElem?_range hi];rfl
  rw[hD,List.getElem?_map]at h5;cases hxi:xs[i]? with
  |none=>rw[hxi]at h5;cases h5
  |some x=>
   rw[hxi]at h5 h1;simp only[Option.map_some,Option.some.injEq]at h5;obtain⟨y0,y1,n,rfl,hl,q0,q1⟩:=trod_struct2 Tryd.underlying119 h1;simp only[DataW.agg.injEq,List.cons.injEq,and_true]at h5;have c5:Tryd.prog.cellsOf 5=1:=by kernel_rfl
   replace q0:DataW.trod (fun _=>()) Tryd.prog W 0 (fun _=>true) false n 5 ((((cs.toList.drop (i*2)).take 2).drop 0).take (Tryd.prog.cellsOf 5))=some y0:=q0;replace q1:DataW.trod (fun _=>()) Tryd.prog W 0 (fun _=>true) false n 5 ((((cs.toList.drop (i*2)).take 2).drop 1).take (Tryd.prog.cellsOf 5))=some y1:=q1;rw[c5]at q0 q1;obtain⟨a,e0,e1,wa⟩:=DataW.trod_int (k:=.u8) (by kernel_rfl) q0;obtain⟨b,e2,e3,wb⟩:=DataW.trod_int (k:=.u8) (by kernel_rfl) q1;subst e1;subst e3;simp only[DataW.lit.injEq,Lit.int.injEq,true_and]at h5;obtain⟨ha,hb⟩:=h5;subst ha;subst hb;have e2':((((cs.toList.drop (i*2)).take 2).drop 0).take 1)[0]?=some (Value.int .u8 (Lib.accLo i)):=by rw[e0];rfl
   have e3':((((cs.toList.drop (i*2)).take 2).drop 1).take 1)[0]?=some (Value.int .u8 (Lib.accHi i)):=by rw[e2];rfl
   simp only[List.getElem?_take,List.getElem?_drop]at e2' e3';have m2:i*2=2*i:=by omega
   constructor
   ·simpa[m2]using e2'
   ·simpa[m2]using e3'
 refine⟨cs,ty,fz,hheap,fun i v hv=>?_,by rw[hsz];kernel_rfl⟩;have hi:i<32:=by
  have hl:accC.length=32:=by kernel_rfl
  rw[←hl];exact(List.getElem?_eq_some_iff.1 hv).1
 rw[Nat.zero_add];rcases(show(∃j,j<16∧i=2*j)∨(∃j,j<16∧i=2*j+1) by
  rcases Nat.mod_two_eq_zero_or_one i with h0|h0
  ·exact .inl ⟨i/2,by omega,by omega⟩
  ·exact .inr ⟨i/2,by omega,by omega⟩)with⟨j,hj,rfl⟩|⟨j,hj,rfl⟩
 ·have:=(pairs_get (f:=fun i=>V.int .u8 (Lib.accLo i)) (g:=fun i=>V.int .u8 (Lib.accHi i)) hj).1;have e:=this.symm.trans hv;cases e;exact⟨_,rfl,(both j hj).1⟩
 ·have:=(pairs_get (f:=fun i=>V.int .u8 (Lib.accLo i)) (g:=fun i=>V.int .u8 (Lib.accHi i)) hj).2;have e:=this.symm.trans hv;cases e;exact⟨_,rfl,(both j hj).2⟩
theorem laid_var2{P:Program}{w:World}{n:String}{d:DataW Unit}:∀{l:List (String×DataW Unit)} {ps:List MemPlace},DataW.LaidVars P w l ps→(n,d)∈l→∃g t cs fuel p,P.globalNamed n=some g∧(P.globals[g]?).map (·.type)=some t∧w.var? P n=some cs∧DataW.trod (fun _=>()) P w 0 (fun _=>true) false fuel t cs.toList=some (d,p)∧∀i,i<cs.size→MemPlace.cell g i∈ps
 |[],_,_,h=>by cases h
 |(n',d')::r,ps,h,hm=>by
  obtain⟨g,t,cs,fuel,p,q,h1,h2,h3,h4,h5,h6⟩:=h;rcases List.mem_cons.1 hm with e|hm
  ·cases e;refine⟨g,t,cs,fuel,p,h1,h2,h3,h4,fun i hi=>?_⟩;rw[h6];refine List.mem_append_left _ (List.mem_append_left _ ?_);exact List.mem_map.2 ⟨i,List.mem_range.2 hi,by simp⟩
  ·obtain⟨g2,t2,cs2,fuel2,p2,k1,k2,k3,k4,k5⟩:=laid_var2 h5 hm;exact⟨g2,t2,cs2,fuel2,p2,k1,k2,k3,k4,fun i hi=>by rw[h6];exact List.mem_append_right _ (k5 i hi)⟩
theorem trod_iface{P:Program}{w:World}{base:Nat}{sp:Nat→Bool}{fuel:Nat}{t:TypeId}{cs:List Value}{enc:TypeId×Value→Unit}{name:String}{d:DataW Unit}{p:List MemPlace}(ht:∃ms,P.underlying t=some (.interface ms))(h:DataW.trod enc P w base sp false fuel t cs=some (.iface name d,p)):
  ∃u v m,cs=[.iface u v]∧P.typeName? 3 u=some name∧DataW.trod enc P w base sp false m u v.cells.toList=some (d,p):=by
 obtain⟨ms,ht⟩:=ht;cases fuel with
 |zero=>simp[DataW.trod]at h
 |succ n=>
  unfold DataW.trod at h;rw[ht]at h;split at h<;>simp_all;rename_i u v hh;cases hn:P.typeName? 3 u with
  |none=>rw[hn]at h;simp at h
  |some nm=>
   rw[hn]at h;simp only[Option.map_eq_some_iff]at h;obtain⟨x,hx,he⟩:=h;simp only[Prod.mk.injEq,DataW.iface.injEq]at he;obtain⟨⟨rfl,rfl⟩,rfl⟩:=he;refine⟨u,v,?_⟩
   first|exact⟨⟨rfl,rfl⟩,hn,n,hx⟩|exact⟨n,⟨rfl,rfl⟩,hn,hx⟩|exact⟨rfl,hn,n,hx⟩|exact⟨n,rfl,hn,hx⟩|exact⟨n,by simp,hn,hx⟩
theorem trod_ptr_of{P:Program}{w:World}{base:Nat}{sp:Nat→Bool}{held:Bool}{fuel:Nat}{t:TypeId}{cs:List Value}{enc:TypeId×Value→Unit}{d:DataW Unit}{p:List MemPlace}(h:DataW.trod enc P w base sp held fuel t cs=some (.ptr d,p)):∃e,P.underlying t=some (.pointer e):=by
 cases fuel with
 |zero=>simp[DataW.trod]at h
 |succ n=>
  unfold DataW.trod at h;cases hu:P.underlying t with
  |none=>rw[hu]at h;simp at h
  |some u=>
   rw[hu]at h;cases u with
   |pointer e=>exact⟨e,rfl⟩
   |_=>
    exfalso;revert h;simp only
    repeat' split
    all_goals (intro h;simp_all [Option.bind_eq_some_iff])
theorem trod_lit_nil{P:Program}{w:World}{base:Nat}{sp:Nat→Bool}{held:Bool}{fuel:Nat}{t:TypeId}{enc:TypeId×Value→Unit}{l:Lit}{p:List MemPlace}(h:DataW.trod enc P w base sp held fuel t []=some (.lit l,p)):False:=by
 cases fuel with
 |zero=>simp[DataW.trod]at h
 |succ n=>
  unfold DataW.trod at h;cases hu:P.underlying t with
  |none=>rw[hu]at h;simp at h
  |some u=>
   rw[hu]at h;revert h;simp only
   repeat' split
   all_goals (intro h;simp_all [Option.bind_eq_some_iff])
theorem mapM_one{α β:Type}{f:α→Option β}:∀{l:List α} {y:β},l.mapM f=some [y]→∃x,f x=some y
 |[],y,h=>by simp at h
 |x::l,y,h=>by
  simp only[List.mapM_cons,Option.bind_eq_bind,Option.bind_eq_some_iff,Option.pure_def,Option.some.injEq,List.cons.injEq]at h;obtain⟨a,ha,b,hb,rfl,rfl⟩:=h;exact⟨x,ha⟩
theorem trod_agg_nil{P:Program}{w:World}{base:Nat}{sp:Nat→Bool}{held:Bool}{fuel:Nat}{t:TypeId}{enc:TypeId×Value→Unit}{l:Lit}{p:List MemPlace}(h:DataW.trod enc P w base sp held fuel t []=some (.agg [.lit l],p)):False:=by
 cases fuel with
 |zero=>simp[DataW.trod]at h
 |succ n=>
  unfold DataW.trod at h;cases hu:P.underlying t with
  |none=>rw[hu]at h;simp at h
  |some u=>
   rw[hu]at h;cases u with
   |struct fs=>
    simp only at h;split at h
    ·simp only[List.drop_nil,List.take_nil,Option.map_eq_some_iff,Prod.mk.injEq,DataW.agg.injEq]at h;obtain⟨xs,hx,h1,_⟩:=h
     match xs,hx,h1 with
     |[(y,q)],hx,h1=>
      simp only[List.map_cons,List.map_nil,List.cons.injEq,and_true]at h1;subst h1;obtain⟨x,hx⟩:=mapM_one hx;exact trod_lit_nil hx
     |[],hx,h1=>simp at h1
     |a::b::r,hx,h1=>simp at h1
    ·cases h
   |array k e=>
    simp only at h;split at h
    ·simp only[List.drop_nil,List.take_nil,Option.map_eq_some_iff,Prod.mk.injEq,DataW.agg.injEq]at h;obtain⟨xs,hx,h1,_⟩:=h
     match xs,hx,h1 with
     |[(y,q)],hx,h1=>
      simp only[List.map_cons,List.map_nil,List.cons.injEq,and_true]at h1;subst h1;obtain⟨x,hx⟩:=mapM_one hx;exact trod_lit_nil hx
     |[],hx,h1=>simp at h1
     |a::b::r,hx,h1=>simp at h1
    ·cases h
   |_=>
    exfalso;revert h;simp only
    repeat' split
    all_goals (intro h;simp_all [Option.bind_eq_some_iff])
set_option maxRecDepth 100000 in
theorem err_cell{W:World}(h:laidMetH Tryd.prog Rows.capsBackRow.laid W):∃tp b o arr t fz,W.heap[5]?=some (.cells arr t fz)∧arr[0]?=some (.iface tp (.pointer (some ⟨b,o,none⟩))):=by
 have hm:("strconv.ErrRange",(Rows.laid_strconv_ErrRange:DataW Unit))∈Rows.capsBackRow.laid:=List.mem_of_getElem? (i:=4) rfl;obtain⟨ps,hl,_,hw⟩:=plain_part h;obtain⟨g,t,cs,fuel,p,h1,h2,h3,h4,h5⟩:=laid_var2 hl (List.mem_filter.2 ⟨hm,rfl⟩);have e1:Tryd.prog.globalNamed "strconv.ErrRange"=some 5:=by kernel_rfl
 obtain rfl:=Option.some.inj (e1.symm.trans h1);have e2:(Tryd.prog.globals[5]?).map (·.type)=some 70:=by kernel_rfl
 obtain rfl:=Option.some.inj (e2.symm.trans h2);obtain⟨ty,fz,hheap⟩:=var_heap e1 h3;have eD:∃nm l,(Rows.laid_strconv_ErrRange:DataW Unit)=.iface nm (.ptr (.agg [.lit l])):=⟨_,_,rfl⟩;obtain⟨nm,lt,eD⟩:=eD;rw[eD]at h4;obtain⟨u,v,m,hcs,hname,htr⟩:=trod_iface ⟨_,Tryd.underlying70⟩ h4;obtain⟨e,hue⟩:=trod_ptr_of htr;have hsz:cs.size=1:=by have:=congrArg List.length hcs;simpa using this
 have hcs':cs=#[.iface u v]:=Array.toList_inj.1 hcs;have hc0:W.cell? ⟨5,0,none⟩=some (.iface u v):=by
  subst hcs';rw[cell_of_row W 5 0 _ ty fz hheap];rfl
 have hok:=(hw 5 0 (h5 0 (by omega))).2 _ _ hc0;obtain⟨a,rfl⟩:=okWide_pointer hue hok;have hc1:(Value.pointer a).cells.toList=[.pointer a]:=rfl;rw[hc1]at htr;rcases DataW.trod_pointer hue htr with⟨_,hx⟩|⟨ad,cs',y,n,_,hp,hx,hcells,hy⟩
 ·simp at hx
 ·simp only[List.cons.injEq,Value.pointer.injEq,and_true]at hp;subst hp;simp only[Prod.mk.injEq,DataW.ptr.injEq]at hx;have hsp:ad.spot=none:=by
   unfold World.cells? at hcells;split at hcells
   ·cases hw1:Tryd.prog.cellsOf e with
    |zero=>
     rw[hw1]at hcells;simp at hcells;subst hcells;obtain⟨y1,y2⟩:=y;simp only at hx;rw[←hx.1]at hy;exact absurd hy (fun hy=>trod_agg_nil hy)
    |succ k=>
     rw[hw1,List.range_succ_eq_map,List.mapM_cons]at hcells;have e0:ad.add 0=ad:=by simp[Addr.add]
     rw[e0]at hcells;cases hcc:W.cell? ad with
     |none=>rw[hcc]at hcells;simp at hcells
     |some c=>
      unfold World.cell? at hcc;split at hcc
      ·cases hs:ad.spot with
       |none=>rfl
       |some s=>simp[hs]at hcc
      ·cases hcc
   ·cases hcells
  refine⟨u,ad.block,ad.off,cs,ty,fz,hheap,?_⟩;subst hcs';obtain⟨b,o,s⟩:=ad;simp only at hsp;subst hsp;rfl
theorem laid_gok{W:World}(hΦ:∀k o,Φ.φ k=some o→W.heap[k]?=some o)(h:laidMetH Tryd.prog Rows.capsBackRow.laid W):GOk W.heap.size W:=by
 have low:∀{g:Nat} {C:List V},Cells W g C→g<W.heap.size:=fun⟨_,_,_,hh,_⟩=>(Array.getElem?_eq_some_iff.1 hh).1;have fin:∀{g:Nat} {C:List V} {b:Bool},Cells W g C→g<W.heap.size∧∃arr t fz,W.heap[g]?=some (.cells arr t fz)∧(∀i v,C[i]?=some v→∃x,real [] v=some x∧arr[0+i]?=some x)∧(b=true→arr.size=0+C.length):=fun hc=>by
  obtain⟨arr,t,fz,h1,h2,h3⟩:=hc;exact⟨(Array.getElem?_eq_some_iff.1 h1).1,arr,t,fz,h1,h2,fun _=>h3⟩
 refine⟨fun k cs hk=>?_,fun k hk=>?_,fun k o hk=>⟨(Array.getElem?_eq_some_iff.1 (hΦ k o hk)).1,hΦ k o hk⟩⟩
 ·by_cases e2:k=2
  ·subst e2;cases hk;exact fin (cells_2 h)
  by_cases e3:k=3
  ·subst e3;cases hk;exact fin (cells_3 h)
  by_cases e6:k=6
  ·subst e6;cases hk;exact fin (cells_6 h)
  exfalso;revert hk;rcases k with _|_|_|_|_|_|_|_|_|_|k<;>intro hk<;>first|(cases hk;done)|omega
 ·by_cases e5:k=5
  ·subst e5;obtain⟨tp,b,o,arr,t,fz,hheap,harr⟩:=err_cell h;exact⟨(Array.getElem?_eq_some_iff.1 hheap).1,arr,t,fz,_,hheap,harr,.inr ⟨_,_,rfl⟩⟩
  exfalso;revert hk;rcases k with _|_|_|_|_|_|_|_|_|_|k<;>intro hk<;>first|(cases hk;done)|omega
end Go.Proofs.YtmcdajbfomngcaaDoor
