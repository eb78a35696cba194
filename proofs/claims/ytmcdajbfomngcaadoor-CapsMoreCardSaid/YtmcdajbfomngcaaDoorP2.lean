/- Parts of this work: what the functions come to. -/
import Derived.Test.YtmcdajbfomngcaaDoorP1
import Derived.Test.YtmcdajbfomngcaaDoorWorks06
import Derived.Test.YtmcdajbfomngcaaDoorVmc
import Derived.Test.YtmcdajbfomngcaaDoorRows
import Derived.WalkKit
import Derived.ProofKit
import Derived.OpenShut
import Derived.ShutString
import Derived.SizedLaws
import Derived.LaidMore
import Derived.Stop.Joined
import Derived.LaidHandle
namespace Go.Proofs.YtmcdajbfomngcaaDoor
open Go Go.Vm Go.RowKit
set_option linter.unusedVariables false
set_option maxRecDepth 100000
set_option linter.unusedSectionVars false
variable [Φ:Frz]
noncomputable def CMT(LOK LB OK:V→St→Bool)(LV:V→St→CP)(UC:CP→CP→CP):Tab:=⟨addT (addP noT 18 worksF) 26 (uniTG UC),addS (addS noL 19 (loGV LOK LB)) 21 (olGV OK LV),noLks 9⟩
theorem CMT_ok:TabOk3 Tryd.prog (CMT loOK loB olOK olV uniC):=⟨addT_ok (addP_ok noT_ok worksF_ok) uni_ok,addS_ok (addS_ok noL_ok loG_ok) olGV_ok,noLks_ok 9⟩
theorem cm_law(LOK LB OK:V→St→Bool)(LV:V→St→CP)(UC:CP→CP→CP)(x:Value)(n:Nat)(cs:List V)(y:Value)(m:Nat)(ds:List V)(R:V→Prop):runW Tryd.prog (CMT LOK LB OK LV UC) 9 10 7 [.lst x n cs,.lst y m ds] R=
  (
 bif LOK (V.lst x n cs) []then bif LB (V.lst x n cs) []then R (V.bool true)else bif LOK (V.lst y m ds) []then bif LB (V.lst y m ds) []then R (V.bool true)else bif OK
 (V.lst x n cs) []then bif OK (V.lst y m ds) []then bif n.beq 0 then bif m.beq 0 then bif OK (V.slice 0 0 0 false 0 0) [Blk.row [] 9 1]then bif isI64 (LV (V.lst y m ds)
 []).mo then bif (LV (V.slice 0 0 0 false 0 0) [Blk.row [] 9 1]).st==(UC {st:=(LV (V.lst x n cs) []).st,pi:=(LV (V.lst x n cs) []).pi,rq:=(LV (V.lst x n cs) []).rq,ds:=(LV (V.lst x n cs) []).ds,eb:=(LV (V.lst x n cs) []).eb,si:=(LV (V.lst x n cs) []).si,mo:=(LV (V.lst x n cs) []).mo}
 {st:=(LV (V.lst y m ds) []).st,pi:=(LV (V.lst y m ds) []).pi,rq:=(LV (V.lst y m ds) []).rq,ds:=(LV (V.lst y m ds) []).ds,eb:=(LV (V.lst y m ds) []).eb,si:=(LV (V.lst y m ds) []).si,mo:=(LV (V.lst y m ds) []).mo}).st
 then bif (LV (V.slice 0 0 0 false 0 0) [Blk.row [] 9 1]).pi==(UC {st:=(LV (V.lst x n cs) []).st,pi:=(LV (V.lst x n cs) []).pi,rq:=(LV (V.lst x n cs) []).rq,ds:=(LV (V.lst x n cs) []).ds,eb:=(LV (V.lst x n cs) []).eb,si:=(LV (V.lst x n cs) []).si,mo:=(LV (V.lst x n cs) []).mo}
 {st:=(LV (V.lst y m ds) []).st,pi:=(LV (V.lst y m ds) []).pi,rq:=(LV (V.lst y m ds) []).rq,ds:=(LV (V.lst y m ds) []).ds,eb:=(LV (V.lst y m ds) []).eb,si:=(LV (V.lst y m ds) []).si,mo:=(LV (V.lst y m ds) []).mo}).pi
 then bif (LV (V.slice 0 0 0 false 0 0) [Blk.row [] 9 1]).rq==(UC {st:=(LV (V.lst x n cs) []).st,pi:=(LV (V.lst x n cs) []).pi,rq:=(LV (V.lst x n cs) []).rq,ds:=(LV (V.lst x n cs) []).ds,eb:=(LV (V.lst x n cs) []).eb,si:=(LV (V.lst x n cs) []).si,mo:=(LV (V.lst x n cs) []).mo}
 {st:=(LV (V.lst y m ds) []).st,pi:=(LV (V.lst y m ds) []).pi,rq:=(LV (V.lst y m ds) []).rq,ds:=(LV (V.lst y m ds) []).ds,eb:=(LV (V.lst y m ds) []).eb,si:=(LV (V.lst y m ds) []).si,mo:=(LV (V.lst y m ds) []).mo}).rq
 then bif (LV (V.slice 0 0 0 false 0 0) [Blk.row [] 9 1]).ds==(UC {st:=(LV (V.lst x n cs) []).st,pi:=(LV (V.lst x n cs) []).pi,rq:=(LV (V.lst x n cs) []).rq,ds:=(LV (V.lst x n cs) []).ds,eb:=(LV (V.lst x n cs) []).eb,si:=(LV (V.lst x n cs) []).si,mo:=(LV (V.lst x n cs) []).mo}
 {st:=(LV (V.lst y m ds) []).st,pi:=(LV (V.lst y m ds) []).pi,rq:=(LV (V.lst y m ds) []).rq,ds:=(LV (V.lst y m ds) []).ds,eb:=(LV (V.lst y m ds) []).eb,si:=(LV (V.lst y m ds) []).si,mo:=(LV (V.lst y m ds) []).mo}).ds
 then bif (LV (V.slice 0 0 0 false 0 0) [Blk.row [] 9 1]).eb==(UC {st:=(LV (V.lst x n cs) []).st,pi:=(LV (V.lst x n cs) []).pi,rq:=(LV (V.lst x n cs) []).rq,ds:=(LV (V.lst x n cs) []).ds,eb:=(LV (V.lst x n cs) []).eb,si:=(LV (V.lst x n cs) []).si,mo:=(LV (V.lst x n cs) []).mo}
 {st:=(LV (V.lst y m ds) []).st,pi:=(LV (V.lst y m ds) []).pi,rq:=(LV (V.lst y m ds) []).rq,ds:=(LV (V.lst y m ds) []).ds,eb:=(LV (V.lst y m ds) []).eb,si:=(LV (V.lst y m ds) []).si,mo:=(LV (V.lst y m ds) []).mo}).eb
 then bif (LV (V.slice 0 0 0 false 0 0) [Blk.row [] 9 1]).si==(UC {st:=(LV (V.lst x n cs) []).st,pi:=(LV (V.lst x n cs) []).pi,rq:=(LV (V.lst x n cs) []).rq,ds:=(LV (V.lst x n cs) []).ds,eb:=(LV (V.lst x n cs) []).eb,si:=(LV (V.lst x n cs) []).si,mo:=(LV (V.lst x n cs) []).mo}
 {st:=(LV (V.lst y m ds) []).st,pi:=(LV (V.lst y m ds) []).pi,rq:=(LV (V.lst y m ds) []).rq,ds:=(LV (V.lst y m ds) []).ds,eb:=(LV (V.lst y m ds) []).eb,si:=(LV (V.lst y m ds) []).si,mo:=(LV (V.lst y m ds) []).mo}).si
 then bif (LV (V.slice 0 0 0 false 0 0) [Blk.row [] 9 1]).mo==(UC {st:=(LV (V.lst x n cs) []).st,pi:=(LV (V.lst x n cs) []).pi,rq:=(LV (V.lst x n cs) []).rq,ds:=(LV (V.lst x n cs) []).ds,eb:=(LV (V.lst x n cs) []).eb,si:=(LV (V.lst x n cs) []).si,mo:=(LV (V.lst x n cs) []).mo}
 {st:=(LV (V.lst y m ds) []).st,pi:=(LV (V.lst y m ds) []).pi,rq:=(LV (V.lst y m ds) []).rq,ds:=(LV (V.lst y m ds) []).ds,eb:=(LV (V.lst y m ds) []).eb,si:=(LV (V.lst y m ds) []).si,mo:=(LV (V.lst y m ds) []).mo}).mo
 then bif isI64 (LV (V.lst x n cs) []).mo then bif (UC {st:=(LV (V.lst x n cs) []).st,pi:=(LV (V.lst x n cs) []).pi,rq:=(LV (V.lst x n cs) []).rq,ds:=(LV (V.lst x n cs) []).ds,eb:=(LV (V.lst x n cs) []).eb,si:=(LV (V.lst x n cs) []).si,mo:=(LV (V.lst x n cs) []).mo}
 {st:=(LV (V.lst x n cs) []).st,pi:=(LV (V.lst x n cs) []).pi,rq:=(LV (V.lst x n cs) []).rq,ds:=(LV (V.lst x n cs) []).ds,eb:=(LV (V.lst x n cs) []).eb,si:=(LV (V.lst x n cs) []).si,mo:=(LV (V.lst x n cs) []).mo}).st
 ==(LV (V.lst x n cs) []).st then bif (UC {st:=(LV (V.lst x n cs) []).st,pi:=(LV (V.lst x n cs) []).pi,rq:=(LV (V.lst x n cs) []).rq,ds:=(LV (V.lst x n cs) []).ds,eb:=(LV (V.lst x n cs) []).eb,si:=(LV (V.lst x n cs) []).si,mo:=(LV (V.lst x n cs) []).mo}
 {st:=(LV (V.lst x n cs) []).st,pi:=(LV (V.lst x n cs) []).pi,rq:=(LV (V.lst x n cs) []).rq,ds:=(LV (V.lst x n cs) []).ds,eb:=(LV (V.lst x n cs) []).eb,si:=(LV (V.lst x n cs) []).si,mo:=(LV (V.lst x n cs) []).mo}).pi
 ==(LV (V.lst x n cs) []).pi then bif (UC {st:=(LV (V.lst x n cs) []).st,pi:=(LV (V.lst x n cs) []).pi,rq:=(LV (V.lst x n cs) []).rq,ds:=(LV (V.lst x n cs) []).ds,eb:=(LV (V.lst x n cs) []).eb,si:=(LV (V.lst x n cs) []).si,mo:=(LV (V.lst x n cs) []).mo}
 {st:=(LV (V.lst x n cs) []).st,pi:=(LV (V.lst x n cs) []).pi,rq:=(LV (V.lst x n cs) []).rq,ds:=(LV (V.lst x n cs) []).ds,eb:=(LV (V.lst x n cs) []).eb,si:=(LV (V.lst x n cs) []).si,mo:=(LV (V.lst x n cs) []).mo}).rq
 ==(LV (V.lst x n cs) []).rq then bif (UC {st:=(LV (V.lst x n cs) []).st,pi:=(LV (V.lst x n cs) []).pi,rq:=(LV (V.lst x n cs) []).rq,ds:=(LV (V.lst x n cs) []).ds,eb:=(LV (V.lst x n cs) []).eb,si:=(LV (V.lst x n cs) []).si,mo:=(LV (V.lst x n cs) []).mo}
 {st:=(LV (V.lst x n cs) []).st,pi:=(LV (V.lst x n cs) []).pi,rq:=(LV (V.lst x n cs) []).rq,ds:=(LV (V.lst x n cs) []).ds,eb:=(LV (V.lst x n cs) []).eb,si:=(LV (V.lst x n cs) []).si,mo:=(LV (V.lst x n cs) []).mo}).ds
 ==(LV (V.lst x n cs) []).ds then bif (UC {st:=(LV (V.lst x n cs) []).st,pi:=(LV (V.lst x n cs) []).pi,rq:=(LV (V.lst x n cs) []).rq,ds:=(LV (V.lst x n cs) []).ds,eb:=(LV (V.lst x n cs) []).eb,si:=(LV (V.lst x n cs) []).si,mo:=(LV (V.lst x n cs) []).mo}
 {st:=(LV (V.lst x n cs) []).st,pi:=(LV (V.lst x n cs) []).pi,rq:=(LV (V.lst x n cs) []).rq,ds:=(LV (V.lst x n cs) []).ds,eb:=(LV (V.lst x n cs) []).eb,si:=(LV (V.lst x n cs) []).si,mo:=(LV (V.lst x n cs) []).mo}).eb
 ==(LV (V.lst x n cs) []).eb then bif (UC {st:=(LV (V.lst x n cs) []).st,pi:=(LV (V.lst x n cs) []).pi,rq:=(LV (V.lst x n cs) []).rq,ds:=(LV (V.lst x n cs) []).ds,eb:=(LV (V.lst x n cs) []).eb,si:=(LV (V.lst x n cs) []).si,mo:=(LV (V.lst x n cs) []).mo}
 {st:=(LV (V.lst x n cs) []).st,pi:=(LV (V.lst x n cs) []).pi,rq:=(LV (V.lst x n cs) []).rq,ds:=(LV (V.lst x n cs) []).ds,eb:=(LV (V.lst x n cs) []).eb,si:=(LV (V.lst x n cs) []).si,mo:=(LV (V.lst x n cs) []).mo}).si
 ==(LV (V.lst x n cs) []).si then bif (UC {st:=(LV (V.lst x n cs) []).st,pi:=(LV (V.lst x n cs) []).pi,rq:=(LV (V.lst x n cs) []).rq,ds:=(LV (V.lst x n cs) []).ds,eb:=(LV (V.lst x n cs) []).eb,si:=(LV (V.lst x n cs) []).si,mo:=(LV (V.lst x n cs) []).mo}
 {st:=(LV (V.lst x n cs) []).st,pi:=(LV (V.lst x n cs) []).pi,rq:=(LV (V.lst x n cs) []).rq,ds:=(LV (V.lst x n cs) []).ds,eb:=(LV (V.lst x n cs) []).eb,si:=(LV (V.lst x n cs) []).si,mo:=(LV (V.lst x n cs) []).mo}).mo
 ==(LV (V.lst x n cs) []).mo then bif (UC {st:=(LV (V.lst x n cs) []).st,pi:=(LV (V.lst x n cs) []).pi,rq:=(LV (V.lst x n cs) []).rq,ds:=(LV (V.lst x n cs) []).ds,eb:=(LV (V.lst x n cs) []).eb,si:=(LV (V.lst x n cs) []).si,mo:=(LV (V.lst x n cs) []).mo}
 {st:=false,pi:=false,rq:=false,ds:=false,eb:=false,si:=false,mo:=0}).st==(LV (V.lst x n cs) []).st then bif (UC {st:=(LV (V.lst x n cs) []).st,pi:=(LV (V.lst x n cs) []).pi,rq:=(LV (V.lst x n cs) []).rq,ds:=(LV (V.lst x n cs) []).ds,eb:=(LV (V.lst x n cs) []).eb,si:=(LV (V.lst x n cs) []).si,mo:=(LV (V.lst x n cs) []).mo}
 {st:=false,pi:=false,rq:=false,ds:=false,eb:=false,si:=false,mo:=0}).pi==(LV (V.lst x n cs) []).pi then bif (UC {st:=(LV (V.lst x n cs) []).st,pi:=(LV (V.lst x n cs) []).pi,rq:=(LV (V.lst x n cs) []).rq,ds:=(LV (V.lst x n cs) []).ds,eb:=(LV (V.lst x n cs) []).eb,si:=(LV (V.lst x n cs) []).si,mo:=(LV (V.lst x n cs) []).mo}
 {st:=false,pi:=false,rq:=false,ds:=false,eb:=false,si:=false,mo:=0}).rq==(LV (V.lst x n cs) []).rq then bif (UC {st:=(LV (V.lst x n cs) []).st,pi:=(LV (V.lst x n cs) []).pi,rq:=(LV (V.lst x n cs) []).rq,ds:=(LV (V.lst x n cs) []).ds,eb:=(LV (V.lst x n cs) []).eb,si:=(LV (V.lst x n cs) []).si,mo:=(LV (V.lst x n cs) []).mo}
 {st:=false,pi:=false,rq:=false,ds:=false,eb:=false,si:=false,mo:=0}).ds==(LV (V.lst x n cs) []).ds then bif (UC {st:=(LV (V.lst x n cs) []).st,pi:=(LV (V.lst x n cs) []).pi,rq:=(LV (V.lst x n cs) []).rq,ds:=(LV (V.lst x n cs) []).ds,eb:=(LV (V.lst x n cs) []).eb,si:=(LV (V.lst x n cs) []).si,mo:=(LV (V.lst x n cs) []).mo}
 {st:=false,pi:=false,rq:=false,ds:=false,eb:=false,si:=false,mo:=0}).eb==(LV (V.lst x n cs) []).eb then bif (UC {st:=(LV (V.lst x n cs) []).st,pi:=(LV (V.lst x n cs) []).pi,rq:=(LV (V.lst x n cs) []).rq,ds:=(LV (V.lst x n cs) []).ds,eb:=(LV (V.lst x n cs) []).eb,si:=(LV (V.lst x n cs) []).si,mo:=(LV (V.lst x n cs) []).mo}
 {st:=false,pi:=false,rq:=false,ds:=false,eb:=false,si:=false,mo:=0}).si==(LV (V.lst x n cs) []).si then bif (UC {st:=(LV (V.lst x n cs) []).st,pi:=(LV (V.lst x n cs) []).pi,rq:=(LV (V.lst x n cs) []).rq,ds:=(LV (V.lst x n cs) []).ds,eb:=(LV (V.lst x n cs) []).eb,si:=(LV (V.lst x n cs) []).si,mo:=(LV (V.lst x n cs) []).mo}
 {st:=false,pi:=false,rq:=false,ds:=false,eb:=false,si:=false,mo:=0}).mo==(LV (V.lst x n cs) []).mo then bif isI64 (LV (V.lst y m ds) []).mo then
 bif (UC {st:=false,pi:=false,rq:=false,ds:=false,eb:=false,si:=false,mo:=0} {st:=(LV (V.lst y m ds) []).st,pi:=(LV (V.lst y m ds) []).pi,rq:=(LV (V.lst y m ds) []).rq,ds:=(LV (V.lst y m ds) []).ds,eb:=(LV (V.lst y m ds) []).eb,si:=(LV (V.lst y m ds) []).si,mo:=(LV (V.lst y m ds) []).mo}).st
 ==(LV (V.lst y m ds) []).st then bif (UC {st:=false,pi:=false,rq:=false,ds:=false,eb:=false,si:=false,mo:=0} {st:=(LV (V.lst y m ds) []).st,pi:=(LV (V.lst y m ds) []).pi,rq:=(LV (V.lst y m ds) []).rq,ds:=(LV (V.lst y m ds) []).ds,eb:=(LV (V.lst y m ds) []).eb,si:=(LV (V.lst y m ds) []).si,mo:=(LV (V.lst y m ds) []).mo}).pi
 ==(LV (V.lst y m ds) []).pi then bif (UC {st:=false,pi:=false,rq:=false,ds:=false,eb:=false,si:=false,mo:=0} {st:=(LV (V.lst y m ds) []).st,pi:=(LV (V.lst y m ds) []).pi,rq:=(LV (V.lst y m ds) []).rq,ds:=(LV (V.lst y m ds) []).ds,eb:=(LV (V.lst y m ds) []).eb,si:=(LV (V.lst y m ds) []).si,mo:=(LV (V.lst y m ds) []).mo}).rq
 ==(LV (V.lst y m ds) []).rq then bif (UC {st:=false,pi:=false,rq:=false,ds:=false,eb:=false,si:=false,mo:=0} {st:=(LV (V.lst y m ds) []).st,pi:=(LV (V.lst y m ds) []).pi,rq:=(LV (V.lst y m ds) []).rq,ds:=(LV (V.lst y m ds) []).ds,eb:=(LV (V.lst y m ds) []).eb,si:=(LV (V.lst y m ds) []).si,mo:=(LV (V.lst y m ds) []).mo}).ds
 ==(LV (V.lst y m ds) []).ds then bif (UC {st:=false,pi:=false,rq:=false,ds:=false,eb:=false,si:=false,mo:=0} {st:=(LV (V.lst y m ds) []).st,pi:=(LV (V.lst y m ds) []).pi,rq:=(LV (V.lst y m ds) []).rq,ds:=(LV (V.lst y m ds) []).ds,eb:=(LV (V.lst y m ds) []).eb,si:=(LV (V.lst y m ds) []).si,mo:=(LV (V.lst y m ds) []).mo}).eb
 ==(LV (V.lst y m ds) []).eb then bif (UC {st:=false,pi:=false,rq:=false,ds:=false,eb:=false,si:=false,mo:=0} {st:=(LV (V.lst y m ds) []).st,pi:=(LV (V.lst y m ds) []).pi,rq:=(LV (V.lst y m ds) []).rq,ds:=(LV (V.lst y m ds) []).ds,eb:=(LV (V.lst y m ds) []).eb,si:=(LV (V.lst y m ds) []).si,mo:=(LV (V.lst y m ds) []).mo}).si
 ==(LV (V.lst y m ds) []).si then bif (UC {st:=false,pi:=false,rq:=false,ds:=false,eb:=false,si:=false,mo:=0} {st:=(LV (V.lst y m ds) []).st,pi:=(LV (V.lst y m ds) []).pi,rq:=(LV (V.lst y m ds) []).rq,ds:=(LV (V.lst y m ds) []).ds,eb:=(LV (V.lst y m ds) []).eb,si:=(LV (V.lst y m ds) []).si,mo:=(LV (V.lst y m ds) []).mo}).mo
 ==(LV (V.lst y m ds) []).mo then bif (LV (V.slice 0 0 0 false 0 0) [Blk.row [] 9 1]).st then bif (LV (V.slice 0 0 0 false 0 0) [Blk.row [] 9 1]).rq then bif (LV (V.lst x
 n cs) []).mo==0 then R (V.bool true)else R (V.bool ((LV (V.slice 0 0 0 false 0 0) [Blk.row [] 9 1]).mo==(LV (V.lst x n cs) []).mo))else bif !(LV (V.lst x n cs)
 []).rq then bif !(LV (V.lst y m ds) []).rq then bif (LV (V.lst x n cs) []).mo==0 then R (V.bool true)else R (V.bool ((LV (V.slice 0 0 0 false 0 0) [Blk.row [] 9 1]).mo
 ==(LV (V.lst x n cs) []).mo))else R (V.bool false)else R (V.bool false)else bif !(LV (V.lst x n cs) []).st then bif !(LV (V.lst y m ds) []).st then bif (LV (V.slice 0
 0 0 false 0 0) [Blk.row [] 9 1]).rq then bif (LV (V.lst x n cs) []).mo==0 then R (V.bool true)else R (V.bool ((LV (V.slice 0 0 0 false 0 0) [Blk.row [] 9 1]).mo==(LV
 (V.lst x n cs) []).mo))else bif !(LV (V.lst x n cs) []).rq then bif !(LV (V.lst y m ds) []).rq then bif (LV (V.lst x n cs) []).mo==0 then R (V.bool true)else R
 (V.bool ((LV (V.slice 0 0 0 false 0 0) [Blk.row [] 9 1]).mo==(LV (V.lst x n cs) []).mo))else R (V.bool false)else R (V.bool false)else R (V.bool false)else R
 (V.bool false)else R (V.bool false)else R (V.bool false)else R (V.bool false)else R (V.bool false)else R (V.bool false)else R (V.bool false)else R (V.bool false)
 else False else R (V.bool false)else R (V.bool false)else R (V.bool false)else R (V.bool false)else R (V.bool false)else R (V.bool false)else R (V.bool false)else
 R (V.bool false)else R (V.bool false)else R (V.bool false)else R (V.bool false)else R (V.bool false)else R (V.bool false)else R (V.bool false)else False else R
 (V.bool false)else R (V.bool false)else R (V.bool false)else R (V.bool false)else R (V.bool false)else R (V.bool false)else R (V.bool false)else False else False
 else bif ds.length.beq (m*1)&&ds.all V.one then bif (0+m).ble 9223372036854775807&&((0+m)*16).ble 140737488355328 then bif OK (V.slice 1 0 (0+m) false 0 0)
 [Blk.dead,Blk.row ds 9 1]then bif isI64 (LV (V.lst y m ds) []).mo then bif (LV (V.slice 1 0 (0+m) false 0 0) [Blk.dead,Blk.row ds 9 1]).st==(UC {st:=(LV (V.lst x n cs) []).st,pi:=(LV (V.lst x n cs) []).pi,rq:=(LV (V.lst x n cs) []).rq,ds:=(LV (V.lst x n cs) []).ds,eb:=(LV (V.lst x n cs) []).eb,si:=(LV (V.lst x n cs) []).si,mo:=(LV (V.lst x n cs) []).mo}
 {st:=(LV (V.lst y m ds) []).st,pi:=(LV (V.lst y m ds) []).pi,rq:=(LV (V.lst y m ds) []).rq,ds:=(LV (V.lst y m ds) []).ds,eb:=(LV (V.lst y m ds) []).eb,si:=(LV (V.lst y m ds) []).si,mo:=(LV (V.lst y m ds) []).mo}).st
 then bif (LV (V.slice 1 0 (0+m) false 0 0) [Blk.dead,Blk.row ds 9 1]).pi==(UC {st:=(LV (V.lst x n cs) []).st,pi:=(LV (V.lst x n cs) []).pi,rq:=(LV (V.lst x n cs) []).rq,ds:=(LV (V.lst x n cs) []).ds,eb:=(LV (V.lst x n cs) []).eb,si:=(LV (V.lst x n cs) []).si,mo:=(LV (V.lst x n cs) []).mo}
 {st:=(LV (V.lst y m ds) []).st,pi:=(LV (V.lst y m ds) []).pi,rq:=(LV (V.lst y m ds) []).rq,ds:=(LV (V.lst y m ds) []).ds,eb:=(LV (V.lst y m ds) []).eb,si:=(LV (V.lst y m ds) []).si,mo:=(LV (V.lst y m ds) []).mo}).pi
 then bif (LV (V.slice 1 0 (0+m) false 0 0) [Blk.dead,Blk.row ds 9 1]).rq==(UC {st:=(LV (V.lst x n cs) []).st,pi:=(LV (V.lst x n cs) []).pi,rq:=(LV (V.lst x n cs) []).rq,ds:=(LV (V.lst x n cs) []).ds,eb:=(LV (V.lst x n cs) []).eb,si:=(LV (V.lst x n cs) []).si,mo:=(LV (V.lst x n cs) []).mo}
 {st:=(LV (V.lst y m ds) []).st,pi:=(LV (V.lst y m ds) []).pi,rq:=(LV (V.lst y m ds) []).rq,ds:=(LV (V.lst y m ds) []).ds,eb:=(LV (V.lst y m ds) []).eb,si:=(LV (V.lst y m ds) []).si,mo:=(LV (V.lst y m ds) []).mo}).rq
 then bif (LV (V.slice 1 0 (0+m) false 0 0) [Blk.dead,Blk.row ds 9 1]).ds==(UC {st:=(LV (V.lst x n cs) []).st,pi:=(LV (V.lst x n cs) []).pi,rq:=(LV (V.lst x n cs) []).rq,ds:=(LV (V.lst x n cs) []).ds,eb:=(LV (V.lst x n cs) []).eb,si:=(LV (V.lst x n cs) []).si,mo:=(LV (V.lst x n cs) []).mo}
 {st:=(LV (V.lst y m ds) []).st,pi:=(LV (V.lst y m ds) []).pi,rq:=(LV (V.lst y m ds) []).rq,ds:=(LV (V.lst y m ds) []).ds,eb:=(LV (V.lst y m ds) []).eb,si:=(LV (V.lst y m ds) []).si,mo:=(LV (V.lst y m ds) []).mo}).ds
 then bif (LV (V.slice 1 0 (0+m) false 0 0) [Blk.dead,Blk.row ds 9 1]).eb==(UC {st:=(LV (V.lst x n cs) []).st,pi:=(LV (V.lst x n cs) []).pi,rq:=(LV (V.lst x n cs) []).rq,ds:=(LV (V.lst x n cs) []).ds,eb:=(LV (V.lst x n cs) []).eb,si:=(LV (V.lst x n cs) []).si,mo:=(LV (V.lst x n cs) []).mo}
 {st:=(LV (V.lst y m ds) []).st,pi:=(LV (V.lst y m ds) []).pi,rq:=(LV (V.lst y m ds) []).rq,ds:=(LV (V.lst y m ds) []).ds,eb:=(LV (V.lst y m ds) []).eb,si:=(LV (V.lst y m ds) []).si,mo:=(LV (V.lst y m ds) []).mo}).eb
 then bif (LV (V.slice 1 0 (0+m) false 0 0) [Blk.dead,Blk.row ds 9 1]).si==(UC {st:=(LV (V.lst x n cs) []).st,pi:=(LV (V.lst x n cs) []).pi,rq:=(LV (V.lst x n cs) []).rq,ds:=(LV (V.lst x n cs) []).ds,eb:=(LV (V.lst x n cs) []).eb,si:=(LV (V.lst x n cs) []).si,mo:=(LV (V.lst x n cs) []).mo}
 {st:=(LV (V.lst y m ds) []).st,pi:=(LV (V.lst y m ds) []).pi,rq:=(LV (V.lst y m ds) []).rq,ds:=(LV (V.lst y m ds) []).ds,eb:=(LV (V.lst y m ds) []).eb,si:=(LV (V.lst y m ds) []).si,mo:=(LV (V.lst y m ds) []).mo}).si
 then bif (LV (V.slice 1 0 (0+m) false 0 0) [Blk.dead,Blk.row ds 9 1]).mo==(UC {st:=(LV (V.lst x n cs) []).st,pi:=(LV (V.lst x n cs) []).pi,rq:=(LV (V.lst x n cs) []).rq,ds:=(LV (V.lst x n cs) []).ds,eb:=(LV (V.lst x n cs) []).eb,si:=(LV (V.lst x n cs) []).si,mo:=(LV (V.lst x n cs) []).mo}
 {st:=(LV (V.lst y m ds) []).st,pi:=(LV (V.lst y m ds) []).pi,rq:=(LV (V.lst y m ds) []).rq,ds:=(LV (V.lst y m ds) []).ds,eb:=(LV (V.lst y m ds) []).eb,si:=(LV (V.lst y m ds) []).si,mo:=(LV (V.lst y m ds) []).mo}).mo
 then bif isI64 (LV (V.lst x n cs) []).mo then bif (UC {st:=(LV (V.lst x n cs) []).st,pi:=(LV (V.lst x n cs) []).pi,rq:=(LV (V.lst x n cs) []).rq,ds:=(LV (V.lst x n cs) []).ds,eb:=(LV (V.lst x n cs) []).eb,si:=(LV (V.lst x n cs) []).si,mo:=(LV (V.lst x n cs) []).mo}
 {st:=(LV (V.lst x n cs) []).st,pi:=(LV (V.lst x n cs) []).pi,rq:=(LV (V.lst x n cs) []).rq,ds:=(LV (V.lst x n cs) []).ds,eb:=(LV (V.lst x n cs) []).eb,si:=(LV (V.lst x n cs) []).si,mo:=(LV (V.lst x n cs) []).mo}).st
 ==(LV (V.lst x n cs) []).st then bif (UC {st:=(LV (V.lst x n cs) []).st,pi:=(LV (V.lst x n cs) []).pi,rq:=(LV (V.lst x n cs) []).rq,ds:=(LV (V.lst x n cs) []).ds,eb:=(LV (V.lst x n cs) []).eb,si:=(LV (V.lst x n cs) []).si,mo:=(LV (V.lst x n cs) []).mo}
 {st:=(LV (V.lst x n cs) []).st,pi:=(LV (V.lst x n cs) []).pi,rq:=(LV (V.lst x n cs) []).rq,ds:=(LV (V.lst x n cs) []).ds,eb:=(LV (V.lst x n cs) []).eb,si:=(LV (V.lst x n cs) []).si,mo:=(LV (V.lst x n cs) []).mo}).pi
 ==(LV (V.lst x n cs) []).pi then bif (UC {st:=(LV (V.lst x n cs) []).st,pi:=(LV (V.lst x n cs) []).pi,rq:=(LV (V.lst x n cs) []).rq,ds:=(LV (V.lst x n cs) []).ds,eb:=(LV (V.lst x n cs) []).eb,si:=(LV (V.lst x n cs) []).si,mo:=(LV (V.lst x n cs) []).mo}
 {st:=(LV (V.lst x n cs) []).st,pi:=(LV (V.lst x n cs) []).pi,rq:=(LV (V.lst x n cs) []).rq,ds:=(LV (V.lst x n cs) []).ds,eb:=(LV (V.lst x n cs) []).eb,si:=(LV (V.lst x n cs) []).si,mo:=(LV (V.lst x n cs) []).mo}).rq
 ==(LV (V.lst x n cs) []).rq then bif (UC {st:=(LV (V.lst x n cs) []).st,pi:=(LV (V.lst x n cs) []).pi,rq:=(LV (V.lst x n cs) []).rq,ds:=(LV (V.lst x n cs) []).ds,eb:=(LV (V.lst x n cs) []).eb,si:=(LV (V.lst x n cs) []).si,mo:=(LV (V.lst x n cs) []).mo}
 {st:=(LV (V.lst x n cs) []).st,pi:=(LV (V.lst x n cs) []).pi,rq:=(LV (V.lst x n cs) []).rq,ds:=(LV (V.lst x n cs) []).ds,eb:=(LV (V.lst x n cs) []).eb,si:=(LV (V.lst x n cs) []).si,mo:=(LV (V.lst x n cs) []).mo}).ds
 ==(LV (V.lst x n cs) []).ds then bif (UC {st:=(LV (V.lst x n cs) []).st,pi:=(LV (V.lst x n cs) []).pi,rq:=(LV (V.lst x n cs) []).rq,ds:=(LV (V.lst x n cs) []).ds,eb:=(LV (V.lst x n cs) []).eb,si:=(LV (V.lst x n cs) []).si,mo:=(LV (V.lst x n cs) []).mo}
 {st:=(LV (V.lst x n cs) []).st,pi:=(LV (V.lst x n cs) []).pi,rq:=(LV (V.lst x n cs) []).rq,ds:=(LV (V.lst x n cs) []).ds,eb:=(LV (V.lst x n cs) []).eb,si:=(LV (V.lst x n cs) []).si,mo:=(LV (V.lst x n cs) []).mo}).eb
 ==(LV (V.lst x n cs) []).eb then bif (UC {st:=(LV (V.lst x n cs) []).st,pi:=(LV (V.lst x n cs) []).pi,rq:=(LV (V.lst x n cs) []).rq,ds:=(LV (V.lst x n cs) []).ds,eb:=(LV (V.lst x n cs) []).eb,si:=(LV (V.lst x n cs) []).si,mo:=(LV (V.lst x n cs) []).mo}
 {st:=(LV (V.lst x n cs) []).st,pi:=(LV (V.lst x n cs) []).pi,rq:=(LV (V.lst x n cs) []).rq,ds:=(LV (V.lst x n cs) []).ds,eb:=(LV (V.lst x n cs) []).eb,si:=(LV (V.lst x n cs) []).si,mo:=(LV (V.lst x n cs) []).mo}).si
 ==(LV (V.lst x n cs) []).si then bif (UC {st:=(LV (V.lst x n cs) []).st,pi:=(LV (V.lst x n cs) []).pi,rq:=(LV (V.lst x n cs) []).rq,ds:=(LV (V.lst x n cs) []).ds,eb:=(LV (V.lst x n cs) []).eb,si:=(LV (V.lst x n cs) []).si,mo:=(LV (V.lst x n cs) []).mo}
 {st:=(LV (V.lst x n cs) []).st,pi:=(LV (V.lst x n cs) []).pi,rq:=(LV (V.lst x n cs) []).rq,ds:=(LV (V.lst x n cs) []).ds,eb:=(LV (V.lst x n cs) []).eb,si:=(LV (V.lst x n cs) []).si,mo:=(LV (V.lst x n cs) []).mo}).mo
 ==(LV (V.lst x n cs) []).mo then bif (UC {st:=(LV (V.lst x n cs) []).st,pi:=(LV (V.lst x n cs) []).pi,rq:=(LV (V.lst x n cs) []).rq,ds:=(LV (V.lst x n cs) []).ds,eb:=(LV (V.lst x n cs) []).eb,si:=(LV (V.lst x n cs) []).si,mo:=(LV (V.lst x n cs) []).mo}
 {st:=false,pi:=false,rq:=false,ds:=false,eb:=false,si:=false,mo:=0}).st==(LV (V.lst x n cs) []).st then bif (UC {st:=(LV (V.lst x n cs) []).st,pi:=(LV (V.lst x n cs) []).pi,rq:=(LV (V.lst x n cs) []).rq,ds:=(LV (V.lst x n cs) []).ds,eb:=(LV (V.lst x n cs) []).eb,si:=(LV (V.lst x n cs) []).si,mo:=(LV (V.lst x n cs) []).mo}
 {st:=false,pi:=false,rq:=false,ds:=false,eb:=false,si:=false,mo:=0}).pi==(LV (V.lst x n cs) []).pi then bif (UC {st:=(LV (V.lst x n cs) []).st,pi:=(LV (V.lst x n cs) []).pi,rq:=(LV (V.lst x n cs) []).rq,ds:=(LV (V.lst x n cs) []).ds,eb:=(LV (V.lst x n cs) []).eb,si:=(LV (V.lst x n cs) []).si,mo:=(LV (V.lst x n cs) []).mo}
 {st:=false,pi:=false,rq:=false,ds:=false,eb:=false,si:=false,mo:=0}).rq==(LV (V.lst x n cs) []).rq then bif (UC {st:=(LV (V.lst x n cs) []).st,pi:=(LV (V.lst x n cs) []).pi,rq:=(LV (V.lst x n cs) []).rq,ds:=(LV (V.lst x n cs) []).ds,eb:=(LV (V.lst x n cs) []).eb,si:=(LV (V.lst x n cs) []).si,mo:=(LV (V.lst x n cs) []).mo}
 {st:=false,pi:=false,rq:=false,ds:=false,eb:=false,si:=false,mo:=0}).ds==(LV (V.lst x n cs) []).ds then bif (UC {st:=(LV (V.lst x n cs) []).st,pi:=(LV (V.lst x n cs) []).pi,rq:=(LV (V.lst x n cs) []).rq,ds:=(LV (V.lst x n cs) []).ds,eb:=(LV (V.lst x n cs) []).eb,si:=(LV (V.lst x n cs) []).si,mo:=(LV (V.lst x n cs) []).mo}
 {st:=false,pi:=false,rq:=false,ds:=false,eb:=false,si:=false,mo:=0}).eb==(LV (V.lst x n cs) []).eb then bif (UC {st:=(LV (V.lst x n cs) []).st,pi:=(LV (V.lst x n cs) []).pi,rq:=(LV (V.lst x n cs) []).rq,ds:=(LV (V.lst x n cs) []).ds,eb:=(LV (V.lst x n cs) []).eb,si:=(LV (V.lst x n cs) []).si,mo:=(LV (V.lst x n cs) []).mo}
 {st:=false,pi:=false,rq:=false,ds:=false,eb:=false,si:=false,mo:=0}).si==(LV (V.lst x n cs) []).si then bif (UC {st:=(LV (V.lst x n cs) []).st,pi:=(LV (V.lst x n cs) []).pi,rq:=(LV (V.lst x n cs) []).rq,ds:=(LV (V.lst x n cs) []).ds,eb:=(LV (V.lst x n cs) []).eb,si:=(LV (V.lst x n cs) []).si,mo:=(LV (V.lst x n cs) []).mo}
 {st:=false,pi:=false,rq:=false,ds:=false,eb:=false,si:=false,mo:=0}).mo==(LV (V.lst x n cs) []).mo then bif isI64 (LV (V.lst y m ds) []).mo then
 bif (UC {st:=false,pi:=false,rq:=false,ds:=false,eb:=false,si:=false,mo:=0} {st:=(LV (V.lst y m ds) []).st,pi:=(LV (V.lst y m ds) []).pi,rq:=(LV (V.lst y m ds) []).rq,ds:=(LV (V.lst y m ds) []).ds,eb:=(LV (V.lst y m ds) []).eb,si:=(LV (V.lst y m ds) []).si,mo:=(LV (V.lst y m ds) []).mo}).st
 ==(LV (V.lst y m ds) []).st then bif (UC {st:=false,pi:=false,rq:=false,ds:=false,eb:=false,si:=false,mo:=0} {st:=(LV (V.lst y m ds) []).st,pi:=(LV (V.lst y m ds) []).pi,rq:=(LV (V.lst y m ds) []).rq,ds:=(LV (V.lst y m ds) []).ds,eb:=(LV (V.lst y m ds) []).eb,si:=(LV (V.lst y m ds) []).si,mo:=(LV (V.lst y m ds) []).mo}).pi
 ==(LV (V.lst y m ds) []).pi then bif (UC {st:=false,pi:=false,rq:=false,ds:=false,eb:=false,si:=false,mo:=0} {st:=(LV (V.lst y m ds) []).st,pi:=(LV (V.lst y m ds) []).pi,rq:=(LV (V.lst y m ds) []).rq,ds:=(LV (V.lst y m ds) []).ds,eb:=(LV (V.lst y m ds) []).eb,si:=(LV (V.lst y m ds) []).si,mo:=(LV (V.lst y m ds) []).mo}).rq
 ==(LV (V.lst y m ds) []).rq then bif (UC {st:=false,pi:=false,rq:=false,ds:=false,eb:=false,si:=false,mo:=0} {st:=(LV (V.lst y m ds) []).st,pi:=(LV (V.lst y m ds) []).pi,rq:=(LV (V.lst y m ds) []).rq,ds:=(LV (V.lst y m ds) []).ds,eb:=(LV (V.lst y m ds) []).eb,si:=(LV (V.lst y m ds) []).si,mo:=(LV (V.lst y m ds) []).mo}).ds
 ==(LV (V.lst y m ds) []).ds then bif (UC {st:=false,pi:=false,rq:=false,ds:=false,eb:=false,si:=false,mo:=0} {st:=(LV (V.lst y m ds) []).st,pi:=(LV (V.lst y m ds) []).pi,rq:=(LV (V.lst y m ds) []).rq,ds:=(LV (V.lst y m ds) []).ds,eb:=(LV (V.lst y m ds) []).eb,si:=(LV (V.lst y m ds) []).si,mo:=(LV (V.lst y m ds) []).mo}).eb
 ==(LV (V.lst y m ds) []).eb then bif (UC {st:=false,pi:=false,rq:=false,ds:=false,eb:=false,si:=false,mo:=0} {st:=(LV (V.lst y m ds) []).st,pi:=(LV (V.lst y m ds) []).pi,rq:=(LV (V.lst y m ds) []).rq,ds:=(LV (V.lst y m ds) []).ds,eb:=(LV (V.lst y m ds) []).eb,si:=(LV (V.lst y m ds) []).si,mo:=(LV (V.lst y m ds) []).mo}).si
 ==(LV (V.lst y m ds) []).si then bif (UC {st:=false,pi:=false,rq:=false,ds:=false,eb:=false,si:=false,mo:=0} {st:=(LV (V.lst y m ds) []).st,pi:=(LV (V.lst y m ds) []).pi,rq:=(LV (V.lst y m ds) []).rq,ds:=(LV (V.lst y m ds) []).ds,eb:=(LV (V.lst y m ds) []).eb,si:=(LV (V.lst y m ds) []).si,mo:=(LV (V.lst y m ds) []).mo}).mo
 ==(LV (V.lst y m ds) []).mo then bif (LV (V.slice 1 0 (0+m) false 0 0) [Blk.dead,Blk.row ds 9 1]).st then bif (LV (V.slice 1 0 (0+m) false 0 0) [Blk.dead,Blk.row
 ds 9 1]).rq then bif (LV (V.lst x n cs) []).mo==0 then R (V.bool true)else R (V.bool ((LV (V.slice 1 0 (0+m) false 0 0) [Blk.dead,Blk.row ds 9 1]).mo==(LV (V.lst
 x n cs) []).mo))else bif !(LV (V.lst x n cs) []).rq then bif !(LV (V.lst y m ds) []).rq then bif (LV (V.lst x n cs) []).mo==0 then R (V.bool true)else R (V.bool ((LV
 (V.slice 1 0 (0+m) false 0 0) [Blk.dead,Blk.row ds 9 1]).mo==(LV (V.lst x n cs) []).mo))else R (V.bool false)else R (V.bool false)else bif !(LV (V.lst x n cs)
 []).st then bif !(LV (V.lst y m ds) []).st then bif (LV (V.slice 1 0 (0+m) false 0 0) [Blk.dead,Blk.row ds 9 1]).rq then bif (LV (V.lst x n cs) []).mo==0 then R
 (V.bool true)else R (V.bool ((LV (V.slice 1 0 (0+m) false 0 0) [Blk.dead,Blk.row ds 9 1]).mo==(LV (V.lst x n cs) []).mo))else bif !(LV (V.lst x n cs) []).rq then
 bif !(LV (V.lst y m ds) []).rq then bif (LV (V.lst x n cs) []).mo==0 then R (V.bool true)else R (V.bool ((LV (V.slice 1 0 (0+m) false 0 0) [Blk.dead,Blk.row ds 9
 1]).mo==(LV (V.lst x n cs) []).mo))else R (V.bool false)else R (V.bool false)else R (V.bool false)else R (V.bool false)else R (V.bool false)else R (V.bool false)
 else R (V.bool false)else R (V.bool false)else R (V.bool false)else R (V.bool false)else R (V.bool false)else False else R (V.bool false)else R (V.bool false)else
 R (V.bool false)else R (V.bool false)else R (V.bool false)else R (V.bool false)else R (V.bool false)else R (V.bool false)else R (V.bool false)else R (V.bool false)
 else R (V.bool false)else R (V.bool false)else R (V.bool false)else R (V.bool false)else False else R (V.bool false)else R (V.bool false)else R (V.bool false)else
 R (V.bool false)else R (V.bool false)else R (V.bool false)else R (V.bool false)else False else False else False else False else bif cs.length.beq (n*1)&&cs.all
 V.one then bif (0+n).ble 9223372036854775807&&((0+n)*16).ble 140737488355328 then bif m.beq 0 then bif OK (V.slice 1 0 (0+n) false 0 0) [Blk.dead,Blk.row cs 9
 1]then bif isI64 (LV (V.lst y m ds) []).mo then bif (LV (V.slice 1 0 (0+n) false 0 0) [Blk.dead,Blk.row cs 9 1]).st==(UC {st:=(LV (V.lst x n cs) []).st,pi:=(LV (V.lst x n cs) []).pi,rq:=(LV (V.lst x n cs) []).rq,ds:=(LV (V.lst x n cs) []).ds,eb:=(LV (V.lst x n cs) []).eb,si:=(LV (V.lst x n cs) []).si,mo:=(LV (V.lst x n cs) []).mo}
 {st:=(LV (V.lst y m ds) []).st,pi:=(LV (V.lst y m ds) []).pi,rq:=(LV (V.lst y m ds) []).rq,ds:=(LV (V.lst y m ds) []).ds,eb:=(LV (V.lst y m ds) []).eb,si:=(LV (V.lst y m ds) []).si,mo:=(LV (V.lst y m ds) []).mo}).st
 then bif (LV (V.slice 1 0 (0+n) false 0 0) [Blk.dead,Blk.row cs 9 1]).pi==(UC {st:=(LV (V.lst x n cs) []).st,pi:=(LV (V.lst x n cs) []).pi,rq:=(LV (V.lst x n cs) []).rq,ds:=(LV (V.lst x n cs) []).ds,eb:=(LV (V.lst x n cs) []).eb,si:=(LV (V.lst x n cs) []).si,mo:=(LV (V.lst x n cs) []).mo}
 {st:=(LV (V.lst y m ds) []).st,pi:=(LV (V.lst y m ds) []).pi,rq:=(LV (V.lst y m ds) []).rq,ds:=(LV (V.lst y m ds) []).ds,eb:=(LV (V.lst y m ds) []).eb,si:=(LV (V.lst y m ds) []).si,mo:=(LV (V.lst y m ds) []).mo}).pi
 then bif (LV (V.slice 1 0 (0+n) false 0 0) [Blk.dead,Blk.row cs 9 1]).rq==(UC {st:=(LV (V.lst x n cs) []).st,pi:=(LV (V.lst x n cs) []).pi,rq:=(LV (V.lst x n cs) []).rq,ds:=(LV (V.lst x n cs) []).ds,eb:=(LV (V.lst x n cs) []).eb,si:=(LV (V.lst x n cs) []).si,mo:=(LV (V.lst x n cs) []).mo}
 {st:=(LV (V.lst y m ds) []).st,pi:=(LV (V.lst y m ds) []).pi,rq:=(LV (V.lst y m ds) []).rq,ds:=(LV (V.lst y m ds) []).ds,eb:=(LV (V.lst y m ds) []).eb,si:=(LV (V.lst y m ds) []).si,mo:=(LV (V.lst y m ds) []).mo}).rq
 then bif (LV (V.slice 1 0 (0+n) false 0 0) [Blk.dead,Blk.row cs 9 1]).ds==(UC {st:=(LV (V.lst x n cs) []).st,pi:=(LV (V.lst x n cs) []).pi,rq:=(LV (V.lst x n cs) []).rq,ds:=(LV (V.lst x n cs) []).ds,eb:=(LV (V.lst x n cs) []).eb,si:=(LV (V.lst x n cs) []).si,mo:=(LV (V.lst x n cs) []).mo}
 {st:=(LV (V.lst y m ds) []).st,pi:=(LV (V.lst y m ds) []).pi,rq:=(LV (V.lst y m ds) []).rq,ds:=(LV (V.lst y m ds) []).ds,eb:=(LV (V.lst y m ds) []).eb,si:=(LV (V.lst y m ds) []).si,mo:=(LV (V.lst y m ds) []).mo}).ds
 then bif (LV (V.slice 1 0 (0+n) false 0 0) [Blk.dead,Blk.row cs 9 1]).eb==(UC {st:=(LV (V.lst x n cs) []).st,pi:=(LV (V.lst x n cs) []).pi,rq:=(LV (V.lst x n cs) []).rq,ds:=(LV (V.lst x n cs) []).ds,eb:=(LV (V.lst x n cs) []).eb,si:=(LV (V.lst x n cs) []).si,mo:=(LV (V.lst x n cs) []).mo}
 {st:=(LV (V.lst y m ds) []).st,pi:=(LV (V.lst y m ds) []).pi,rq:=(LV (V.lst y m ds) []).rq,ds:=(LV (V.lst y m ds) []).ds,eb:=(LV (V.lst y m ds) []).eb,si:=(LV (V.lst y m ds) []).si,mo:=(LV (V.lst y m ds) []).mo}).eb
 then bif (LV (V.slice 1 0 (0+n) false 0 0) [Blk.dead,Blk.row cs 9 1]).si==(UC {st:=(LV (V.lst x n cs) []).st,pi:=(LV (V.lst x n cs) []).pi,rq:=(LV (V.lst x n cs) []).rq,ds:=(LV (V.lst x n cs) []).ds,eb:=(LV (V.lst x n cs) []).eb,si:=(LV (V.lst x n cs) []).si,mo:=(LV (V.lst x n cs) []).mo}
 {st:=(LV (V.lst y m ds) []).st,pi:=(LV (V.lst y m ds) []).pi,rq:=(LV (V.lst y m ds) []).rq,ds:=(LV (V.lst y m ds) []).ds,eb:=(LV (V.lst y m ds) []).eb,si:=(LV (V.lst y m ds) []).si,mo:=(LV (V.lst y m ds) []).mo}).si
 then bif (LV (V.slice 1 0 (0+n) false 0 0) [Blk.dead,Blk.row cs 9 1]).mo==(UC {st:=(LV (V.lst x n cs) []).st,pi:=(LV (V.lst x n cs) []).pi,rq:=(LV (V.lst x n cs) []).rq,ds:=(LV (V.lst x n cs) []).ds,eb:=(LV (V.lst x n cs) []).eb,si:=(LV (V.lst x n cs) []).si,mo:=(LV (V.lst x n cs) []).mo}
 {st:=(LV (V.lst y m ds) []).st,pi:=(LV (V.lst y m ds) []).pi,rq:=(LV (V.lst y m ds) []).rq,ds:=(LV (V.lst y m ds) []).ds,eb:=(LV (V.lst y m ds) []).eb,si:=(LV (V.lst y m ds) []).si,mo:=(LV (V.lst y m ds) []).mo}).mo
 then bif isI64 (LV (V.lst x n cs) []).mo then bif (UC {st:=(LV (V.lst x n cs) []).st,pi:=(LV (V.lst x n cs) []).pi,rq:=(LV (V.lst x n cs) []).rq,ds:=(LV (V.lst x n cs) []).ds,eb:=(LV (V.lst x n cs) []).eb,si:=(LV (V.lst x n cs) []).si,mo:=(LV (V.lst x n cs) []).mo}
 {st:=(LV (V.lst x n cs) []).st,pi:=(LV (V.lst x n cs) []).pi,rq:=(LV (V.lst x n cs) []).rq,ds:=(LV (V.lst x n cs) []).ds,eb:=(LV (V.lst x n cs) []).eb,si:=(LV (V.lst x n cs) []).si,mo:=(LV (V.lst x n cs) []).mo}).st
 ==(LV (V.lst x n cs) []).st then bif (UC {st:=(LV (V.lst x n cs) []).st,pi:=(LV (V.lst x n cs) []).pi,rq:=(LV (V.lst x n cs) []).rq,ds:=(LV (V.lst x n cs) []).ds,eb:=(LV (V.lst x n cs) []).eb,si:=(LV (V.lst x n cs) []).si,mo:=(LV (V.lst x n cs) []).mo}
 {st:=(LV (V.lst x n cs) []).st,pi:=(LV (V.lst x n cs) []).pi,rq:=(LV (V.lst x n cs) []).rq,ds:=(LV (V.lst x n cs) []).ds,eb:=(LV (V.lst x n cs) []).eb,si:=(LV (V.lst x n cs) []).si,mo:=(LV (V.lst x n cs) []).mo}).pi
 ==(LV (V.lst x n cs) []).pi then bif (UC {st:=(LV (V.lst x n cs) []).st,pi:=(LV (V.lst x n cs) []).pi,rq:=(LV (V.lst x n cs) []).rq,ds:=(LV (V.lst x n cs) []).ds,eb:=(LV (V.lst x n cs) []).eb,si:=(LV (V.lst x n cs) []).si,mo:=(LV (V.lst x n cs) []).mo}
 {st:=(LV (V.lst x n cs) []).st,pi:=(LV (V.lst x n cs) []).pi,rq:=(LV (V.lst x n cs) []).rq,ds:=(LV (V.lst x n cs) []).ds,eb:=(LV (V.lst x n cs) []).eb,si:=(LV (V.lst x n cs) []).si,mo:=(LV (V.lst x n cs) []).mo}).rq
 ==(LV (V.lst x n cs) []).rq then bif (UC {st:=(LV (V.lst x n cs) []).st,pi:=(LV (V.lst x n cs) []).pi,rq:=(LV (V.lst x n cs) []).rq,ds:=(LV (V.lst x n cs) []).ds,eb:=(LV (V.lst x n cs) []).eb,si:=(LV (V.lst x n cs) []).si,mo:=(LV (V.lst x n cs) []).mo}
 {st:=(LV (V.lst x n cs) []).st,pi:=(LV (V.lst x n cs) []).pi,rq:=(LV (V.lst x n cs) []).rq,ds:=(LV (V.lst x n cs) []).ds,eb:=(LV (V.lst x n cs) []).eb,si:=(LV (V.lst x n cs) []).si,mo:=(LV (V.lst x n cs) []).mo}).ds
 ==(LV (V.lst x n cs) []).ds then bif (UC {st:=(LV (V.lst x n cs) []).st,pi:=(LV (V.lst x n cs) []).pi,rq:=(LV (V.lst x n cs) []).rq,ds:=(LV (V.lst x n cs) []).ds,eb:=(LV (V.lst x n cs) []).eb,si:=(LV (V.lst x n cs) []).si,mo:=(LV (V.lst x n cs) []).mo}
 {st:=(LV (V.lst x n cs) []).st,pi:=(LV (V.lst x n cs) []).pi,rq:=(LV (V.lst x n cs) []).rq,ds:=(LV (V.lst x n cs) []).ds,eb:=(LV (V.lst x n cs) []).eb,si:=(LV (V.lst x n cs) []).si,mo:=(LV (V.lst x n cs) []).mo}).eb
 ==(LV (V.lst x n cs) []).eb then bif (UC {st:=(LV (V.lst x n cs) []).st,pi:=(LV (V.lst x n cs) []).pi,rq:=(LV (V.lst x n cs) []).rq,ds:=(LV (V.lst x n cs) []).ds,eb:=(LV (V.lst x n cs) []).eb,si:=(LV (V.lst x n cs) []).si,mo:=(LV (V.lst x n cs) []).mo}
 {st:=(LV (V.lst x n cs) []).st,pi:=(LV (V.lst x n cs) []).pi,rq:=(LV (V.lst x n cs) []).rq,ds:=(LV (V.lst x n cs) []).ds,eb:=(LV (V.lst x n cs) []).eb,si:=(LV (V.lst x n cs) []).si,mo:=(LV (V.lst x n cs) []).mo}).si
 ==(LV (V.lst x n cs) []).si then bif (UC {st:=(LV (V.lst x n cs) []).st,pi:=(LV (V.lst x n cs) []).pi,rq:=(LV (V.lst x n cs) []).rq,ds:=(LV (V.lst x n cs) []).ds,eb:=(LV (V.lst x n cs) []).eb,si:=(LV (V.lst x n cs) []).si,mo:=(LV (V.lst x n cs) []).mo}
 {st:=(LV (V.lst x n cs) []).st,pi:=(LV (V.lst x n cs) []).pi,rq:=(LV (V.lst x n cs) []).rq,ds:=(LV (V.lst x n cs) []).ds,eb:=(LV (V.lst x n cs) []).eb,si:=(LV (V.lst x n cs) []).si,mo:=(LV (V.lst x n cs) []).mo}).mo
 ==(LV (V.lst x n cs) []).mo then bif (UC {st:=(LV (V.lst x n cs) []).st,pi:=(LV (V.lst x n cs) []).pi,rq:=(LV (V.lst x n cs) []).rq,ds:=(LV (V.lst x n cs) []).ds,eb:=(LV (V.lst x n cs) []).eb,si:=(LV (V.lst x n cs) []).si,mo:=(LV (V.lst x n cs) []).mo}
 {st:=false,pi:=false,rq:=false,ds:=false,eb:=false,si:=false,mo:=0}).st==(LV (V.lst x n cs) []).st then bif (UC {st:=(LV (V.lst x n cs) []).st,pi:=(LV (V.lst x n cs) []).pi,rq:=(LV (V.lst x n cs) []).rq,ds:=(LV (V.lst x n cs) []).ds,eb:=(LV (V.lst x n cs) []).eb,si:=(LV (V.lst x n cs) []).si,mo:=(LV (V.lst x n cs) []).mo}
 {st:=false,pi:=false,rq:=false,ds:=false,eb:=false,si:=false,mo:=0}).pi==(LV (V.lst x n cs) []).pi then bif (UC {st:=(LV (V.lst x n cs) []).st,pi:=(LV (V.lst x n cs) []).pi,rq:=(LV (V.lst x n cs) []).rq,ds:=(LV (V.lst x n cs) []).ds,eb:=(LV (V.lst x n cs) []).eb,si:=(LV (V.lst x n cs) []).si,mo:=(LV (V.lst x n cs) []).mo}
 {st:=false,pi:=false,rq:=false,ds:=false,eb:=false,si:=false,mo:=0}).rq==(LV (V.lst x n cs) []).rq then bif (UC {st:=(LV (V.lst x n cs) []).st,pi:=(LV (V.lst x n cs) []).pi,rq:=(LV (V.lst x n cs) []).rq,ds:=(LV (V.lst x n cs) []).ds,eb:=(LV (V.lst x n cs) []).eb,si:=(LV (V.lst x n cs) []).si,mo:=(LV (V.lst x n cs) []).mo}
 {st:=false,pi:=false,rq:=false,ds:=false,eb:=false,si:=false,mo:=0}).ds==(LV (V.lst x n cs) []).ds then bif (UC {st:=(LV (V.lst x n cs) []).st,pi:=(LV (V.lst x n cs) []).pi,rq:=(LV (V.lst x n cs) []).rq,ds:=(LV (V.lst x n cs) []).ds,eb:=(LV (V.lst x n cs) []).eb,si:=(LV (V.lst x n cs) []).si,mo:=(LV (V.lst x n cs) []).mo}
 {st:=false,pi:=false,rq:=false,ds:=false,eb:=false,si:=false,mo:=0}).eb==(LV (V.lst x n cs) []).eb then bif (UC {st:=(LV (V.lst x n cs) []).st,pi:=(LV (V.lst x n cs) []).pi,rq:=(LV (V.lst x n cs) []).rq,ds:=(LV (V.lst x n cs) []).ds,eb:=(LV (V.lst x n cs) []).eb,si:=(LV (V.lst x n cs) []).si,mo:=(LV (V.lst x n cs) []).mo}
 {st:=false,pi:=false,rq:=false,ds:=false,eb:=false,si:=false,mo:=0}).si==(LV (V.lst x n cs) []).si then bif (UC {st:=(LV (V.lst x n cs) []).st,pi:=(LV (V.lst x n cs) []).pi,rq:=(LV (V.lst x n cs) []).rq,ds:=(LV (V.lst x n cs) []).ds,eb:=(LV (V.lst x n cs) []).eb,si:=(LV (V.lst x n cs) []).si,mo:=(LV (V.lst x n cs) []).mo}
 {st:=false,pi:=false,rq:=false,ds:=false,eb:=false,si:=false,mo:=0}).mo==(LV (V.lst x n cs) []).mo then bif isI64 (LV (V.lst y m ds) []).mo then
 bif (UC {st:=false,pi:=false,rq:=false,ds:=false,eb:=false,si:=false,mo:=0} {st:=(LV (V.lst y m ds) []).st,pi:=(LV (V.lst y m ds) []).pi,rq:=(LV (V.lst y m ds) []).rq,ds:=(LV (V.lst y m ds) []).ds,eb:=(LV (V.lst y m ds) []).eb,si:=(LV (V.lst y m ds) []).si,mo:=(LV (V.lst y m ds) []).mo}).st
 ==(LV (V.lst y m ds) []).st then bif (UC {st:=false,pi:=false,rq:=false,ds:=false,eb:=false,si:=false,mo:=0} {st:=(LV (V.lst y m ds) []).st,pi:=(LV (V.lst y m ds) []).pi,rq:=(LV (V.lst y m ds) []).rq,ds:=(LV (V.lst y m ds) []).ds,eb:=(LV (V.lst y m ds) []).eb,si:=(LV (V.lst y m ds) []).si,mo:=(LV (V.lst y m ds) []).mo}).pi
 ==(LV (V.lst y m ds) []).pi then bif (UC {st:=false,pi:=false,rq:=false,ds:=false,eb:=false,si:=false,mo:=0} {st:=(LV (V.lst y m ds) []).st,pi:=(LV (V.lst y m ds) []).pi,rq:=(LV (V.lst y m ds) []).rq,ds:=(LV (V.lst y m ds) []).ds,eb:=(LV (V.lst y m ds) []).eb,si:=(LV (V.lst y m ds) []).si,mo:=(LV (V.lst y m ds) []).mo}).rq
 ==(LV (V.lst y m ds) []).rq then bif (UC {st:=false,pi:=false,rq:=false,ds:=false,eb:=false,si:=false,mo:=0} {st:=(LV (V.lst y m ds) []).st,pi:=(LV (V.lst y m ds) []).pi,rq:=(LV (V.lst y m ds) []).rq,ds:=(LV (V.lst y m ds) []).ds,eb:=(LV (V.lst y m ds) []).eb,si:=(LV (V.lst y m ds) []).si,mo:=(LV (V.lst y m ds) []).mo}).ds
 ==(LV (V.lst y m ds) []).ds then bif (UC {st:=false,pi:=false,rq:=false,ds:=false,eb:=false,si:=false,mo:=0} {st:=(LV (V.lst y m ds) []).st,pi:=(LV (V.lst y m ds) []).pi,rq:=(LV (V.lst y m ds) []).rq,ds:=(LV (V.lst y m ds) []).ds,eb:=(LV (V.lst y m ds) []).eb,si:=(LV (V.lst y m ds) []).si,mo:=(LV (V.lst y m ds) []).mo}).eb
 ==(LV (V.lst y m ds) []).eb then bif (UC {st:=false,pi:=false,rq:=false,ds:=false,eb:=false,si:=false,mo:=0} {st:=(LV (V.lst y m ds) []).st,pi:=(LV (V.lst y m ds) []).pi,rq:=(LV (V.lst y m ds) []).rq,ds:=(LV (V.lst y m ds) []).ds,eb:=(LV (V.lst y m ds) []).eb,si:=(LV (V.lst y m ds) []).si,mo:=(LV (V.lst y m ds) []).mo}).si
 ==(LV (V.lst y m ds) []).si then bif (UC {st:=false,pi:=false,rq:=false,ds:=false,eb:=false,si:=false,mo:=0} {st:=(LV (V.lst y m ds) []).st,pi:=(LV (V.lst y m ds) []).pi,rq:=(LV (V.lst y m ds) []).rq,ds:=(LV (V.lst y m ds) []).ds,eb:=(LV (V.lst y m ds) []).eb,si:=(LV (V.lst y m ds) []).si,mo:=(LV (V.lst y m ds) []).mo}).mo
 ==(LV (V.lst y m ds) []).mo then bif (LV (V.slice 1 0 (0+n) false 0 0) [Blk.dead,Blk.row cs 9 1]).st then bif (LV (V.slice 1 0 (0+n) false 0 0) [Blk.dead,Blk.row
 cs 9 1]).rq then bif (LV (V.lst x n cs) []).mo==0 then R (V.bool true)else R (V.bool ((LV (V.slice 1 0 (0+n) false 0 0) [Blk.dead,Blk.row cs 9 1]).mo==(LV (V.lst
 x n cs) []).mo))else bif !(LV (V.lst x n cs) []).rq then bif !(LV (V.lst y m ds) []).rq then bif (LV (V.lst x n cs) []).mo==0 then R (V.bool true)else R (V.bool ((LV
 (V.slice 1 0 (0+n) false 0 0) [Blk.dead,Blk.row cs 9 1]).mo==(LV (V.lst x n cs) []).mo))else R (V.bool false)else R (V.bool false)else bif !(LV (V.lst x n cs)
 []).st then bif !(LV (V.lst y m ds) []).st then bif (LV (V.slice 1 0 (0+n) false 0 0) [Blk.dead,Blk.row cs 9 1]).rq then bif (LV (V.lst x n cs) []).mo==0 then R
 (V.bool true)else R (V.bool ((LV (V.slice 1 0 (0+n) false 0 0) [Blk.dead,Blk.row cs 9 1]).mo==(LV (V.lst x n cs) []).mo))else bif !(LV (V.lst x n cs) []).rq then
 bif !(LV (V.lst y m ds) []).rq then bif (LV (V.lst x n cs) []).mo==0 then R (V.bool true)else R (V.bool ((LV (V.slice 1 0 (0+n) false 0 0) [Blk.dead,Blk.row cs 9
 1]).mo==(LV (V.lst x n cs) []).mo))else R (V.bool false)else R (V.bool false)else R (V.bool false)else R (V.bool false)else R (V.bool false)else R (V.bool false)
 else R (V.bool false)else R (V.bool false)else R (V.bool false)else R (V.bool false)else R (V.bool false)else False else R (V.bool false)else R (V.bool false)else
 R (V.bool false)else R (V.bool false)else R (V.bool false)else R (V.bool false)else R (V.bool false)else R (V.bool false)else R (V.bool false)else R (V.bool false)
 else R (V.bool false)else R (V.bool false)else R (V.bool false)else R (V.bool false)else False else R (V.bool false)else R (V.bool false)else R (V.bool false)else
 R (V.bool false)else R (V.bool false)else R (V.bool false)else R (V.bool false)else False else False else bif ds.length.beq (m*1)&&ds.all V.one then bif
 cs.length.beq ((0+n)*1)then bif (0+n+m).ble 9223372036854775807&&((0+n+m)*16).ble 140737488355328 then bif OK (V.slice 2 0 (0+n+m) false 0 0)
 [Blk.dead,Blk.dead,Blk.row (cs++ds) 9 1]then bif isI64 (LV (V.lst y m ds) []).mo then bif (LV (V.slice 2 0 (0+n+m) false 0 0) [Blk.dead,Blk.dead,Blk.row (cs++
 ds) 9 1]).st==(UC {st:=(LV (V.lst x n cs) []).st,pi:=(LV (V.lst x n cs) []).pi,rq:=(LV (V.lst x n cs) []).rq,ds:=(LV (V.lst x n cs) []).ds,eb:=(LV (V.lst x n cs) []).eb,si:=(LV (V.lst x n cs) []).si,mo:=(LV (V.lst x n cs) []).mo}
 {st:=(LV (V.lst y m ds) []).st,pi:=(LV (V.lst y m ds) []).pi,rq:=(LV (V.lst y m ds) []).rq,ds:=(LV (V.lst y m ds) []).ds,eb:=(LV (V.lst y m ds) []).eb,si:=(LV (V.lst y m ds) []).si,mo:=(LV (V.lst y m ds) []).mo}).st
 then bif (LV (V.slice 2 0 (0+n+m) false 0 0) [Blk.dead,Blk.dead,Blk.row (cs++ds) 9 1]).pi==(UC {st:=(LV (V.lst x n cs) []).st,pi:=(LV (V.lst x n cs) []).pi,rq:=(LV (V.lst x n cs) []).rq,ds:=(LV (V.lst x n cs) []).ds,eb:=(LV (V.lst x n cs) []).eb,si:=(LV (V.lst x n cs) []).si,mo:=(LV (V.lst x n cs) []).mo}
 {st:=(LV (V.lst y m ds) []).st,pi:=(LV (V.lst y m ds) []).pi,rq:=(LV (V.lst y m ds) []).rq,ds:=(LV (V.lst y m ds) []).ds,eb:=(LV (V.lst y m ds) []).eb,si:=(LV (V.lst y m ds) []).si,mo:=(LV (V.lst y m ds) []).mo}).pi
 then bif (LV (V.slice 2 0 (0+n+m) false 0 0) [Blk.dead,Blk.dead,Blk.row (cs++ds) 9 1]).rq==(UC {st:=(LV (V.lst x n cs) []).st,pi:=(LV (V.lst x n cs) []).pi,rq:=(LV (V.lst x n cs) []).rq,ds:=(LV (V.lst x n cs) []).ds,eb:=(LV (V.lst x n cs) []).eb,si:=(LV (V.lst x n cs) []).si,mo:=(LV (V.lst x n cs) []).mo}
 {st:=(LV (V.lst y m ds) []).st,pi:=(LV (V.lst y m ds) []).pi,rq:=(LV (V.lst y m ds) []).rq,ds:=(LV (V.lst y m ds) []).ds,eb:=(LV (V.lst y m ds) []).eb,si:=(LV (V.lst y m ds) []).si,mo:=(LV (V.lst y m ds) []).mo}).rq
 then bif (LV (V.slice 2 0 (0+n+m) false 0 0) [Blk.dead,Blk.dead,Blk.row (cs++ds) 9 1]).ds==(UC {st:=(LV (V.lst x n cs) []).st,pi:=(LV (V.lst x n cs) []).pi,rq:=(LV (V.lst x n cs) []).rq,ds:=(LV (V.lst x n cs) []).ds,eb:=(LV (V.lst x n cs) []).eb,si:=(LV (V.lst x n cs) []).si,mo:=(LV (V.lst x n cs) []).mo}
 {st:=(LV (V.lst y m ds) []).st,pi:=(LV (V.lst y m ds) []).pi,rq:=(LV (V.lst y m ds) []).rq,ds:=(LV (V.lst y m ds) []).ds,eb:=(LV (V.lst y m ds) []).eb,si:=(LV (V.lst y m ds) []).si,mo:=(LV (V.lst y m ds) []).mo}).ds
 then bif (LV (V.slice 2 0 (0+n+m) false 0 0) [Blk.dead,Blk.dead,Blk.row (cs++ds) 9 1]).eb==(UC {st:=(LV (V.lst x n cs) []).st,pi:=(LV (V.lst x n cs) []).pi,rq:=(LV (V.lst x n cs) []).rq,ds:=(LV (V.lst x n cs) []).ds,eb:=(LV (V.lst x n cs) []).eb,si:=(LV (V.lst x n cs) []).si,mo:=(LV (V.lst x n cs) []).mo}
 {st:=(LV (V.lst y m ds) []).st,pi:=(LV (V.lst y m ds) []).pi,rq:=(LV (V.lst y m ds) []).rq,ds:=(LV (V.lst y m ds) []).ds,eb:=(LV (V.lst y m ds) []).eb,si:=(LV (V.lst y m ds) []).si,mo:=(LV (V.lst y m ds) []).mo}).eb
 then bif (LV (V.slice 2 0 (0+n+m) false 0 0) [Blk.dead,Blk.dead,Blk.row (cs++ds) 9 1]).si==(UC {st:=(LV (V.lst x n cs) []).st,pi:=(LV (V.lst x n cs) []).pi,rq:=(LV (V.lst x n cs) []).rq,ds:=(LV (V.lst x n cs) []).ds,eb:=(LV (V.lst x n cs) []).eb,si:=(LV (V.lst x n cs) []).si,mo:=(LV (V.lst x n cs) []).mo}
 {st:=(LV (V.lst y m ds) []).st,pi:=(LV (V.lst y m ds) []).pi,rq:=(LV (V.lst y m ds) []).rq,ds:=(LV (V.lst y m ds) []).ds,eb:=(LV (V.lst y m ds) []).eb,si:=(LV (V.lst y m ds) []).si,mo:=(LV (V.lst y m ds) []).mo}).si
 then bif (LV (V.slice 2 0 (0+n+m) false 0 0) [Blk.dead,Blk.dead,Blk.row (cs++ds) 9 1]).mo==(UC {st:=(LV (V.lst x n cs) []).st,pi:=(LV (V.lst x n cs) []).pi,rq:=(LV (V.lst x n cs) []).rq,ds:=(LV (V.lst x n cs) []).ds,eb:=(LV (V.lst x n cs) []).eb,si:=(LV (V.lst x n cs) []).si,mo:=(LV (V.lst x n cs) []).mo}
 {st:=(LV (V.lst y m ds) []).st,pi:=(LV (V.lst y m ds) []).pi,rq:=(LV (V.lst y m ds) []).rq,ds:=(LV (V.lst y m ds) []).ds,eb:=(LV (V.lst y m ds) []).eb,si:=(LV (V.lst y m ds) []).si,mo:=(LV (V.lst y m ds) []).mo}).mo
 then bif isI64 (LV (V.lst x n cs) []).mo then bif (UC {st:=(LV (V.lst x n cs) []).st,pi:=(LV (V.lst x n cs) []).pi,rq:=(LV (V.lst x n cs) []).rq,ds:=(LV (V.lst x n cs) []).ds,eb:=(LV (V.lst x n cs) []).eb,si:=(LV (V.lst x n cs) []).si,mo:=(LV (V.lst x n cs) []).mo}
 {st:=(LV (V.lst x n cs) []).st,pi:=(LV (V.lst x n cs) []).pi,rq:=(LV (V.lst x n cs) []).rq,ds:=(LV (V.lst x n cs) []).ds,eb:=(LV (V.lst x n cs) []).eb,si:=(LV (V.lst x n cs) []).si,mo:=(LV (V.lst x n cs) []).mo}).st
 ==(LV (V.lst x n cs) []).st then bif (UC {st:=(LV (V.lst x n cs) []).st,pi:=(LV (V.lst x n cs) []).pi,rq:=(LV (V.lst x n cs) []).rq,ds:=(LV (V.lst x n cs) []).ds,eb:=(LV (V.lst x n cs) []).eb,si:=(LV (V.lst x n cs) []).si,mo:=(LV (V.lst x n cs) []).mo}
 {st:=(LV (V.lst x n cs) []).st,pi:=(LV (V.lst x n cs) []).pi,rq:=(LV (V.lst x n cs) []).rq,ds:=(LV (V.lst x n cs) []).ds,eb:=(LV (V.lst x n cs) []).eb,si:=(LV (V.lst x n cs) []).si,mo:=(LV (V.lst x n cs) []).mo}).pi
 ==(LV (V.lst x n cs) []).pi then bif (UC {st:=(LV (V.lst x n cs) []).st,pi:=(LV (V.lst x n cs) []).pi,rq:=(LV (V.lst x n cs) []).rq,ds:=(LV (V.lst x n cs) []).ds,eb:=(LV (V.lst x n cs) []).eb,si:=(LV (V.lst x n cs) []).si,mo:=(LV (V.lst x n cs) []).mo}
 {st:=(LV (V.lst x n cs) []).st,pi:=(LV (V.lst x n cs) []).pi,rq:=(LV (V.lst x n cs) []).rq,ds:=(LV (V.lst x n cs) []).ds,eb:=(LV (V.lst x n cs) []).eb,si:=(LV (V.lst x n cs) []).si,mo:=(LV (V.lst x n cs) []).mo}).rq
 ==(LV (V.lst x n cs) []).rq then bif (UC {st:=(LV (V.lst x n cs) []).st,pi:=(LV (V.lst x n cs) []).pi,rq:=(LV (V.lst x n cs) []).rq,ds:=(LV (V.lst x n cs) []).ds,eb:=(LV (V.lst x n cs) []).eb,si:=(LV (V.lst x n cs) []).si,mo:=(LV (V.lst x n cs) []).mo}
 {st:=(LV (V.lst x n cs) []).st,pi:=(LV (V.lst x n cs) []).pi,rq:=(LV (V.lst x n cs) []).rq,ds:=(LV (V.lst x n cs) []).ds,eb:=(LV (V.lst x n cs) []).eb,si:=(LV (V.lst x n cs) []).si,mo:=(LV (V.lst x n cs) []).mo}).ds
 ==(LV (V.lst x n cs) []).ds then bif (UC {st:=(LV (V.lst x n cs) []).st,pi:=(LV (V.lst x n cs) []).pi,rq:=(LV (V.lst x n cs) []).rq,ds:=(LV (V.lst x n cs) []).ds,eb:=(LV (V.lst x n cs) []).eb,si:=(LV (V.lst x n cs) []).si,mo:=(LV (V.lst x n cs) []).mo}
 {st:=(LV (V.lst x n cs) []).st,pi:=(LV (V.lst x n cs) []).pi,rq:=(LV (V.lst x n cs) []).rq,ds:=(LV (V.lst x n cs) []).ds,eb:=(LV (V.lst x n cs) []).eb,si:=(LV (V.lst x n cs) []).si,mo:=(LV (V.lst x n cs) []).mo}).eb
 ==(LV (V.lst x n cs) []).eb then bif (UC {st:=(LV (V.lst x n cs) []).st,pi:=(LV (V.lst x n cs) []).pi,rq:=(LV (V.lst x n cs) []).rq,ds:=(LV (V.lst x n cs) []).ds,eb:=(LV (V.lst x n cs) []).eb,si:=(LV (V.lst x n cs) []).si,mo:=(LV (V.lst x n cs) []).mo}
 {st:=(LV (V.lst x n cs) []).st,pi:=(LV (V.lst x n cs) []).pi,rq:=(LV (V.lst x n cs) []).rq,ds:=(LV (V.lst x n cs) []).ds,eb:=(LV (V.lst x n cs) []).eb,si:=(LV (V.lst x n cs) []).si,mo:=(LV (V.lst x n cs) []).mo}).si
 ==(LV (V.lst x n cs) []).si then bif (UC {st:=(LV (V.lst x n cs) []).st,pi:=(LV (V.lst x n cs) []).pi,rq:=(LV (V.lst x n cs) []).rq,ds:=(LV (V.lst x n cs) []).ds,eb:=(LV (V.lst x n cs) []).eb,si:=(LV (V.lst x n cs) []).si,mo:=(LV (V.lst x n cs) []).mo}
 {st:=(LV (V.lst x n cs) []).st,pi:=(LV (V.lst x n cs) []).pi,rq:=(LV (V.lst x n cs) []).rq,ds:=(LV (V.lst x n cs) []).ds,eb:=(LV (V.lst x n cs) []).eb,si:=(LV (V.lst x n cs) []).si,mo:=(LV (V.lst x n cs) []).mo}).mo
 ==(LV (V.lst x n cs) []).mo then bif (UC {st:=(LV (V.lst x n cs) []).st,pi:=(LV (V.lst x n cs) []).pi,rq:=(LV (V.lst x n cs) []).rq,ds:=(LV (V.lst x n cs) []).ds,eb:=(LV (V.lst x n cs) []).eb,si:=(LV (V.lst x n cs) []).si,mo:=(LV (V.lst x n cs) []).mo}
 {st:=false,pi:=false,rq:=false,ds:=false,eb:=false,si:=false,mo:=0}).st==(LV (V.lst x n cs) []).st then bif (UC {st:=(LV (V.lst x n cs) []).st,pi:=(LV (V.lst x n cs) []).pi,rq:=(LV (V.lst x n cs) []).rq,ds:=(LV (V.lst x n cs) []).ds,eb:=(LV (V.lst x n cs) []).eb,si:=(LV (V.lst x n cs) []).si,mo:=(LV (V.lst x n cs) []).mo}
 {st:=false,pi:=false,rq:=false,ds:=false,eb:=false,si:=false,mo:=0}).pi==(LV (V.lst x n cs) []).pi then bif (UC {st:=(LV (V.lst x n cs) []).st,pi:=(LV (V.lst x n cs) []).pi,rq:=(LV (V.lst x n cs) []).rq,ds:=(LV (V.lst x n cs) []).ds,eb:=(LV (V.lst x n cs) []).eb,si:=(LV (V.lst x n cs) []).si,mo:=(LV (V.lst x n cs) []).mo}
 {st:=false,pi:=false,rq:=false,ds:=false,eb:=false,si:=false,mo:=0}).rq==(LV (V.lst x n cs) []).rq then bif (UC {st:=(LV (V.lst x n cs) []).st,pi:=(LV (V.lst x n cs) []).pi,rq:=(LV (V.lst x n cs) []).rq,ds:=(LV (V.lst x n cs) []).ds,eb:=(LV (V.lst x n cs) []).eb,si:=(LV (V.lst x n cs) []).si,mo:=(LV (V.lst x n cs) []).mo}
 {st:=false,pi:=false,rq:=false,ds:=false,eb:=false,si:=false,mo:=0}).ds==(LV (V.lst x n cs) []).ds then bif (UC {st:=(LV (V.lst x n cs) []).st,pi:=(LV (V.lst x n cs) []).pi,rq:=(LV (V.lst x n cs) []).rq,ds:=(LV (V.lst x n cs) []).ds,eb:=(LV (V.lst x n cs) []).eb,si:=(LV (V.lst x n cs) []).si,mo:=(LV (V.lst x n cs) []).mo}
 {st:=false,pi:=false,rq:=false,ds:=false,eb:=false,si:=false,mo:=0}).eb==(LV (V.lst x n cs) []).eb then bif (UC {st:=(LV (V.lst x n cs) []).st,pi:=(LV (V.lst x n cs) []).pi,rq:=(LV (V.lst x n cs) []).rq,ds:=(LV (V.lst x n cs) []).ds,eb:=(LV (V.lst x n cs) []).eb,si:=(LV (V.lst x n cs) []).si,mo:=(LV (V.lst x n cs) []).mo}
 {st:=false,pi:=false,rq:=false,ds:=false,eb:=false,si:=false,mo:=0}).si==(LV (V.lst x n cs) []).si then bif (UC {st:=(LV (V.lst x n cs) []).st,pi:=(LV (V.lst x n cs) []).pi,rq:=(LV (V.lst x n cs) []).rq,ds:=(LV (V.lst x n cs) []).ds,eb:=(LV (V.lst x n cs) []).eb,si:=(LV (V.lst x n cs) []).si,mo:=(LV (V.lst x n cs) []).mo}
 {st:=false,pi:=false,rq:=false,ds:=false,eb:=false,si:=false,mo:=0}).mo==(LV (V.lst x n cs) []).mo then bif isI64 (LV (V.lst y m ds) []).mo then
 bif (UC {st:=false,pi:=false,rq:=false,ds:=false,eb:=false,si:=false,mo:=0} {st:=(LV (V.lst y m ds) []).st,pi:=(LV (V.lst y m ds) []).pi,rq:=(LV (V.lst y m ds) []).rq,ds:=(LV (V.lst y m ds) []).ds,eb:=(LV (V.lst y m ds) []).eb,si:=(LV (V.lst y m ds) []).si,mo:=(LV (V.lst y m ds) []).mo}).st
 ==(LV (V.lst y m ds) []).st then bif (UC {st:=false,pi:=false,rq:=false,ds:=false,eb:=false,si:=false,mo:=0} {st:=(LV (V.lst y m ds) []).st,pi:=(LV (V.lst y m ds) []).pi,rq:=(LV (V.lst y m ds) []).rq,ds:=(LV (V.lst y m ds) []).ds,eb:=(LV (V.lst y m ds) []).eb,si:=(LV (V.lst y m ds) []).si,mo:=(LV (V.lst y m ds) []).mo}).pi
 ==(LV (V.lst y m ds) []).pi then bif (UC {st:=false,pi:=false,rq:=false,ds:=false,eb:=false,si:=false,mo:=0} {st:=(LV (V.lst y m ds) []).st,pi:=(LV (V.lst y m ds) []).pi,rq:=(LV (V.lst y m ds) []).rq,ds:=(LV (V.lst y m ds) []).ds,eb:=(LV (V.lst y m ds) []).eb,si:=(LV (V.lst y m ds) []).si,mo:=(LV (V.lst y m ds) []).mo}).rq
 ==(LV (V.lst y m ds) []).rq then bif (UC {st:=false,pi:=false,rq:=false,ds:=false,eb:=false,si:=false,mo:=0} {st:=(LV (V.lst y m ds) []).st,pi:=(LV (V.lst y m ds) []).pi,rq:=(LV (V.lst y m ds) []).rq,ds:=(LV (V.lst y m ds) []).ds,eb:=(LV (V.lst y m ds) []).eb,si:=(LV (V.lst y m ds) []).si,mo:=(LV (V.lst y m ds) []).mo}).ds
 ==(LV (V.lst y m ds) []).ds then bif (UC {st:=false,pi:=false,rq:=false,ds:=false,eb:=false,si:=false,mo:=0} {st:=(LV (V.lst y m ds) []).st,pi:=(LV (V.lst y m ds) []).pi,rq:=(LV (V.lst y m ds) []).rq,ds:=(LV (V.lst y m ds) []).ds,eb:=(LV (V.lst y m ds) []).eb,si:=(LV (V.lst y m ds) []).si,mo:=(LV (V.lst y m ds) []).mo}).eb
 ==(LV (V.lst y m ds) []).eb then bif (UC {st:=false,pi:=false,rq:=false,ds:=false,eb:=false,si:=false,mo:=0} {st:=(LV (V.lst y m ds) []).st,pi:=(LV (V.lst y m ds) []).pi,rq:=(LV (V.lst y m ds) []).rq,ds:=(LV (V.lst y m ds) []).ds,eb:=(LV (V.lst y m ds) []).eb,si:=(LV (V.lst y m ds) []).si,mo:=(LV (V.lst y m ds) []).mo}).si
 ==(LV (V.lst y m ds) []).si then bif (UC {st:=false,pi:=false,rq:=false,ds:=false,eb:=false,si:=false,mo:=0} {st:=(LV (V.lst y m ds) []).st,pi:=(LV (V.lst y m ds) []).pi,rq:=(LV (V.lst y m ds) []).rq,ds:=(LV (V.lst y m ds) []).ds,eb:=(LV (V.lst y m ds) []).eb,si:=(LV (V.lst y m ds) []).si,mo:=(LV (V.lst y m ds) []).mo}).mo
 ==(LV (V.lst y m ds) []).mo then bif (LV (V.slice 2 0 (0+n+m) false 0 0) [Blk.dead,Blk.dead,Blk.row (cs++ds) 9 1]).st then bif (LV (V.slice 2 0 (0+n+m) false
 0 0) [Blk.dead,Blk.dead,Blk.row (cs++ds) 9 1]).rq then bif (LV (V.lst x n cs) []).mo==0 then R (V.bool true)else R (V.bool ((LV (V.slice 2 0 (0+n+m) false 0 0)
 [Blk.dead,Blk.dead,Blk.row (cs++ds) 9 1]).mo==(LV (V.lst x n cs) []).mo))else bif !(LV (V.lst x n cs) []).rq then bif !(LV (V.lst y m ds) []).rq then bif (LV
 (V.lst x n cs) []).mo==0 then R (V.bool true)else R (V.bool ((LV (V.slice 2 0 (0+n+m) false 0 0) [Blk.dead,Blk.dead,Blk.row (cs++ds) 9 1]).mo==(LV (V.lst x n
 cs) []).mo))else R (V.bool false)else R (V.bool false)else bif !(LV (V.lst x n cs) []).st then bif !(LV (V.lst y m ds) []).st then bif (LV (V.slice 2 0 (0+n+m)
 false 0 0) [Blk.dead,Blk.dead,Blk.row (cs++ds) 9 1]).rq then bif (LV (V.lst x n cs) []).mo==0 then R (V.bool true)else R (V.bool ((LV (V.slice 2 0 (0+n+m)
 false 0 0) [Blk.dead,Blk.dead,Blk.row (cs++ds) 9 1]).mo==(LV (V.lst x n cs) []).mo))else bif !(LV (V.lst x n cs) []).rq then bif !(LV (V.lst y m ds) []).rq then
 bif (LV (V.lst x n cs) []).mo==0 then R (V.bool true)else R (V.bool ((LV (V.slice 2 0 (0+n+m) false 0 0) [Blk.dead,Blk.dead,Blk.row (cs++ds) 9 1]).mo==(LV
 (V.lst x n cs) []).mo))else R (V.bool false)else R (V.bool false)else R (V.bool false)else R (V.bool false)else R (V.bool false)else R (V.bool false)else R (V.bool
 false)else R (V.bool false)else R (V.bool false)else R (V.bool false)else R (V.bool false)else False else R (V.bool false)else R (V.bool false)else R (V.bool
 false)else R (V.bool false)else R (V.bool false)else R (V.bool false)else R (V.bool false)else R (V.bool false)else R (V.bool false)else R (V.bool false)else R
 (V.bool false)else R (V.bool false)else R (V.bool false)else R (V.bool false)else False else R (V.bool false)else R (V.bool false)else R (V.bool false)else R
 (V.bool false)else R (V.bool false)else R (V.bool false)else R (V.bool false)else False else False else False else False else False else False else False else False
 else False else False else False):=by kernel_rfl
theorem numV_le(t:List UInt8):0≤numV t 1099511627776∧numV t 1099511627776≤1099511627776:=by
 unfold numV;cases h:(okNum t&&decide ((numF 0 t:Int)≤1099511627776))with
 |true=>
  rw[cond_true];rw[Bool.and_eq_true]at h;have:=of_decide_eq_true h.2;omega
 |false=>rw[cond_false];omega
def moOk(c:CP):Prop:=0≤c.mo∧c.mo≤1099511627776
theorem line_mo(u:List UInt8)(c:CP)(h:moOk c):moOk (lineU numV numE u c):=by
 unfold lineU;have hn:=numV_le (u.drop 5);cases(u.take 5==wSZ)&&!(numE (u.drop 5) 1099511627776==4)with
 |true=>
  rw[cond_true];show 0≤(bif c.mo==0 then numV (u.drop 5) 1099511627776 else c.mo)∧_;cases hm:(c.mo==0)with
  |true=>simp only[cond_true];exact hn
  |false=>simp only[cond_false];exact h
 |false=>rw[cond_false];exact h
theorem lines_mo:∀(l:List (List UInt8)) (c:CP),moOk c→moOk (linesU numV numE l c)
 |[],_,h=>h
 |s::r,c,h=>lines_mo r _ (line_mo (up s) c h)
theorem say_i64(l:List (List UInt8)):isI64 (sayC l).mo=true:=by
 have h:=lines_mo l cp0 ⟨Int.le_refl 0,by decide⟩;have h1:0≤(sayC l).mo∧(sayC l).mo≤1099511627776:=h;unfold isI64;rw[Bool.and_eq_true];exact⟨decide_eq_true (by omega),decide_eq_true (by omega)⟩
theorem say_app(l e:List (List UInt8)):sayC (l++e)=uniC (sayC l) (sayC e):=by
 unfold sayC;rw[lines_app,lines_uni]
theorem uni_zeroL(c:CP):uniC c ⟨false,false,false,false,false,false,0⟩=c:=uni_zero c
theorem zero_uniL(c:CP):uniC ⟨false,false,false,false,false,false,0⟩ c=c:=zero_uni c
theorem loN_ge:∀(l:List (List UInt8)) (n:Nat),n+10*l.length≤loN n l∨9000≤loN n l
 |[],n=>.inl (by simp[loN])
 |s::r,n=>by
  rw[loN];split
  ·rcases loN_ge r (n+10+min 9000 s.length)with h|h
   ·exact .inl (by rw[List.length_cons];omega)
   ·exact .inr h
  ·exact .inr (by omega)
theorem loN_mono:∀(l:List (List UInt8)) (n:Nat),n≤loN n l
 |[],n=>Nat.le_refl _
 |s::r,n=>by
  rw[loN];split
  ·have:=loN_mono r (n+10+min 9000 s.length);omega
  ·exact Nat.le_refl _
theorem loN_all:∀(l:List (List UInt8)) (n:Nat),loN n l<9000→∀s∈l,s.length<9000
 |[],_,_,s,hs=>by cases hs
 |c::r,n,h,s,hs=>by
  rw[loN]at h;split at h
  ·have:=loN_mono r (n+10+min 9000 c.length);rcases List.mem_cons.1 hs with rfl|hs
   ·omega
   ·exact loN_all r _ h s hs
  ·omega
theorem not_long{l:List (List UInt8)}(h:longS l=false):l.length≤900∧l.all shortS=true:=by
 have h:=of_decide_eq_false h;refine⟨by rcases loN_ge l 0 with h1|h1<;>omega,?_⟩;rw[List.all_eq_true];intro s hs;have:=loN_all l 0 (by omega) s hs;exact Nat.ble_eq_true_of_le (by omega)
theorem cm_close(x:Value)(l:List (List UInt8))(y:Value)(e:List (List UInt8))(h1:l.length≤9223372036854775807)(h2:e.length≤9223372036854775807):
  FnSat Tryd.prog 7 [lstS x l,lstS y e] [] (fun v _=>v=.bool true):=by
 refine runW_ok (lim:=9) (n:=10) mixed CMT_ok ?_;unfold lstS;rw[cm_law loOK loB olOK olV uniC x l.length (strs l) y e.length (strs e) (fun v=>v=.bool true)];have g1:∀(x:Value) (l:List (List UInt8)),l.length≤9223372036854775807→loOK (.lst x l.length (strs l)) []=true∧loB (.lst x l.length (strs l)) []=longS l:=fun x l hl=>by
  unfold loOK loB;rw[view_lst rfl];exact⟨Nat.ble_eq_true_of_le hl,rfl⟩
 rw[(g1 x l h1).1,(g1 x l h1).2,(g1 y e h2).1,(g1 y e h2).2,cond_true,cond_true];refine bif_intro (fun _=>rfl) (fun hl=>?_);refine bif_intro (fun _=>rfl) (fun he=>?_);obtain⟨l1,l2⟩:=not_long hl;obtain⟨e1,e2⟩:=not_long he;have k1:=ol_view (st:=[]) (p:=.lst x l.length (strs l)) (view_lst rfl) (by omega) l2;have k2:=ol_view (st:=[]) (p:=.lst y e.length (strs e)) (view_lst rfl) (by omega) e2;have hi1:=say_i64 l;have hi2:=say_i64 e;have happ:=say_app l e;rw[k1.1,k2.1,k1.2,k2.2,cond_true,cond_true];have len:∀n:Nat,n≤2000→(Nat.ble n 9223372036854775807&&Nat.ble (n*16) 140737488355328)=true:=fun n hn=>by
  rw[Nat.ble_eq_true_of_le (by omega),Nat.ble_eq_true_of_le (by omega)];rfl
 have all2:(l++e).all shortS=true:=by rw[List.all_append,l2,e2];rfl
 have row:∀(st:St) (k n:Nat) (q:List (List UInt8)),q=l++e→st[k]?=some (.row (strs q) 9 1)→n=q.length→olOK (.slice k 0 n false 0 0) st=true∧olV (.slice k 0 n false 0 0) st=sayC (l++e):=fun st k n q hq hk hn=>by
  subst hq;exact ol_view (view_row hk hn) (by rw[List.length_append];omega) all2
 refine bif_intro (fun n0=>?_) (fun n0=>?_)
 ·have l0:l=[]:=List.eq_nil_of_length_eq_zero (Nat.eq_of_beq_eq_true n0);refine bif_intro (fun m0=>?_) (fun m0=>?_)
  ·have e0:e=[]:=List.eq_nil_of_length_eq_zero (Nat.eq_of_beq_eq_true m0);obtain⟨r1,r2⟩:=row [.row [] 9 1] 0 0 [] (by rw[l0,e0];rfl) rfl rfl;rw[r1,r2,cond_true];rw[happ];revert hi1 hi2;generalize sayC l=a;generalize sayC e=b;intro hi1 hi2;obtain⟨a1,a2,a3,a4,a5,a6,am⟩:=a;obtain⟨b1,b2,b3,b4,b5,b6,bm⟩:=b;simp only[cond_true,hi1,hi2,uni_self,uni_zeroL,zero_uniL,beq_self_eq_true];unfold uniC;cases hm:(am==0)<;>cases a1<;>cases b1<;>cases a3<;>cases b3<;>simp
  ·obtain⟨r1,r2⟩:=row [.dead,.row (strs e) 9 1] 1 (0+e.length) e (by rw[l0];rfl) rfl (by omega);rw[strs_len,strs_one,Nat.mul_one,Nat.beq_refl,len (0+e.length) (by omega),r1,r2];rw[happ];revert hi1 hi2;generalize sayC l=a;generalize sayC e=b;intro hi1 hi2;obtain⟨a1,a2,a3,a4,a5,a6,am⟩:=a;obtain⟨b1,b2,b3,b4,b5,b6,bm⟩:=b;simp only[cond_true,hi1,hi2,uni_self,uni_zeroL,zero_uniL,beq_self_eq_true];unfold uniC;cases hm:(am==0)<;>cases a1<;>cases b1<;>cases a3<;>cases b3<;>simp
 ·rw[strs_len,strs_one,Nat.mul_one,Nat.beq_refl,len (0+l.length) (by omega)];refine must_intro rfl (must_intro rfl ?_);refine bif_intro (fun m0=>?_) (fun m0=>?_)
  ·have e0:e=[]:=List.eq_nil_of_length_eq_zero (Nat.eq_of_beq_eq_true m0);obtain⟨r1,r2⟩:=row [.dead,.row (strs l) 9 1] 1 (0+l.length) l (by rw[e0,List.append_nil]) rfl (by omega);rw[r1,r2,cond_true];rw[happ];revert hi1 hi2;generalize sayC l=a;generalize sayC e=b;intro hi1 hi2;obtain⟨a1,a2,a3,a4,a5,a6,am⟩:=a;obtain⟨b1,b2,b3,b4,b5,b6,bm⟩:=b;simp only[cond_true,hi1,hi2,uni_self,uni_zeroL,zero_uniL,beq_self_eq_true];unfold uniC;cases hm:(am==0)<;>cases a1<;>cases b1<;>cases a3<;>cases b3<;>simp
  ·obtain⟨r1,r2⟩:=row [.dead,.dead,.row (strs l++strs e) 9 1] 2 (0+l.length+e.length) (l++e) rfl (by rw[strs_app];rfl) (by rw[List.length_append];omega);rw[strs_len,strs_one,Nat.mul_one,Nat.beq_refl,Nat.mul_one,show l.length.beq (0+l.length)=true by rw[Nat.zero_add];exact Nat.beq_refl _,len (0+l.length+e.length) (by omega),r1,r2];rw[happ];revert hi1 hi2;generalize sayC l=a;generalize sayC e=b;intro hi1 hi2;obtain⟨a1,a2,a3,a4,a5,a6,am⟩:=a;obtain⟨b1,b2,b3,b4,b5,b6,bm⟩:=b;simp only[cond_true,hi1,hi2,uni_self,uni_zeroL,zero_uniL,beq_self_eq_true];unfold uniC;cases hm:(am==0)<;>cases a1<;>cases b1<;>cases a3<;>cases b3<;>simp
end Go.Proofs.YtmcdajbfomngcaaDoor
namespace Go.Proofs.YtmcdajbfomngcaaDoor
open Go Go.Vm Go.RowKit
open Go.ChangeShapes Go.WideShapes Go.ChangeAt
set_option linter.unusedVariables false
set_option linter.unusedSectionVars false
set_option maxRecDepth 100000
def strsSh:Sh:=.lst .str
theorem strsSh_ok:shOk Tryd.prog 9 strsSh 25=true:=by kernel_rfl
def IsStrs(w:World)(v:Value):Prop:=∃xan an,@real gl (Frz.of w) [] (lstS xan an)=some v∧an.length≤maxLen
theorem open_Strs{H:Type}{enc:TypeId×Value→H}{W:World}{b0:Nat}{r:Reach}{v:Value}{d:DataW H}{ps:List MemPlace}
  (hval:Value.okWide Tryd.prog W r b0 25 v)(hd:DataW.Trod enc Tryd.prog W 0 (fun _=>true) true 25 v d ps):IsStrs W v:=by
 obtain⟨sa,sl,sc,rfl⟩:=okWide_slice Tryd.underlying25 hval;obtain⟨fuel,hf⟩:=hd;obtain⟨dd,h1,h2⟩:=@open_sh gl _ _ _ _ _ _ _ 9 strsSh 25 fuel _ _ strsSh_ok hf;obtain⟨xan,ds_an,q_an,w_an,y_an⟩:=ofLst h1;subst q_an;obtain⟨an,c_an,m_an⟩:=strsD _ ds_an y_an;have n_an:ds_an.length=an.length:=by rw[c_an,List.length_map]
 simp only[cellsD,cellsDs,m_an,n_an,List.append_nil,List.cons_append,List.nil_append]at h2;have h3:=@realL_of0 gl (Frz.of W) [] _ _ h2;refine⟨xan,an,?_,by rw[←n_an];exact w_an⟩;simp only[realL]at h3;split at h3
 ·rename_i q1 q2 q3 q4;obtain⟨e1,_⟩:=List.cons.inj (Option.some.inj h3);subst e1;exact q3
 ·cases h3
theorem maxLen_eq:maxLen=9223372036854775807:=by decide
theorem bytes_str{w:World}(s:ByteArray):@real gl (Frz.of w) [] (.str s.data.toList)=some (.string s):=by simp[real]
theorem capsMore_walk(v0:Value)(v1:Value)(w:World)(x0:IsStrs w v0)(x1:IsStrs w v1)(hg:@GOk gl (Frz.of w) w.heap.size w):
  Calls Tryd.prog 7 #[v0,v1] w (fun e w'=>e=.returned (.bool true)∧Below w.heap.size w w'):=by
 obtain⟨xan_0,an_0,re0,hy_an_0⟩:=x0;obtain⟨xan_1,an_1,re1,hy_an_1⟩:=x1;refine @frz_law gl Tryd.prog 7 [lstS xan_0 an_0,lstS xan_1 an_1] [v0,v1] w (@cm_close (Frz.of w) xan_0 an_0 xan_1 an_1 (by rw[maxLen_eq]at hy_an_0;exact hy_an_0) (by rw[maxLen_eq]at hy_an_1;exact hy_an_1)) ?_ hg;simp only[realL,bytes_str,re0,re1]
end Go.Proofs.YtmcdajbfomngcaaDoor
namespace Go.Proofs.YtmcdajbfomngcaaDoor
open Go Go.Vm Go.RowKit
open Go.ChangeShapes Go.WideShapes Go.ChangeAt Go.WideMaps Go.WideElems
set_option linter.unusedVariables false
set_option linter.unusedSectionVars false
set_option maxRecDepth 100000
variable [Φ:Frz]
def partsD:DataW Unit→List (DataW Unit)
 |.agg l=>l
 |_=>[]
def ofD:DataW Unit→V
 |.lit (.int k n)=>.int k n
 |_=>.bool false
theorem var_heap{P:Program}{w:World}{n:String}{g:Nat}{cs:Array Value}(hg:P.globalNamed n=some g)(h:w.var? P n=some cs):∃t fz,w.heap[g]?=some (.cells cs t fz):=by
 simp only[World.var?,hg,Option.bind_some]at h;split at h
 ·rename_i c t fz hb;cases h;exact⟨t,fz,hb⟩
 ·cases h
section
def Cells(W:World)(g:Nat)(C:List V):Prop:=∃arr t fz,W.heap[g]?=some (.cells arr t fz)∧(∀i v,C[i]?=some v→∃x,real [] v=some x∧arr[0+i]?=some x)∧arr.size=0+C.length
theorem int_cells{W:World}{n:String}{g t0 t e N f0:Nat}{k:IntKind}{C:List V}{d:DataW Unit}{cs0:Array Value}{p0:List MemPlace}{sp:Nat→Bool}{held:Bool}{enc:TypeId×Value→Unit}(hg:Tryd.prog.globalNamed n=some g)(hu:Tryd.prog.underlying t=some (.array N e))(hk:Tryd.prog.underlying e=some (.int k))(hw:Tryd.prog.cellsOf e=1)(hct:Tryd.prog.cellsOf t=N)
  (hd:d=.agg (partsD d))(hC:C=(partsD d).map ofD)(ht0:t0=t)(hv0:W.var? Tryd.prog n=some cs0)(hd0:DataW.trod enc Tryd.prog W 0 sp held f0 t0 cs0.toList=some (d,p0)):Cells W g C:=by
 subst ht0;obtain⟨ty,fz,hheap⟩:=var_heap hg hv0;obtain⟨xs,m1,rfl,hx1,hlen,hn,hel⟩:=DataW.trod_array hu hd0;rw[hd]at hx1;simp only[Prod.mk.injEq,DataW.agg.injEq]at hx1;have hD:=hx1.1;refine⟨cs0,ty,fz,hheap,fun i v hv=>?_,?_⟩
 ·rw[hC,hD,List.getElem?_map,List.getElem?_map]at hv;cases hxi:xs[i]? with
  |none=>rw[hxi]at hv;cases hv
  |some x=>
   rw[hxi]at hv;simp only[Option.map_some,Option.some.injEq]at hv;have hi:i<N:=by rw[←hn];exact(List.getElem?_eq_some_iff.1 hxi).1
   have h1:=hel i hi;rw[hxi,hw,Nat.mul_one]at h1;obtain⟨a,e0,e1,wa⟩:=DataW.trod_int hk h1;subst e1;simp only[ofD]at hv;subst hv;refine⟨.int k a,rfl,?_⟩;rw[Nat.zero_add];have e2:((cs0.toList.drop i).take 1)[0]?=some (Value.int k a):=by rw[e0];rfl
   rw[List.getElem?_take,if_pos (by omega),List.getElem?_drop,Nat.add_zero]at e2;simpa using e2
 ·rw[hC,hD,Nat.zero_add,List.length_map,List.length_map,hn,←hct];simpa using hlen
end
theorem plain_part{P:Program}{l:List (String×DataW Unit)}{w:World}(h:laidMetH P l w):laidMet P (l.filter fun x=>x.2.handleName?.isNone) w:=by
 unfold laidMetH at h;generalize hfl:(l.filter fun x=>x.2.handleName?.isSome)=fl at h;cases fl with
 |nil=>
  have e:(l.filter fun x=>x.2.handleName?.isNone)=l:=by
   rw[List.filter_eq_self];intro x hx;have:=(List.filter_eq_nil_iff.1 hfl) x hx;cases hn:x.2.handleName? with
   |none=>rfl
   |some s=>rw[hn]at this;exact absurd rfl this
  rw[e];exact h
 |cons a b=>exact h.1
theorem laid_var{P:Program}{w:World}{n:String}{d:DataW Unit}:∀{l:List (String×DataW Unit)} {ps:List MemPlace},DataW.LaidVars P w l ps→(n,d)∈l→∃g t cs fuel p,P.globalNamed n=some g∧(P.globals[g]?).map (·.type)=some t∧w.var? P n=some cs∧DataW.trod (fun _=>()) P w 0 (fun _=>true) false fuel t cs.toList=some (d,p)
 |[],_,_,h=>by cases h
 |(n',d')::r,ps,h,hm=>by
  obtain⟨g,t,cs,fuel,p,q,h1,h2,h3,h4,h5,_⟩:=h;rcases List.mem_cons.1 hm with e|hm
  ·cases e;exact⟨g,t,cs,fuel,p,h1,h2,h3,h4⟩
  ·exact laid_var h5 hm
theorem plain_var{P:Program}{l:List (String×DataW Unit)}{w:World}(h:laidMetH P l w){n:String}{d:DataW Unit}(hm:(n,d)∈l)(hn:d.handleName?.isNone=true):∃g t cs fuel p,P.globalNamed n=some g∧(P.globals[g]?).map (·.type)=some t∧w.var? P n=some cs∧DataW.trod (fun _=>()) P w 0 (fun _=>true) false fuel t cs.toList=some (d,p):=by
 obtain⟨ps,hl,_,_⟩:=plain_part h;exact laid_var hl (List.mem_filter.2 ⟨hm,hn⟩)
theorem own:ownKnob Tryd.prog.godebug=none:=by kernel_rfl
theorem cells_6{W:World}(h:laidMetH Tryd.prog Rows.capsMoreRow.laid W):Cells W 6 powC:=by
 have hm:("internal/strconv.uint64pow10",(Rows.laid_internal_strconv_uint64pow10:DataW Unit))∈Rows.capsMoreRow.laid:=List.mem_of_getElem? (i:=2) rfl;obtain⟨g,t,cs,fuel,p,h1,h2,h3,h4⟩:=plain_var h hm rfl;have e1:Tryd.prog.globalNamed "internal/strconv.uint64pow10"=some 6:=by kernel_rfl
 obtain rfl:=Option.some.inj (e1.symm.trans h1);have e2:(Tryd.prog.globals[6]?).map (·.type)=some 142:=by kernel_rfl
 exact int_cells (n:= "internal/strconv.uint64pow10") (t:=142) (e:=30) (N:=20) (k:=.u64) e1 (by kernel_rfl) (by kernel_rfl) (by kernel_rfl) (by kernel_rfl) rfl (by kernel_rfl) (Option.some.inj (e2.symm.trans h2)).symm h3 h4
theorem cells_2{W:World}(h:laidMetH Tryd.prog Rows.capsMoreRow.laid W):Cells W 2 firstC:=by
 have hm:("unicode/utf8.first",(Rows.laid_unicode_utf8_first:DataW Unit))∈Rows.capsMoreRow.laid:=List.mem_of_getElem? (i:=6) rfl;obtain⟨g,t,cs,fuel,p,h1,h2,h3,h4⟩:=plain_var h hm rfl;have e1:Tryd.prog.globalNamed "unicode/utf8.first"=some 2:=by kernel_rfl
 obtain rfl:=Option.some.inj (e1.symm.trans h1);have e2:(Tryd.prog.globals[2]?).map (·.type)=some 117:=by kernel_rfl
 exact int_cells (n:= "unicode/utf8.first") (t:=117) (e:=5) (N:=256) (k:=.u8) e1 (by kernel_rfl) (by kernel_rfl) (by kernel_rfl) (by kernel_rfl) rfl (by kernel_rfl) (Option.some.inj (e2.symm.trans h2)).symm h3 h4
theorem cells_3{W:World}(h:laidMetH Tryd.prog Rows.capsMoreRow.laid W):Cells W 3 accC:=by
 have hm:("unicode/utf8.acceptRanges",(Rows.laid_unicode_utf8_acceptRanges:DataW Unit))∈Rows.capsMoreRow.laid:=List.mem_of_getElem? (i:=3) rfl;obtain⟨g,t,cs,fuel,p,h1,h2,h3,h4⟩:=plain_var h hm rfl;have e1:Tryd.prog.globalNamed "unicode/utf8.acceptRanges"=some 3:=by kernel_rfl
 obtain rfl:=Option.some.inj (e1.symm.trans h1);have e2:(Tryd.prog.globals[3]?).map (·.type)=some 120:=by kernel_rfl
 obtain rfl:=Option.some.inj (e2.symm.trans h2);obtain⟨ty,fz,hheap⟩:=var_heap e1 h3;obtain⟨xs,m1,rfl,hx1,hlen,hn,hel⟩:=DataW.trod_array (n:=16) (e:=119) (by kernel_rfl) h4;have eD:(Rows.laid_unicode_utf8_acceptRanges:DataW Unit)=.agg ((List.range 16).map fun i=>.agg [.lit (.int .u8 (Lib.accLo i)),.lit (.int .u8 (Lib.accHi i))]):=by kernel_rfl
 rw[eD]at hx1;simp only[Prod.mk.injEq,DataW.agg.injEq]at hx1;have hD:=hx1.1;have hsz:cs.size=32:=by
  have hc:Tryd.prog.cellsOf 120=32:=by kernel_rfl
  rw[hc]at hlen;simpa using hlen
 have hc2:Tryd.prog.cellsOf 119=2:=by kernel_rfl
 have both:∀i,i<16→cs[2*i]?=some (.int .u8 (Lib.accLo i))∧cs[2*i+1]?=some (.int .u8 (Lib.accHi i)):=by
  intro i hi;have h1:=hel i hi;rw[hc2]at h1;have h5:((List.range 16).map fun i=>(DataW.agg [.lit (.int .u8 (Lib.accLo i)),.lit (.int .u8 (Lib.accHi i))]:DataW Unit))[i]?=some (.agg [.lit (.int .u8 (Lib.accLo i)),.lit (.int .u8 (Lib.accHi i))]):=by
   rw[List.getElem?_map,List.getElem?_range hi];rfl
  rw[hD,List.getElem?_map]at h5;cases hxi:xs[i]? with
  |none=>rw[hxi]at h5;cases h5
  |some x=>
   rw[hxi]at h5 h1;simp only[Option.map_some,Option.some.injEq]at h5;obtain⟨y0,y1,n,rfl,hl,q0,q1⟩:=trod_struct2 Tryd.underlying119 h1;simp only[DataW.agg.injEq,List.cons.injEq,and_true]at h5;have c5:Tryd.prog.cellsOf 5=1:=by kernel_rfl
   replace q0:DataW.trod (fun _=>()) Tryd.prog W 0 (fun _=>true) false n 5 ((((cs.toList.drop (i*2)).take 2).drop 0).take (Tryd.prog.cellsOf 5))=some y0:=q0;replace q1:DataW.trod (fun _=>()) Tryd.prog W 0 (fun _=>true) false n 5 ((((cs.toList.drop (i*2)).take 2).drop 1).take (Tryd.prog.cellsOf 5))=some y1:=q1;rw[c5]at q0 q1;obtain⟨a,e0,e1,wa⟩:=DataW.trod_int (k:=.u8) (by kernel_rfl) q0;obtain⟨b,e2,e3,wb⟩:=DataW.trod_int (k:=.u8) (by kernel_rfl) q1;subst e1;subst e3;simp only[DataW.lit.injEq,Lit.int.injEq,true_and]at h5;obtain⟨ha,hb⟩:=h5;subst ha;subst hb;have e2':((((cs.toList.drop (i*2)).take 2).drop 0).take 1)[0]?=some (Value.int .u8 (Lib.accLo i)):=by rw[e0];rfl
   have e3':((((cs.toList.drop (i*2)).take 2).drop 1).take 1)[0]?=some (Value.int .u8 (Lib.accHi i)):=by rw[e2];rfl
   simp only[List.getElem?_take,List.getElem?_drop]at e2' e3';have m2:i*2=2*i:=by omega
   constructor
   ·simpa[m2]using e2'
   ·simpa[m2]using e3'
 refine⟨cs,ty,fz,hheap,fun i v hv=>?_,by rw[hsz];kernel_rfl⟩;have hi:i<32:=by
  have hl:accC.length=32:=by kernel_rfl
  rw[←hl];exact(List.getElem?_eq_some_iff.1 hv).1
 rw[Nat.zero_add];rcases(show(∃j,j<16∧i=2*j)∨(∃j,j<16∧i=2*j+1) by
  rcases Nat.mod_two_eq_zero_or_one i with h0|h0
  ·exact .inl ⟨i/2,by omega,by omega⟩
  ·exact .inr ⟨i/2,by omega,by omega⟩)with⟨j,hj,rfl⟩|⟨j,hj,rfl⟩
 ·have:=(pairs_get (f:=fun i=>V.int .u8 (Lib.accLo i)) (g:=fun i=>V.int .u8 (Lib.accHi i)) hj).1;have e:=this.symm.trans hv;cases e;exact⟨_,rfl,(both j hj).1⟩
 ·have:=(pairs_get (f:=fun i=>V.int .u8 (Lib.accLo i)) (g:=fun i=>V.int .u8 (Lib.accHi i)) hj).2;have e:=this.symm.trans hv;cases e;exact⟨_,rfl,(both j hj).2⟩
theorem laid_var2{P:Program}{w:World}{n:String}{d:DataW Unit}:∀{l:List (String×DataW Unit)} {ps:List MemPlace},DataW.LaidVars P w l ps→(n,d)∈l→∃g t cs fuel p,P.globalNamed n=some g∧(P.globals[g]?).map (·.type)=some t∧w.var? P n=some cs∧DataW.trod (fun _=>()) P w 0 (fun _=>true) false fuel t cs.toList=some (d,p)∧∀i,i<cs.size→MemPlace.cell g i∈ps
 |[],_,_,h=>by cases h
 |(n',d')::r,ps,h,hm=>by
  obtain⟨g,t,cs,fuel,p,q,h1,h2,h3,h4,h5,h6⟩:=h;rcases List.mem_cons.1 hm with e|hm
  ·cases e;refine⟨g,t,cs,fuel,p,h1,h2,h3,h4,fun i hi=>?_⟩;rw[h6];refine List.mem_append_left _ (List.mem_append_left _ ?_);exact List.mem_map.2 ⟨i,List.mem_range.2 hi,by simp⟩
  ·obtain⟨g2,t2,cs2,fuel2,p2,k1,k2,k3,k4,k5⟩:=laid_var2 h5 hm;exact⟨g2,t2,cs2,fuel2,p2,k1,k2,k3,k4,fun i hi=>by rw[h6];exact List.mem_append_right _ (k5 i hi)⟩
theorem trod_iface{P:Program}{w:World}{base:Nat}{sp:Nat→Bool}{fuel:Nat}{t:TypeId}{cs:List Value}{enc:TypeId×Value→Unit}{name:String}{d:DataW Unit}{p:List MemPlace}(ht:∃ms,P.underlying t=some (.interface ms))(h:DataW.trod enc P w base sp false fuel t cs=some (.iface name d,p)):
  ∃u v m,cs=[.iface u v]∧P.typeName? 3 u=some name∧DataW.trod enc P w base sp false m u v.cells.toList=some (d,p):=by
 obtain⟨ms,ht⟩:=ht;cases fuel with
 |zero=>simp[DataW.trod]at h
 |succ n=>
  unfold DataW.trod at h;rw[ht]at h;split at h<;>simp_all;rename_i u v hh;cases hn:P.typeName? 3 u with
  |none=>rw[hn]at h;simp at h
  |some nm=>
   rw[hn]at h;simp only[Option.map_eq_some_iff]at h;obtain⟨x,hx,he⟩:=h;simp only[Prod.mk.injEq,DataW.iface.injEq]at he;obtain⟨⟨rfl,rfl⟩,rfl⟩:=he;refine⟨u,v,?_⟩
   first|exact⟨⟨rfl,rfl⟩,hn,n,hx⟩|exact⟨n,⟨rfl,rfl⟩,hn,hx⟩|exact⟨rfl,hn,n,hx⟩|exact⟨n,rfl,hn,hx⟩|exact⟨n,by simp,hn,hx⟩
theorem trod_ptr_of{P:Program}{w:World}{base:Nat}{sp:Nat→Bool}{held:Bool}{fuel:Nat}{t:TypeId}{cs:List Value}{enc:TypeId×Value→Unit}{d:DataW Unit}{p:List MemPlace}(h:DataW.trod enc P w base sp held fuel t cs=some (.ptr d,p)):∃e,P.underlying t=some (.pointer e):=by
 cases fuel with
 |zero=>simp[DataW.trod]at h
 |succ n=>
  unfold DataW.trod at h;cases hu:P.underlying t with
  |none=>rw[hu]at h;simp at h
  |some u=>
   rw[hu]at h;cases u with
   |pointer e=>exact⟨e,rfl⟩
   |_=>
    exfalso;revert h;simp only
    repeat' split
    all_goals (intro h;simp_all [Option.bind_eq_some_iff])
theorem trod_lit_nil{P:Program}{w:World}{base:Nat}{sp:Nat→Bool}{held:Bool}{fuel:Nat}{t:TypeId}{enc:TypeId×Value→Unit}{l:Lit}{p:List MemPlace}(h:DataW.trod enc P w base sp held fuel t []=some (.lit l,p)):False:=by
 cases fuel with
 |zero=>simp[DataW.trod]at h
 |succ n=>
  unfold DataW.trod at h;cases hu:P.underlying t with
  |none=>rw[hu]at h;simp at h
  |some u=>
   rw[hu]at h;revert h;simp only
   repeat' split
   all_goals (intro h;simp_all [Option.bind_eq_some_iff])
theorem mapM_one{α β:Type}{f:α→Option β}:∀{l:List α} {y:β},l.mapM f=some [y]→∃x,f x=some y
 |[],y,h=>by simp at h
 |x::l,y,h=>by
  simp only[List.mapM_cons,Option.bind_eq_bind,Option.bind_eq_some_iff,Option.pure_def,Option.some.injEq,List.cons.injEq]at h;obtain⟨a,ha,b,hb,rfl,rfl⟩:=h;exact⟨x,ha⟩
theorem trod_agg_nil{P:Program}{w:World}{base:Nat}{sp:Nat→Bool}{held:Bool}{fuel:Nat}{t:TypeId}{enc:TypeId×Value→Unit}{l:Lit}{p:List MemPlace}(h:DataW.trod enc P w base sp held fuel t []=some (.agg [.lit l],p)):False:=by
 cases fuel with
 |zero=>simp[DataW.trod]at h
 |succ n=>
  unfold DataW.trod at h;cases hu:P.underlying t with
  |none=>rw[hu]at h;simp at h
  |some u=>
   rw[hu]at h;cases u with
   |struct fs=>
    simp only at h;split at h
    ·simp only[List.drop_nil,List.take_nil,Option.map_eq_some_iff,Prod.mk.injEq,DataW.agg.injEq]at h;obtain⟨xs,hx,h1,_⟩:=h
     match xs,hx,h1 with
     |[(y,q)],hx,h1=>
      simp only[List.map_cons,List.map_nil,List.cons.injEq,and_true]at h1;subst h1;obtain⟨x,hx⟩:=mapM_one hx;exact trod_lit_nil hx
     |[],hx,h1=>simp at h1
     |a::b::r,hx,h1=>simp at h1
    ·cases h
   |array k e=>
    simp only at h;split at h
    ·simp only[List.drop_nil,List.take_nil,Option.map_eq_some_iff,Prod.mk.injEq,DataW.agg.injEq]at h;obtain⟨xs,hx,h1,_⟩:=h
     match xs,hx,h1 with
     |[(y,q)],hx,h1=>
      simp only[List.map_cons,List.map_nil,List.cons.injEq,and_true]at h1;subst h1;obtain⟨x,hx⟩:=mapM_one hx;exact trod_lit_nil hx
     |[],hx,h1=>simp at h1
     |a::b::r,hx,h1=>simp at h1
    ·cases h
   |_=>
    exfalso;revert h;simp only
    repeat' split
    all_goals (intro h;simp_all [Option.bind_eq_some_iff])
set_option maxRecDepth 100000 in
theorem err_cell{W:World}(h:laidMetH Tryd.prog Rows.capsMoreRow.laid W):∃tp b o arr t fz,W.heap[5]?=some (.cells arr t fz)∧arr[0]?=some (.iface tp (.pointer (some ⟨b,o,none⟩))):=by
 have hm:("strconv.ErrRange",(Rows.laid_strconv_ErrRange:DataW Unit))∈Rows.capsMoreRow.laid:=List.mem_of_getElem? (i:=4) rfl;obtain⟨ps,hl,_,hw⟩:=plain_part h;obtain⟨g,t,cs,fuel,p,h1,h2,h3,h4,h5⟩:=laid_var2 hl (List.mem_filter.2 ⟨hm,rfl⟩);have e1:Tryd.prog.globalNamed "strconv.ErrRange"=some 5:=by kernel_rfl
 obtain rfl:=Option.some.inj (e1.symm.trans h1);have e2:(Tryd.prog.globals[5]?).map (·.type)=some 70:=by kernel_rfl
 obtain rfl:=Option.some.inj (e2.symm.trans h2);obtain⟨ty,fz,hheap⟩:=var_heap e1 h3;have eD:∃nm l,(Rows.laid_strconv_ErrRange:DataW Unit)=.iface nm (.ptr (.agg [.lit l])):=⟨_,_,rfl⟩;obtain⟨nm,lt,eD⟩:=eD;rw[eD]at h4;obtain⟨u,v,m,hcs,hname,htr⟩:=trod_iface ⟨_,Tryd.underlying70⟩ h4;obtain⟨e,hue⟩:=trod_ptr_of htr;have hsz:cs.size=1:=by have:=congrArg List.length hcs;simpa using this
 have hcs':cs=#[.iface u v]:=Array.toList_inj.1 hcs;have hc0:W.cell? ⟨5,0,none⟩=some (.iface u v):=by
  subst hcs';rw[cell_of_row W 5 0 _ ty fz hheap];rfl
 have hok:=(hw 5 0 (h5 0 (by omega))).2 _ _ hc0;obtain⟨a,rfl⟩:=okWide_pointer hue hok;have hc1:(Value.pointer a).cells.toList=[.pointer a]:=rfl;rw[hc1]at htr;rcases DataW.trod_pointer hue htr with⟨_,hx⟩|⟨ad,cs',y,n,_,hp,hx,hcells,hy⟩
 ·simp at hx
 ·simp only[List.cons.injEq,Value.pointer.injEq,and_true]at hp;subst hp;simp only[Prod.mk.injEq,DataW.ptr.injEq]at hx;have hsp:ad.spot=none:=by
   unfold World.cells? at hcells;split at hcells
   ·cases hw1:Tryd.prog.cellsOf e with
    |zero=>
     rw[hw1]at hcells;simp at hcells;subst hcells;obtain⟨y1,y2⟩:=y;simp only at hx;rw[←hx.1]at hy;exact absurd hy (fun hy=>trod_agg_nil hy)
    |succ k=>
     rw[hw1,List.range_succ_eq_map,List.mapM_cons]at hcells;have e0:ad.add 0=ad:=by simp[Addr.add]
     rw[e0]at hcells;cases hcc:W.cell? ad with
     |none=>rw[hcc]at hcells;simp at hcells
     |some c=>
      unfold World.cell? at hcc;split at hcc
      ·cases hs:ad.spot with
       |none=>rfl
       |some s=>simp[hs]at hcc
      ·cases hcc
   ·cases hcells
  refine⟨u,ad.block,ad.off,cs,ty,fz,hheap,?_⟩;subst hcs';obtain⟨b,o,s⟩:=ad;simp only at hsp;subst hsp;rfl
theorem laid_gok{W:World}(hΦ:∀k o,Φ.φ k=some o→W.heap[k]?=some o)(h:laidMetH Tryd.prog Rows.capsMoreRow.laid W):GOk W.heap.size W:=by
 have low:∀{g:Nat} {C:List V},Cells W g C→g<W.heap.size:=fun⟨_,_,_,hh,_⟩=>(Array.getElem?_eq_some_iff.1 hh).1;have fin:∀{g:Nat} {C:List V} {b:Bool},Cells W g C→g<W.heap.size∧∃arr t fz,W.heap[g]?=some (.cells arr t fz)∧(∀i v,C[i]?=some v→∃x,real [] v=some x∧arr[0+i]?=some x)∧(b=true→arr.size=0+C.length):=fun hc=>by
  obtain⟨arr,t,fz,h1,h2,h3⟩:=hc;exact⟨(Array.getElem?_eq_some_iff.1 h1).1,arr,t,fz,h1,h2,fun _=>h3⟩
 refine⟨fun k cs hk=>?_,fun k hk=>?_,fun k o hk=>⟨(Array.getElem?_eq_some_iff.1 (hΦ k o hk)).1,hΦ k o hk⟩⟩
 ·by_cases e2:k=2
  ·subst e2;cases hk;exact fin (cells_2 h)
  by_cases e3:k=3
  ·subst e3;cases hk;exact fin (cells_3 h)
  by_cases e6:k=6
  ·subst e6;cases hk;exact fin (cells_6 h)
  exfalso;revert hk;rcases k with _|_|_|_|_|_|_|_|_|_|k<;>intro hk<;>first|(cases hk;done)|omega
 ·by_cases e5:k=5
  ·subst e5;obtain⟨tp,b,o,arr,t,fz,hheap,harr⟩:=err_cell h;exact⟨(Array.getElem?_eq_some_iff.1 hheap).1,arr,t,fz,_,hheap,harr,.inr ⟨_,_,rfl⟩⟩
  exfalso;revert hk;rcases k with _|_|_|_|_|_|_|_|_|_|k<;>intro hk<;>first|(cases hk;done)|omega
end Go.Proofs.YtmcdajbfomngcaaDoor
