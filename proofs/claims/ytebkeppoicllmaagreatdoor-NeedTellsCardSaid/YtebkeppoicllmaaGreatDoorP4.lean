/- Parts of this work: what the functions come to. -/
import Derived.Test.YtebkeppoicllmaaGreatDoorP3
import Derived.Test.YtebkeppoicllmaaGreatDoorAwake
import Derived.Test.YtebkeppoicllmaaGreatDoorP1
import Derived.Test.YtebkeppoicllmaaGreatDoorVmc
import Derived.Test.YtebkeppoicllmaaGreatDoorRows
import Derived.WalkKit
import Derived.ProofKit
import Derived.OpenShut
import Derived.ShutString
import Derived.SizedLaws
import Derived.LaidMore
import Derived.Stop.Joined
import Derived.LaidHandle
noncomputable section
set_option linter.unusedVariables false
set_option linter.unusedSectionVars false
set_option maxRecDepth 100000
namespace Go.Proofs.YtebkeppoicllmaaGreatDoor
open Go.IntKind (u8 u16 u32 u64 i8 i16 i32 i64)
open Go Go.Vm Go.RowKit
variable [Φ:Frz]
def NTL(LG:List UInt8→List V→List V→Bool)(LOK LB:V→V→St→Bool):Tab:=⟨addT (addT (addT (addT (addP noT 17 awakeF) 24 (largeU LG)) 25 rtellT) 31 fitT) 32 fitT,addS noL 16 (og LOK LB),er (bk 9) 5 0 lkNT⟩
theorem NTL_ok:TabOk3 Qq (NTL ga gH j7):=⟨bg (bg (bg (bg (bh aW awakeF_ok) largeU_ok) rtellT_ok) fitT_ok) rfitT_ok,fx aX longG_ok,cD (aE 9) lkNT_ok⟩
def bL(pl rq mx se ha:Bool)(h:List UInt8)(co mo ag:Int)(x1 x2 x3 x4:Value)(n1 n2 n3 n4:Nat)(c1 c2 c3 c4:List V):=[V.bool pl,V.bool rq,V.str h,V.bool mx,V.int u8 co,V.bool se,V.lst x1 n1 c1,V.lst x2 n2 c2,V.lst x3 n3 c3,V.bool ha,V.int u8 mo,V.lst x4 n4 c4,V.int i64 ag]
def cy(hb:List UInt8)(xb:Value)(nb:Nat)(cb:List V)(b1 b2:Bool)(b3:Int):=[V.str hb,V.lst xb nb cb,V.bool b1,V.bool b2,V.int u8 b3]
def kI(pl rq ha:Bool)(h:List UInt8)(mo:Int):=[V.str (h),V.nilSlice,V.bool (rq||efB pl rq ha mo),V.bool (rq||efB pl rq ha mo),V.int u8 (kdI pl rq false ha mo)]
def mn(h:List UInt8)(c3:List V):=[V.str (h),V.slice 4 0 (ab (usaL c3)).length false 0 0,V.bool false,V.bool true,V.int u8 1]
def kH:=[V.str [],V.nilSlice,V.bool false,V.bool false,V.int u8 0]
def zCa_5:=[some (V.ptr 0 0),some (V.bool false),some (V.slice 2 0 0 false 0 0),some (V.int i64 0)]
def zCa_6(n3:Nat):=[some (V.ptr 0 0),some (V.bool false),some (V.slice 2 0 (0+n3) false 0 0),some (V.int i64 0)]
def kG(pl rq ha:Bool)(h:List UInt8)(mo:Int):=[V.str (h),V.nilSlice,V.bool (rq||efB pl rq ha mo),V.bool true,V.int u8 1]
def zCa_8:=[V.ptr 0 0,V.ptr 1 0,V.bool false,V.slice 2 0 0 false 0 0,V.ptr 3 0,V.bool true,V.int i64 0]
def zCa_9(n3:Nat):=[V.ptr 0 0,V.ptr 1 0,V.bool false,V.slice 2 0 (0+n3) false 0 0,V.ptr 3 0,V.bool true,V.int i64 0]
def kK:=[V.ptr 0 0,V.bool false,V.slice 1 0 0 false 0 0,V.int i64 0]
def kJ(n3:Nat):=[V.ptr 0 0,V.bool false,V.slice 1 0 (0+n3) false 0 0,V.int i64 0]
def zCa_12:=[some (V.ptr 0 0),some (V.ptr 1 0),some (V.bool false),some (V.slice 3 0 0 false 0 0),some (V.ptr 4 0),some (V.bool true),some (V.int i64 0)]
def zCa_13(n3:Nat):=[some (V.ptr 0 0),some (V.ptr 1 0),some (V.bool false),some (V.slice 4 0 (0+n3) false 0 0),some (V.ptr 5 0),some (V.bool true),some (V.int i64 0)]
theorem ntl_law(LG:List UInt8→List V→List V→Bool)(LOK LB:V→V→St→Bool)(pl rq:Bool)(h:List UInt8)(mx:Bool)(co:Int)(se:Bool)(x1:Value)(n1:Nat)(c1:List V)(x2:Value)(n2:Nat)(c2:List V)(x3:Value)(n3:Nat)(c3:List V)(ha:Bool)(mo:Int)(x4:Value)(n4:Nat)(c4:List V)(ag:Int)(hb:List UInt8)(xb:Value)(nb:Nat)(cb:List V)(b1 b2:Bool)(b3:Int)(R:V→Prop):runW Qq (NTL LG LOK LB) 9 10 5 [.agg [.bool pl,.bool rq,.str h,.bool mx,.int .u8 co,.bool se,.lst x1 n1 c1,.lst x2 n2 c2,.lst x3 n3 c3,.bool ha,.int .u8 mo,.lst x4 n4 c4,.int .i64 ag],.agg [.str hb,.lst xb nb cb,.bool b1,.bool b2,.int .u8 b3]] R=
 (
 bif okT n3 c3&&okS n4 c4 then bif LG h c4 c3 then R (.bool true)else bif LOK (.slice 2 0 1 false 0 0) (.lst xb nb cb) [.row (bL pl rq mx se ha h co
 mo ag x1 x2 x3 x4 n1 n2 n3 n4 c1 c2 c3 c4) 58 13,.row (cy hb xb nb cb b1 b2 b3) 38 5,.row [.str (hb)] 9 1]then bif LB (.slice 2 0 1 false 0 0)
 (.lst xb nb cb) [.row (bL pl rq mx se ha h co mo ag x1 x2 x3 x4 n1 n2 n3 n4 c1 c2 c3 c4) 58 13,.row (cy hb xb nb cb b1 b2 b3) 38 5,.row [.str
 (hb)] 9 1]then R (.bool true)else bif n3.beq 0 then bif dl (h) n3 c3 n4 c4&&notB pl rq mx co se n3 c3 ha mo c4 (h)then Fits 0 [.ptr 0 0,.ptr 1 0,
 .bool false,.slice 2 0 0 false 0 0,.ptr 3 0,.bool false,.int i64 0] [.row (bL pl rq mx se ha h co mo ag x1 x2 x3 x4 n1 n2 n3 n4 c1 c2 c3
 c4) 58 13,.row (cy hb xb nb cb b1 b2 b3) 38 5,.row [] 72 4,.row kH 43 5,.dead] [some (.ptr 0 0),some (.ptr 1 0),some (.bool false),
 some (.slice 3 0 0 false 0 0),some (.ptr 4 0),some (.bool false),some (.int i64 0)] [.row (bL pl rq mx se ha h co mo ag x1 x2 x3 x4 n1 n2 n3
 n4 c1 c2 c3 c4) 58 13,.row (cy hb xb nb cb b1 b2 b3) 38 5,.row [.str (hb)] 9 1,.row [] 72 4,.row kH 43 5]∧bif cT
 {y:={pl:=pl,rq:=rq,h:=h,mx:=mx,co:=co,se:=se,x1:=x1,n1:=n1,c1:=c1,x2:=x2,n2:=n2,c2:=c2,x3:=x3,n3:=n3,c3:=c3,ha:=ha,mo:=mo,x4:=x4,n4:=n4,c4:=c4,ag:=ag,hb:=hb,xb:=xb,nb:=nb,cb:=cb,b1:=b1,b2:=b2,b3:=b3,on:=0,oc:=[],wh:=[],wn:=none,wk:=[],w1:=false,w2:=false,w3:=0,was:=false},r:=0}
 then ∀(j:Int),Fits 0 kK [.row (bL pl rq mx se ha h co mo ag x1 x2 x3 x4 n1 n2 n3 n4 c1 c2 c3 c4) 58 13,.row [] 72 4] zCa_5 [.row (bL pl
 rq mx se ha h co mo ag x1 x2 x3 x4 n1 n2 n3 n4 c1 c2 c3 c4) 58 13,.row (cy hb xb nb cb b1 b2 b3) 38 5,.row [] 72 4,.row kH 43 5,.dead]∧
 bif fc
 {y:={pl:=pl,rq:=rq,h:=h,mx:=mx,co:=co,se:=se,x1:=x1,n1:=n1,c1:=c1,x2:=x2,n2:=n2,c2:=c2,x3:=x3,n3:=n3,c3:=c3,ha:=ha,mo:=mo,x4:=x4,n4:=n4,c4:=c4,ag:=ag,hb:=[],xb:=x3,nb:=0,cb:=[],b1:=false,b2:=false,b3:=0,on:=0,oc:=[],wh:=[],wn:=none,wk:=[],w1:=false,w2:=false,w3:=0,was:=false},i:=0}
 then ∀(j:Int),bif okS n4 c4&&(lenA c4&&aF h)then bif okS n4 c4&&(lenA c4&&aF h)then bif fitB pl rq h ha mo c4==fitB pl rq h ha mo c4 then R
 (.bool true)else R (.bool false)else False else False else False else False else bif dl (h) n3 c3 n4 c4&&(secB pl rq co se n3&&!(ab (usaL
 c3)).isEmpty)then Fits 0 zCa_8 [.row (bL pl rq mx se ha h co mo ag x1 x2 x3 x4 n1 n2 n3 n4 c1 c2 c3 c4) 58 13,.row (cy hb xb nb cb b1 b2 b3) 38 5,
 .row [] 72 4,.row (mn h c3) 43 5,.row (aa 4 (tls (ab (usaL c3)))) 72 4] [some (.ptr 0 0),some (.ptr 1 0),some (.bool false),some
 (.slice 3 0 0 false 0 0),some (.ptr 5 0),some (.bool true),some (.int i64 0)] [.row (bL pl rq mx se ha h co mo ag x1 x2 x3 x4 n1 n2 n3 n4 c1
 c2 c3 c4) 58 13,.row (cy hb xb nb cb b1 b2 b3) 38 5,.row [.str (hb)] 9 1,.row [] 72 4,.row (aa 4 (tls (ab (usaL c3)))) 72 4,.row
 (mn h c3) 43 5]∧bif cT
 {y:={pl:=pl,rq:=rq,h:=h,mx:=mx,co:=co,se:=se,x1:=x1,n1:=n1,c1:=c1,x2:=x2,n2:=n2,c2:=c2,x3:=x3,n3:=n3,c3:=c3,ha:=ha,mo:=mo,x4:=x4,n4:=n4,c4:=c4,ag:=ag,hb:=hb,xb:=xb,nb:=nb,cb:=cb,b1:=b1,b2:=b2,b3:=b3,on:=0,oc:=[],wh:=h,wn:=some (ab (usaL c3)).length,wk:=aa 4 (tls (ab (usaL c3))),w1:=false,w2:=true,w3:=1,was:=true},r:=0}
 then ∀(j:Int),Fits 0 kK [.row (bL pl rq mx se ha h co mo ag x1 x2 x3 x4 n1 n2 n3 n4 c1 c2 c3 c4) 58 13,.row [] 72 4] zCa_5 [.row (bL pl
 rq mx se ha h co mo ag x1 x2 x3 x4 n1 n2 n3 n4 c1 c2 c3 c4) 58 13,.row (cy hb xb nb cb b1 b2 b3) 38 5,.row [] 72 4,.row (mn h c3) 43 5,.row
 (aa 4 (tls (ab (usaL c3)))) 72 4]∧bif fc
 {y:={pl:=pl,rq:=rq,h:=h,mx:=mx,co:=co,se:=se,x1:=x1,n1:=n1,c1:=c1,x2:=x2,n2:=n2,c2:=c2,x3:=x3,n3:=n3,c3:=c3,ha:=ha,mo:=mo,x4:=x4,n4:=n4,c4:=c4,ag:=ag,hb:=[],xb:=x3,nb:=0,cb:=[],b1:=false,b2:=false,b3:=0,on:=0,oc:=[],wh:=[],wn:=none,wk:=[],w1:=false,w2:=false,w3:=0,was:=false},i:=0}
 then ∀(j:Int),bif okS n4 c4&&(lenA c4&&aF h)then bif okS n4 c4&&(lenA c4&&aF h)then bif fitB pl rq h ha mo c4==fitB pl rq h ha mo c4 then R
 (.bool true)else R (.bool false)else False else False else False else False else bif dl (h) n3 c3 n4 c4&&secB pl rq co se n3 then Fits 0 zCa_8 [.row
 (bL pl rq mx se ha h co mo ag x1 x2 x3 x4 n1 n2 n3 n4 c1 c2 c3 c4) 58 13,.row (cy hb xb nb cb b1 b2 b3) 38 5,.row [] 72 4,.row (kG pl rq ha
 h mo) 43 5,.dead] zCa_12 [.row (bL pl rq mx se ha h co mo ag x1 x2 x3 x4 n1 n2 n3 n4 c1 c2 c3 c4) 58 13,.row (cy hb xb nb cb b1 b2 b3) 38 5,
 .row [.str (hb)] 9 1,.row [] 72 4,.row (kG pl rq ha h mo) 43 5]∧bif cT
 {y:={pl:=pl,rq:=rq,h:=h,mx:=mx,co:=co,se:=se,x1:=x1,n1:=n1,c1:=c1,x2:=x2,n2:=n2,c2:=c2,x3:=x3,n3:=n3,c3:=c3,ha:=ha,mo:=mo,x4:=x4,n4:=n4,c4:=c4,ag:=ag,hb:=hb,xb:=xb,nb:=nb,cb:=cb,b1:=b1,b2:=b2,b3:=b3,on:=0,oc:=[],wh:=h,wn:=none,wk:=[],w1:=rq||efB pl rq ha mo,w2:=true,w3:=1,was:=true},r:=0}
 then ∀(j:Int),Fits 0 kK [.row (bL pl rq mx se ha h co mo ag x1 x2 x3 x4 n1 n2 n3 n4 c1 c2 c3 c4) 58 13,.row [] 72 4] zCa_5 [.row (bL pl
 rq mx se ha h co mo ag x1 x2 x3 x4 n1 n2 n3 n4 c1 c2 c3 c4) 58 13,.row (cy hb xb nb cb b1 b2 b3) 38 5,.row [] 72 4,.row (kG pl rq ha h mo) 43
 5,.dead]∧bif fc
 {y:={pl:=pl,rq:=rq,h:=h,mx:=mx,co:=co,se:=se,x1:=x1,n1:=n1,c1:=c1,x2:=x2,n2:=n2,c2:=c2,x3:=x3,n3:=n3,c3:=c3,ha:=ha,mo:=mo,x4:=x4,n4:=n4,c4:=c4,ag:=ag,hb:=[],xb:=x3,nb:=0,cb:=[],b1:=false,b2:=false,b3:=0,on:=0,oc:=[],wh:=[],wn:=none,wk:=[],w1:=false,w2:=false,w3:=0,was:=false},i:=0}
 then ∀(j:Int),bif okS n4 c4&&(lenA c4&&aF h)then bif okS n4 c4&&(lenA c4&&aF h)then bif fitB pl rq h ha mo c4==fitB pl rq h ha mo c4 then R
 (.bool true)else R (.bool false)else False else False else False else False else bif dl (h) n3 c3 n4 c4 then Fits 0 zCa_8 [.row (bL pl rq mx se ha
 h co mo ag x1 x2 x3 x4 n1 n2 n3 n4 c1 c2 c3 c4) 58 13,.row (cy hb xb nb cb b1 b2 b3) 38 5,.row [] 72 4,.row (kI pl rq ha h mo) 43 5,.dead]
 zCa_12 [.row (bL pl rq mx se ha h co mo ag x1 x2 x3 x4 n1 n2 n3 n4 c1 c2 c3 c4) 58 13,.row (cy hb xb nb cb b1 b2 b3) 38 5,.row [.str (hb)] 9 1,
 .row [] 72 4,.row (kI pl rq ha h mo) 43 5]∧bif cT
 {y:={pl:=pl,rq:=rq,h:=h,mx:=mx,co:=co,se:=se,x1:=x1,n1:=n1,c1:=c1,x2:=x2,n2:=n2,c2:=c2,x3:=x3,n3:=n3,c3:=c3,ha:=ha,mo:=mo,x4:=x4,n4:=n4,c4:=c4,ag:=ag,hb:=hb,xb:=xb,nb:=nb,cb:=cb,b1:=b1,b2:=b2,b3:=b3,on:=0,oc:=[],wh:=h,wn:=none,wk:=[],w1:=rq||efB pl rq ha mo,w2:=rq||efB pl rq ha mo,w3:=kdI pl rq false ha mo,was:=true},r:=0}
 then ∀(j:Int),Fits 0 kK [.row (bL pl rq mx se ha h co mo ag x1 x2 x3 x4 n1 n2 n3 n4 c1 c2 c3 c4) 58 13,.row [] 72 4] zCa_5 [.row (bL pl
 rq mx se ha h co mo ag x1 x2 x3 x4 n1 n2 n3 n4 c1 c2 c3 c4) 58 13,.row (cy hb xb nb cb b1 b2 b3) 38 5,.row [] 72 4,.row (kI pl rq ha h mo) 43
 5,.dead]∧bif fc
 {y:={pl:=pl,rq:=rq,h:=h,mx:=mx,co:=co,se:=se,x1:=x1,n1:=n1,c1:=c1,x2:=x2,n2:=n2,c2:=c2,x3:=x3,n3:=n3,c3:=c3,ha:=ha,mo:=mo,x4:=x4,n4:=n4,c4:=c4,ag:=ag,hb:=[],xb:=x3,nb:=0,cb:=[],b1:=false,b2:=false,b3:=0,on:=0,oc:=[],wh:=[],wn:=none,wk:=[],w1:=false,w2:=false,w3:=0,was:=false},i:=0}
 then ∀(j:Int),bif okS n4 c4&&(lenA c4&&aF h)then bif okS n4 c4&&(lenA c4&&aF h)then bif fitB pl rq h ha mo c4==fitB pl rq h ha mo c4 then R
 (.bool true)else R (.bool false)else False else False else False else False else False else bif c3.length.beq (n3*4)&&c3.all V.one then bif (0+n3).ble
 9223372036854775807&&((0+n3)*24).ble 140737488355328 then bif dl (h) n3 c3 n4 c4&&notB pl rq mx co se n3 c3 ha mo c4 (h)then Fits 0 [.ptr 0 0,
 .ptr 1 0,.bool false,.slice 2 0 (0+n3) false 0 0,.ptr 3 0,.bool false,.int i64 0] [.row (bL pl rq mx se ha h co mo ag x1 x2 x3 x4 n1
 n2 n3 n4 c1 c2 c3 c4) 58 13,.row (cy hb xb nb cb b1 b2 b3) 38 5,.row c3 72 4,.row kH 43 5,.dead] [some (.ptr 0 0),some (.ptr 1 0),some
 (.bool false),some (.slice 4 0 (0+n3) false 0 0),some (.ptr 5 0),some (.bool false),some (.int i64 0)] [.row (bL pl rq mx se ha h co mo
 ag x1 x2 x3 x4 n1 n2 n3 n4 c1 c2 c3 c4) 58 13,.row (cy hb xb nb cb b1 b2 b3) 38 5,.row [.str (hb)] 9 1,.dead,.row c3 72 4,.row kH 43
 5]∧bif cT
 {y:={pl:=pl,rq:=rq,h:=h,mx:=mx,co:=co,se:=se,x1:=x1,n1:=n1,c1:=c1,x2:=x2,n2:=n2,c2:=c2,x3:=x3,n3:=n3,c3:=c3,ha:=ha,mo:=mo,x4:=x4,n4:=n4,c4:=c4,ag:=ag,hb:=hb,xb:=xb,nb:=nb,cb:=cb,b1:=b1,b2:=b2,b3:=b3,on:=0+n3,oc:=c3,wh:=[],wn:=none,wk:=[],w1:=false,w2:=false,w3:=0,was:=false},r:=0}
 then ∀(j:Int),Fits 0 (kJ n3) [.row (bL pl rq mx se ha h co mo ag x1 x2 x3 x4 n1 n2 n3 n4 c1 c2 c3 c4) 58 13,.row c3 72 4] (zCa_6 n3) [.row
 (bL pl rq mx se ha h co mo ag x1 x2 x3 x4 n1 n2 n3 n4 c1 c2 c3 c4) 58 13,.row (cy hb xb nb cb b1 b2 b3) 38 5,.row c3 72 4,.row kH 43 5,
 .dead]∧bif fc
 {y:={pl:=pl,rq:=rq,h:=h,mx:=mx,co:=co,se:=se,x1:=x1,n1:=n1,c1:=c1,x2:=x2,n2:=n2,c2:=c2,x3:=x3,n3:=n3,c3:=c3,ha:=ha,mo:=mo,x4:=x4,n4:=n4,c4:=c4,ag:=ag,hb:=[],xb:=x3,nb:=0,cb:=[],b1:=false,b2:=false,b3:=0,on:=0+n3,oc:=c3,wh:=[],wn:=none,wk:=[],w1:=false,w2:=false,w3:=0,was:=false},i:=0}
 then ∀(j:Int),bif okS n4 c4&&(lenA c4&&aF h)then bif okS n4 c4&&(lenA c4&&aF h)then bif fitB pl rq h ha mo c4==fitB pl rq h ha mo c4 then R
 (.bool true)else R (.bool false)else False else False else False else False else bif dl (h) n3 c3 n4 c4&&(secB pl rq co se n3&&!(ab (usaL
 c3)).isEmpty)then Fits 0 (zCa_9 n3) [.row (bL pl rq mx se ha h co mo ag x1 x2 x3 x4 n1 n2 n3 n4 c1 c2 c3 c4) 58 13,.row (cy hb xb nb cb b1 b2 b3)
 38 5,.row c3 72 4,.row (mn h c3) 43 5,.row (aa 5 (tls (ab (usaL c3)))) 72 4] [some (.ptr 0 0),some (.ptr 1 0),some (.bool false),some
 (.slice 4 0 (0+n3) false 0 0),some (.ptr 6 0),some (.bool true),some (.int i64 0)] [.row (bL pl rq mx se ha h co mo ag x1 x2 x3 x4 n1 n2
 n3 n4 c1 c2 c3 c4) 58 13,.row (cy hb xb nb cb b1 b2 b3) 38 5,.row [.str (hb)] 9 1,.dead,.row c3 72 4,.row (aa 5 (tls (ab (usaL
 c3)))) 72 4,.row [.str (h),.slice 5 0 (ab (usaL c3)).length false 0 0,.bool false,.bool true,.int u8 1] 43 5]∧bif cT
 {y:={pl:=pl,rq:=rq,h:=h,mx:=mx,co:=co,se:=se,x1:=x1,n1:=n1,c1:=c1,x2:=x2,n2:=n2,c2:=c2,x3:=x3,n3:=n3,c3:=c3,ha:=ha,mo:=mo,x4:=x4,n4:=n4,c4:=c4,ag:=ag,hb:=hb,xb:=xb,nb:=nb,cb:=cb,b1:=b1,b2:=b2,b3:=b3,on:=0+n3,oc:=c3,wh:=h,wn:=some (ab (usaL c3)).length,wk:=aa 5 (tls (ab (usaL c3))),w1:=false,w2:=true,w3:=1,was:=true},r:=0}
 then ∀(j:Int),Fits 0 (kJ n3) [.row (bL pl rq mx se ha h co mo ag x1 x2 x3 x4 n1 n2 n3 n4 c1 c2 c3 c4) 58 13,.row c3 72 4] (zCa_6 n3) [.row
 (bL pl rq mx se ha h co mo ag x1 x2 x3 x4 n1 n2 n3 n4 c1 c2 c3 c4) 58 13,.row (cy hb xb nb cb b1 b2 b3) 38 5,.row c3 72 4,.row (mn h c3) 43
 5,.row (aa 5 (tls (ab (usaL c3)))) 72 4]∧bif fc
 {y:={pl:=pl,rq:=rq,h:=h,mx:=mx,co:=co,se:=se,x1:=x1,n1:=n1,c1:=c1,x2:=x2,n2:=n2,c2:=c2,x3:=x3,n3:=n3,c3:=c3,ha:=ha,mo:=mo,x4:=x4,n4:=n4,c4:=c4,ag:=ag,hb:=[],xb:=x3,nb:=0,cb:=[],b1:=false,b2:=false,b3:=0,on:=0+n3,oc:=c3,wh:=[],wn:=none,wk:=[],w1:=false,w2:=false,w3:=0,was:=false},i:=0}
 then ∀(j:Int),bif okS n4 c4&&(lenA c4&&aF h)then bif okS n4 c4&&(lenA c4&&aF h)then bif fitB pl rq h ha mo c4==fitB pl rq h ha mo c4 then R
 (.bool true)else R (.bool false)else False else False else False else False else bif dl (h) n3 c3 n4 c4&&secB pl rq co se n3 then Fits 0 (zCa_9 n3)
 [.row (bL pl rq mx se ha h co mo ag x1 x2 x3 x4 n1 n2 n3 n4 c1 c2 c3 c4) 58 13,.row (cy hb xb nb cb b1 b2 b3) 38 5,.row c3 72 4,.row (kG
 pl rq ha h mo) 43 5,.dead] (zCa_13 n3) [.row (bL pl rq mx se ha h co mo ag x1 x2 x3 x4 n1 n2 n3 n4 c1 c2 c3 c4) 58 13,.row (cy hb xb nb cb b1 b2
 b3) 38 5,.row [.str (hb)] 9 1,.dead,.row c3 72 4,.row (kG pl rq ha h mo) 43 5]∧bif cT
 {y:={pl:=pl,rq:=rq,h:=h,mx:=mx,co:=co,se:=se,x1:=x1,n1:=n1,c1:=c1,x2:=x2,n2:=n2,c2:=c2,x3:=x3,n3:=n3,c3:=c3,ha:=ha,mo:=mo,x4:=x4,n4:=n4,c4:=c4,ag:=ag,hb:=hb,xb:=xb,nb:=nb,cb:=cb,b1:=b1,b2:=b2,b3:=b3,on:=0+n3,oc:=c3,wh:=h,wn:=none,wk:=[],w1:=rq||efB pl rq ha mo,w2:=true,w3:=1,was:=true},r:=0}
 then ∀(j:Int),Fits 0 (kJ n3) [.row (bL pl rq mx se ha h co mo ag x1 x2 x3 x4 n1 n2 n3 n4 c1 c2 c3 c4) 58 13,.row c3 72 4] (zCa_6 n3) [.row
 (bL pl rq mx se ha h co mo ag x1 x2 x3 x4 n1 n2 n3 n4 c1 c2 c3 c4) 58 13,.row (cy hb xb nb cb b1 b2 b3) 38 5,.row c3 72 4,.row (kG pl rq ha
 h mo) 43 5,.dead]∧bif fc
 {y:={pl:=pl,rq:=rq,h:=h,mx:=mx,co:=co,se:=se,x1:=x1,n1:=n1,c1:=c1,x2:=x2,n2:=n2,c2:=c2,x3:=x3,n3:=n3,c3:=c3,ha:=ha,mo:=mo,x4:=x4,n4:=n4,c4:=c4,ag:=ag,hb:=[],xb:=x3,nb:=0,cb:=[],b1:=false,b2:=false,b3:=0,on:=0+n3,oc:=c3,wh:=[],wn:=none,wk:=[],w1:=false,w2:=false,w3:=0,was:=false},i:=0}
 then ∀(j:Int),bif okS n4 c4&&(lenA c4&&aF h)then bif okS n4 c4&&(lenA c4&&aF h)then bif fitB pl rq h ha mo c4==fitB pl rq h ha mo c4 then R
 (.bool true)else R (.bool false)else False else False else False else False else bif dl (h) n3 c3 n4 c4 then Fits 0 (zCa_9 n3) [.row (bL pl rq mx
 se ha h co mo ag x1 x2 x3 x4 n1 n2 n3 n4 c1 c2 c3 c4) 58 13,.row (cy hb xb nb cb b1 b2 b3) 38 5,.row c3 72 4,.row (kI pl rq ha h mo) 43 5,
 .dead] (zCa_13 n3) [.row (bL pl rq mx se ha h co mo ag x1 x2 x3 x4 n1 n2 n3 n4 c1 c2 c3 c4) 58 13,.row (cy hb xb nb cb b1 b2 b3) 38 5,.row
 [.str (hb)] 9 1,.dead,.row c3 72 4,.row (kI pl rq ha h mo) 43 5]∧bif cT
 {y:={pl:=pl,rq:=rq,h:=h,mx:=mx,co:=co,se:=se,x1:=x1,n1:=n1,c1:=c1,x2:=x2,n2:=n2,c2:=c2,x3:=x3,n3:=n3,c3:=c3,ha:=ha,mo:=mo,x4:=x4,n4:=n4,c4:=c4,ag:=ag,hb:=hb,xb:=xb,nb:=nb,cb:=cb,b1:=b1,b2:=b2,b3:=b3,on:=0+n3,oc:=c3,wh:=h,wn:=none,wk:=[],w1:=rq||efB pl rq ha mo,w2:=rq||efB pl rq ha mo,w3:=kdI pl rq false ha mo,was:=true},r:=0}
 then ∀(j:Int),Fits 0 (kJ n3) [.row (bL pl rq mx se ha h co mo ag x1 x2 x3 x4 n1 n2 n3 n4 c1 c2 c3 c4) 58 13,.row c3 72 4] (zCa_6 n3) [.row
 (bL pl rq mx se ha h co mo ag x1 x2 x3 x4 n1 n2 n3 n4 c1 c2 c3 c4) 58 13,.row (cy hb xb nb cb b1 b2 b3) 38 5,.row c3 72 4,.row (kI pl rq ha
 h mo) 43 5,.dead]∧bif fc
 {y:={pl:=pl,rq:=rq,h:=h,mx:=mx,co:=co,se:=se,x1:=x1,n1:=n1,c1:=c1,x2:=x2,n2:=n2,c2:=c2,x3:=x3,n3:=n3,c3:=c3,ha:=ha,mo:=mo,x4:=x4,n4:=n4,c4:=c4,ag:=ag,hb:=[],xb:=x3,nb:=0,cb:=[],b1:=false,b2:=false,b3:=0,on:=0+n3,oc:=c3,wh:=[],wn:=none,wk:=[],w1:=false,w2:=false,w3:=0,was:=false},i:=0}
 then ∀(j:Int),bif okS n4 c4&&(lenA c4&&aF h)then bif okS n4 c4&&(lenA c4&&aF h)then bif fitB pl rq h ha mo c4==fitB pl rq h ha mo c4 then R
 (.bool true)else R (.bool false)else False else False else False else False else False else False else False else False else False):=by kernel_rfl
theorem gl1N_ge:∀(l:List (List UInt8)) (n:Nat),n≤l1N n l
 |[],n=>Nat.le_refl _
 |s::r,n=>by
  unfold l1N;split
  ·have:=gl1N_ge r (n+5+min 6000 s.length);omega
  ·exact Nat.le_refl _
theorem gl2N_ge:∀(l:List TL) (n:Nat),n≤l2N n l
 |[],n=>Nat.le_refl _
 |s::r,n=>by
  unfold l2N;split
  ·have:=gl2N_ge r (n+20+min 6000 s.d.length);omega
  ·exact Nat.le_refl _
theorem gl1N_all:∀(l:List (List UInt8)) (n:Nat),l1N n l<6000→∀s∈l,s.length<6000
 |[],n,_,s,hs=>by cases hs
 |a::r,n,h,s,hs=>by
  unfold l1N at h;split at h
  ·have h1:=gl1N_ge r (n+5+min 6000 a.length);rcases List.mem_cons.1 hs with rfl|hs
   ·omega
   ·exact gl1N_all r _ h s hs
  ·omega
theorem glong_texts{l:List (List UInt8)}{r:List TL}(h:iw l r=false):l.all aF=true:=by
 unfold iw at h;have h:=of_decide_eq_false h;unfold longN at h;have h2:=gl2N_ge r (l1N 0 l);rw[List.all_eq_true];intro s hs;have:=gl1N_all l 0 (by omega) s hs;exact az (by omega)
theorem gl2_len:∀(r:List TL) (a:Nat),l2N a r<6000→a+10*r.length≤l2N a r
 |[],a,_=>by simp[l2N]
 |s::r,a,h=>by
  rw[l2N]at h ⊢;split
  ·rename_i ha;rw[if_pos ha]at h;have:=gl2_len r _ h;rw[List.length_cons];omega
  ·rename_i ha;rw[if_neg ha]at h;omega
theorem large_small{h:List UInt8}{ms:List (List UInt8)}{rs:List TL}(hl:gK h ms rs=false):rs.length<900:=by
 unfold gK at hl;rw[Bool.or_eq_false_iff]at hl;have h:=hl.1;unfold iw at h;have h:=of_decide_eq_false h;unfold longN at h;generalize l1N 0 _=a at h;have:=gl2_len rs a (by omega);omega
theorem large_texts{h:List UInt8}{ms:List (List UInt8)}{rs:List TL}(hl:gK h ms rs=false):aF h=true∧ms.all aF=true:=by
 unfold gK at hl;rw[Bool.or_eq_false_iff]at hl;have h2:=of_decide_eq_false hl.2;have ht:=glong_texts hl.1;rw[List.take_of_length_le (by omega),List.all_cons,af]at ht;exact ht
theorem eP(y:NTS)(hf:ax y.oc=true)(hw:y.wn=none){o w:Nat}(hd:[0,1,o,w,2].Nodup)(c:Bool){st:St}(h0:st[0]?=some (ntA y))(h1:st[1]?=some (ntB y))(h2:st[o]?=some (ntO y))(h3:st[w]?=some (ntW y)):
  Fits 0 [.ptr 0 0,.ptr 1 0,.bool false,.slice 2 0 y.on false 0 0,.ptr 3 0,.bool c,.int .i64 0] [ntA y,ntB y,ntO y,ntW y,.dead] [some (.ptr 0 0),some (.ptr 1 0),some (.bool false),some (.slice o 0 y.on false 0 0),some (.ptr w 0),some (.bool c),some (.int .i64 0)] st:=by
 refine⟨[0,1,o,w,2],[.ptr 0 0,.ptr 1 0,.bool false,.slice o 0 y.on false 0 0,.ptr w 0,.bool c,.int .i64 0],rfl,rfl,FitsM.of ⟨.inr ⟨_,.inl rfl,h0⟩,.inr ⟨_,.inl rfl,h1⟩,fb hf h2,.inr ⟨_,.inl ?_,h3⟩,.inl rfl,trivial⟩,hd,fun i hi=>by omega⟩;unfold ntW;rw[hw];rfl
theorem mX(y:NTS)(hf:ax y.oc=true)(hk:ax y.wk=true){n:Nat}(hw:y.wn=some n){o w k:Nat}(hd:[0,1,o,w,k].Nodup)(c:Bool){st:St}(h0:st[0]?=some (ntA y))(h1:st[1]?=some (ntB y))(h2:st[o]?=some (ntO y))(h3:st[w]?=some (.row [.str y.wh,.slice k 0 n false 0 0,.bool y.w1,.bool y.w2,.int .u8 y.w3] 43 5))(h4:st[k]?=some (.row y.wk 72 4)):
  Fits 0 [.ptr 0 0,.ptr 1 0,.bool false,.slice 2 0 y.on false 0 0,.ptr 3 0,.bool c,.int .i64 0] [ntA y,ntB y,ntO y,ntW y,.row y.wk 72 4] [some (.ptr 0 0),some (.ptr 1 0),some (.bool false),some (.slice o 0 y.on false 0 0),some (.ptr w 0),some (.bool c),some (.int .i64 0)] st:=by
 refine⟨[0,1,o,w,k],[.ptr 0 0,.ptr 1 0,.bool false,.slice o 0 y.on false 0 0,.ptr w 0,.bool c,.int .i64 0],rfl,rfl,FitsM.of ⟨.inr ⟨_,.inl rfl,h0⟩,.inr ⟨_,.inl rfl,h1⟩,fb hf h2,.inr ⟨_,.inl ?_,h3⟩,fb hk h4,trivial⟩,hd,fun i hi=>by omega⟩;unfold ntW;rw[hw];rfl
theorem eo(y:NTS)(hf:ax y.oc=true){st:St}(h0:st[0]?=some (ntA y))(h2:st[2]?=some (ntO y)):
  Fits 0 [.ptr 0 0,.bool false,.slice 1 0 y.on false 0 0,.int .i64 0] [ntA y,ntO y] [some (.ptr 0 0),some (.bool false),some (.slice 2 0 y.on false 0 0),some (.int .i64 0)] st:=
 ⟨[0,2],[.ptr 0 0,.bool false,.slice 2 0 y.on false 0 0,.int .i64 0],rfl,rfl,FitsM.of ⟨.inr ⟨_,.inl rfl,h0⟩,fb hf h2,trivial⟩,by decide,fun i hi=>by omega⟩
theorem gG(y:NTS)(hf:ax y.oc=true)(hk:ax y.wk=true)(h1:okT y.n3 y.c3=true)(h2:okS y.n4 y.c4=true)(h3:okT y.nb y.cb=true)(h4:wOk y=true)(h5:y.was=!tC0 y)(h6:gq y=true):cT ⟨y,0⟩=true:=by
 unfold cT ntOk iq;simp only[hf,hk,h1,h2,h3,h4,h5,h6,Bool.and_self,ay,beq_self_eq_true];rfl
theorem gL(y:NTS)(h1:okT y.n3 y.c3=true)(ho:okT y.on y.oc=true)(he:y.oc=y.c3):fc ⟨y,0⟩=true:=by
 unfold fc;rw[ho,h1,he,ic];exact ap (Nat.zero_le _)
theorem nt_same0(y:NTS)(hc:tC0 y=true)(e1:y.wh=[])(e2:y.wn=none)(e3:y.w1=false)(e4:y.w2=false)(e5:y.w3=0):gq y=true:=by
 unfold gq wL;rw[hc,e1,e2,e3,e4,e5];rfl
theorem nt_same1(y:NTS)(hc:tC0 y=false)(hs:tC1 y=true)(hn:(ab (usaL y.c3)).isEmpty=false){n:Nat}(e1:y.wh=y.h)(e2:y.wn=some n)(e0:y.wk=tls (ab (usaL y.c3)))(e3:y.w1=false)(e4:y.w2=true)(e5:y.w3=1):gq y=true:=by
 have hK:dZ y.pl y.rq y.co y.se y.n3 y.c3=ab (usaL y.c3):=by
  unfold dZ;unfold tC1 at hs;rw[hs];rfl
 have hch:chB y.pl y.rq y.co y.se y.n3 y.c3 y.ha y.mo=false:=by unfold chB;rw[hK,hn];rfl
 have hkd:kdI y.pl y.rq true y.ha y.mo=1:=by
  unfold tC1 secB at hs;unfold kdI;cases hpr:(y.pl&&!y.rq)
  ·rfl
  ·rw[hpr]at hs;cases hs
 unfold gq tK wL;rw[hc,hs,e1,e2,e3,e4,e5,hch,hkd,hK,e0,bf];exact dV _ _ _ _ _
theorem nt_same2(y:NTS)(hc:tC0 y=false)(hs:tC1 y=true)(hn:(ab (usaL y.c3)).isEmpty=true)(e1:y.wh=y.h)(e2:y.wn=none)(e3:y.w1=(y.rq||efB y.pl y.rq y.ha y.mo))(e4:y.w2=true)(e5:y.w3=1):gq y=true:=by
 have hg:ab (usaL y.c3)=[]:=by
  cases hq:ab (usaL y.c3)with
  |nil=>rfl
  |cons a r=>rw[hq]at hn;cases hn
 have hK:dZ y.pl y.rq y.co y.se y.n3 y.c3=[]:=by
  unfold dZ;unfold tC1 at hs;rw[hs,hg];rfl
 have hch:chB y.pl y.rq y.co y.se y.n3 y.c3 y.ha y.mo=(y.rq||efB y.pl y.rq y.ha y.mo):=by unfold chB;rw[hK];rfl
 have hkd:kdI y.pl y.rq true y.ha y.mo=1:=by
  unfold tC1 secB at hs;unfold kdI;cases hpr:(y.pl&&!y.rq)
  ·rfl
  ·rw[hpr]at hs;cases hs
 unfold gq tK wL;rw[hc,hs,e1,e2,e3,e4,e5,hch,hkd,hK];exact dV _ _ _ _ _
theorem nt_same3(y:NTS)(hc:tC0 y=false)(hs:tC1 y=false)(e1:y.wh=y.h)(e2:y.wn=none)(e3:y.w1=(y.rq||efB y.pl y.rq y.ha y.mo))(e4:y.w2=(y.rq||efB y.pl y.rq y.ha y.mo))(e5:y.w3=kdI y.pl y.rq false y.ha y.mo):gq y=true:=by
 unfold gq wL;rw[hc,hs,e1,e2,e3,e4,e5];exact dV _ _ _ _ _
theorem tls_one3:∀l:List TL,(tls l).all V.one=true
 |[]=>rfl
 |a::r=>by
  show(true&&(true&&(true&&(true&&(tls r).all V.one))))=true;rw[tls_one3 r];rfl
theorem ep(b:Bool):(bif b==b then(V.bool true=V.bool true)else(V.bool false=V.bool true)):=by
 rw[beq_self_eq_true];rfl
theorem tells_close(pl rq:Bool)(h:List UInt8)(mx:Bool)(co:Int)(se:Bool)(x1:Value)(n1:Nat)(c1:List V)(x2:Value)(n2:Nat)(c2:List V)(x3:Value)(l3:List TL)(ha:Bool)(mo:Int)(x4:Value)(l4:List (List UInt8))(ag:Int)(hb:List UInt8)(xb:Value)(lb:List TL)(b1 b2:Bool)(b3:Int)(q3:l3.length≤9223372036854775807)(hu:l3.all inU=true)(q4:l4.length≤9223372036854775807)(q5:lb.length≤9223372036854775807):
  FnSat Qq 5 [.agg [.bool pl,.bool rq,.str h,.bool mx,.int .u8 co,.bool se,.lst x1 n1 c1,.lst x2 n2 c2,lstT x3 l3,.bool ha,.int .u8 mo,lstS x4 l4,.int .i64 ag],.agg [.str hb,lstT xb lb,.bool b1,.bool b2,.int .u8 b3]] [] (fun v _=>v=.bool true):=by
 refine runW_ok (lim:=9) (n:=10) aI NTL_ok ?_;unfold lstT lstS;refine cast (ntl_law ga gH j7 pl rq h mx co se x1 n1 c1 x2 n2 c2 x3 l3.length (tls l3) ha mo x4 l4.length (strs l4) ag hb xb lb.length (tls lb) b1 b2 b3 (fun v=>v=.bool true)).symm ?_;unfold zCa_13 zCa_12 kJ kK zCa_9 zCa_8 kG zCa_6 zCa_5 kH mn kI cy bL;have h3:okT l3.length (tls l3)=true:=dT q3;have h4:okS l4.length (strs l4)=true:=okS_mk q4;have h5:okT lb.length (tls lb)=true:=dT q5;have vT:∀st,dy st (.lst xb lb.length (tls lb))=some (true,lb):=fun st=>by
  simp only[dy,fo,bf,fO,ci,Nat.beq_refl,Bool.and_true];rw[Nat.mul_comm,Nat.beq_refl]
 have v1:∀a b:Blk,i0 [a,b,Blk.row [V.str hb] 9 1] (.slice 2 0 1 false 0 0)=some (true,[hb]):=fun a b=>by
  simp only[i0,fo];rfl
 have hg4:∀c:List V,(ab (usaL c)).length≤9223372036854775807:=fun c=>by
  have:=jo (usaL c);have h4:(usaL c).length≤4:=by unfold usaL;rw[List.length_take];omega
  omega
 refine ah (by rw[h3,h4];rfl) ?_;refine ao (fun _=>rfl) (fun hl=>?_);have hl:gK h l4 l3=false:=by unfold ga at hl;rw[bV,bf]at hl;exact hl
 obtain⟨hh,hd⟩:=large_texts hl;have hsm:=large_small hl;have hX:(okS l4.length (strs l4)&&(lenA (strs l4)&&aF h))=true:=by
  unfold lenA;rw[h4,bV,hd,hh];rfl
 have hrb:dl h l3.length (tls l3) l4.length (strs l4)=true:=by
  unfold dl;rw[hX,h3,bf,hu];rfl
 refine ah ?_ ?_
 ·unfold gH;rw[v1,vT];show(true&&(true&&(Nat.ble 1 9223372036854775807&&Nat.ble lb.length 9223372036854775807)))=true;rw[ap q5];rfl
 refine ao (fun _=>rfl) (fun _=>?_);refine ao (fun hz=>?_) (fun hz=>?_)
 ·have hz:l3=[]:=by cases l3 with
   |nil=>rfl
   |cons a r=>cases hz
  subst hz;have hf:ax ([]:List V)=true:=rfl;have ho:okT 0 ([]:List V)=true:=rfl;have he:([]:List V)=tls []:=rfl;refine ao (fun g=>?_) (fun g0=>?_)
  ·have hc:=(af ..▸g:_∧_).2;exact⟨eP (⟨pl,rq,h,mx,co,se,x1,n1,c1,x2,n2,c2,x3,([]:List TL).length,tls [],ha,mo,x4,l4.length,strs l4,ag,hb,xb,lb.length,tls lb,b1,b2,b3,0,[],[],none,[],false,false,0,false⟩:NTS) hf rfl (o:=3) (w:=4) (by decide) false rfl rfl rfl rfl,ah (gG (⟨pl,rq,h,mx,co,se,x1,n1,c1,x2,n2,c2,x3,([]:List TL).length,tls [],ha,mo,x4,l4.length,strs l4,ag,hb,xb,lb.length,tls lb,b1,b2,b3,0,[],[],none,[],false,false,0,false⟩:NTS) hf rfl h3 h4 h5 rfl (by show false=!notB _ _ _ _ _ _ _ _ _ _ _;rw[hc];rfl) (nt_same0 (⟨pl,rq,h,mx,co,se,x1,n1,c1,x2,n2,c2,x3,([]:List TL).length,tls [],ha,mo,x4,l4.length,strs l4,ag,hb,xb,lb.length,tls lb,b1,b2,b3,0,[],[],none,[],false,false,0,false⟩:NTS) hc rfl rfl rfl rfl rfl)) fun _=>⟨eo (⟨pl,rq,h,mx,co,se,x1,n1,c1,x2,n2,c2,x3,([]:List TL).length,tls [],ha,mo,x4,l4.length,strs l4,ag,[],x3,0,[],false,false,0,0,[],[],none,[],false,false,0,false⟩:NTS) hf rfl rfl,ah (gL (⟨pl,rq,h,mx,co,se,x1,n1,c1,x2,n2,c2,x3,([]:List TL).length,tls [],ha,mo,x4,l4.length,strs l4,ag,[],x3,0,[],false,false,0,0,[],[],none,[],false,false,0,false⟩:NTS) h3 ho he) fun _=>ah hX (ah hX (ep _))⟩⟩
  rw[hrb,ay]at g0;refine ao (fun g=>?_) (fun g1=>?_)
  ·rw[hrb,ay,af]at g;obtain⟨gs,gn⟩:=g;have gn:=(Bool.not_eq_true' _).mp gn;exact⟨mX (⟨pl,rq,h,mx,co,se,x1,n1,c1,x2,n2,c2,x3,([]:List TL).length,tls [],ha,mo,x4,l4.length,strs l4,ag,hb,xb,lb.length,tls lb,b1,b2,b3,0,[],h,(some (ab (usaL (tls []))).length),(aa 4 (tls (ab (usaL (tls []))))),false,true,1,true⟩:NTS) hf (by show ax (aa _ (tls _))=true;rw[shT];exact bR _) (n:=(ab (usaL (tls []))).length) rfl (o:=3) (w:=5) (k:=4) (by decide) true rfl rfl rfl rfl rfl,ah (gG (⟨pl,rq,h,mx,co,se,x1,n1,c1,x2,n2,c2,x3,([]:List TL).length,tls [],ha,mo,x4,l4.length,strs l4,ag,hb,xb,lb.length,tls lb,b1,b2,b3,0,[],h,(some (ab (usaL (tls []))).length),(aa 4 (tls (ab (usaL (tls []))))),false,true,1,true⟩:NTS) hf (by show ax (aa _ (tls _))=true;rw[shT];exact bR _) h3 h4 h5 (by show okT _ (aa _ (tls _))=true;rw[shT];exact dT (hg4 _)) (by show true=!notB _ _ _ _ _ _ _ _ _ _ _;rw[g0];rfl) (nt_same1 (⟨pl,rq,h,mx,co,se,x1,n1,c1,x2,n2,c2,x3,([]:List TL).length,tls [],ha,mo,x4,l4.length,strs l4,ag,hb,xb,lb.length,tls lb,b1,b2,b3,0,[],h,(some (ab (usaL (tls []))).length),(aa 4 (tls (ab (usaL (tls []))))),false,true,1,true⟩:NTS) g0 gs gn rfl rfl (shT _ _) rfl rfl rfl)) fun _=>⟨eo (⟨pl,rq,h,mx,co,se,x1,n1,c1,x2,n2,c2,x3,([]:List TL).length,tls [],ha,mo,x4,l4.length,strs l4,ag,[],x3,0,[],false,false,0,0,[],[],none,[],false,false,0,false⟩:NTS) hf rfl rfl,ah (gL (⟨pl,rq,h,mx,co,se,x1,n1,c1,x2,n2,c2,x3,([]:List TL).length,tls [],ha,mo,x4,l4.length,strs l4,ag,[],x3,0,[],false,false,0,0,[],[],none,[],false,false,0,false⟩:NTS) h3 ho he) fun _=>ah hX (ah hX (ep _))⟩⟩
  rw[hrb,ay]at g1;refine ao (fun g=>?_) (fun g2=>?_)
  ·rw[hrb,ay]at g;rw[g,ay]at g1;have gn:=(Bool.not_eq_false' ..).mp g1;exact⟨eP (⟨pl,rq,h,mx,co,se,x1,n1,c1,x2,n2,c2,x3,([]:List TL).length,tls [],ha,mo,x4,l4.length,strs l4,ag,hb,xb,lb.length,tls lb,b1,b2,b3,0,[],h,none,[],(rq||efB pl rq ha mo),true,1,true⟩:NTS) hf rfl (o:=3) (w:=4) (by decide) true rfl rfl rfl rfl,ah (gG (⟨pl,rq,h,mx,co,se,x1,n1,c1,x2,n2,c2,x3,([]:List TL).length,tls [],ha,mo,x4,l4.length,strs l4,ag,hb,xb,lb.length,tls lb,b1,b2,b3,0,[],h,none,[],(rq||efB pl rq ha mo),true,1,true⟩:NTS) hf rfl h3 h4 h5 rfl (by show true=!notB _ _ _ _ _ _ _ _ _ _ _;rw[g0];rfl) (nt_same2 (⟨pl,rq,h,mx,co,se,x1,n1,c1,x2,n2,c2,x3,([]:List TL).length,tls [],ha,mo,x4,l4.length,strs l4,ag,hb,xb,lb.length,tls lb,b1,b2,b3,0,[],h,none,[],(rq||efB pl rq ha mo),true,1,true⟩:NTS) g0 g gn rfl rfl rfl rfl rfl)) fun _=>⟨eo (⟨pl,rq,h,mx,co,se,x1,n1,c1,x2,n2,c2,x3,([]:List TL).length,tls [],ha,mo,x4,l4.length,strs l4,ag,[],x3,0,[],false,false,0,0,[],[],none,[],false,false,0,false⟩:NTS) hf rfl rfl,ah (gL (⟨pl,rq,h,mx,co,se,x1,n1,c1,x2,n2,c2,x3,([]:List TL).length,tls [],ha,mo,x4,l4.length,strs l4,ag,[],x3,0,[],false,false,0,0,[],[],none,[],false,false,0,false⟩:NTS) h3 ho he) fun _=>ah hX (ah hX (ep _))⟩⟩
  rw[hrb,ay]at g2;exact ah hrb ⟨eP (⟨pl,rq,h,mx,co,se,x1,n1,c1,x2,n2,c2,x3,([]:List TL).length,tls [],ha,mo,x4,l4.length,strs l4,ag,hb,xb,lb.length,tls lb,b1,b2,b3,0,[],h,none,[],(rq||efB pl rq ha mo),(rq||efB pl rq ha mo),(kdI pl rq false ha mo),true⟩:NTS) hf rfl (o:=3) (w:=4) (by decide) true rfl rfl rfl rfl,ah (gG (⟨pl,rq,h,mx,co,se,x1,n1,c1,x2,n2,c2,x3,([]:List TL).length,tls [],ha,mo,x4,l4.length,strs l4,ag,hb,xb,lb.length,tls lb,b1,b2,b3,0,[],h,none,[],(rq||efB pl rq ha mo),(rq||efB pl rq ha mo),(kdI pl rq false ha mo),true⟩:NTS) hf rfl h3 h4 h5 rfl (by show true=!notB _ _ _ _ _ _ _ _ _ _ _;rw[g0];rfl) (nt_same3 (⟨pl,rq,h,mx,co,se,x1,n1,c1,x2,n2,c2,x3,([]:List TL).length,tls [],ha,mo,x4,l4.length,strs l4,ag,hb,xb,lb.length,tls lb,b1,b2,b3,0,[],h,none,[],(rq||efB pl rq ha mo),(rq||efB pl rq ha mo),(kdI pl rq false ha mo),true⟩:NTS) g0 g2 rfl rfl rfl rfl rfl)) fun _=>⟨eo (⟨pl,rq,h,mx,co,se,x1,n1,c1,x2,n2,c2,x3,([]:List TL).length,tls [],ha,mo,x4,l4.length,strs l4,ag,[],x3,0,[],false,false,0,0,[],[],none,[],false,false,0,false⟩:NTS) hf rfl rfl,ah (gL (⟨pl,rq,h,mx,co,se,x1,n1,c1,x2,n2,c2,x3,([]:List TL).length,tls [],ha,mo,x4,l4.length,strs l4,ag,[],x3,0,[],false,false,0,0,[],[],none,[],false,false,0,false⟩:NTS) h3 ho he) fun _=>ah hX (ah hX (ep _))⟩⟩
 ·refine ah ?_ (ah ?_ ?_)
  ·rw[ci,Nat.mul_comm,Nat.beq_refl,ay];exact tls_one3 l3
  ·rw[Nat.zero_add,af];exact⟨ap q3,ap (show l3.length*24≤140737488355328 by omega)⟩
  have hf:ax (tls l3)=true:=bR l3;have ho:okT (0+l3.length) (tls l3)=true:=by rw[Nat.zero_add];exact h3
  have he:tls l3=tls l3:=rfl;refine ao (fun g=>?_) (fun g0=>?_)
  ·have hc:=(af ..▸g:_∧_).2;exact⟨eP (⟨pl,rq,h,mx,co,se,x1,n1,c1,x2,n2,c2,x3,l3.length,tls l3,ha,mo,x4,l4.length,strs l4,ag,hb,xb,lb.length,tls lb,b1,b2,b3,(0+l3.length),(tls l3),[],none,[],false,false,0,false⟩:NTS) hf rfl (o:=4) (w:=5) (by decide) false rfl rfl rfl rfl,ah (gG (⟨pl,rq,h,mx,co,se,x1,n1,c1,x2,n2,c2,x3,l3.length,tls l3,ha,mo,x4,l4.length,strs l4,ag,hb,xb,lb.length,tls lb,b1,b2,b3,(0+l3.length),(tls l3),[],none,[],false,false,0,false⟩:NTS) hf rfl h3 h4 h5 rfl (by show false=!notB _ _ _ _ _ _ _ _ _ _ _;rw[hc];rfl) (nt_same0 (⟨pl,rq,h,mx,co,se,x1,n1,c1,x2,n2,c2,x3,l3.length,tls l3,ha,mo,x4,l4.length,strs l4,ag,hb,xb,lb.length,tls lb,b1,b2,b3,(0+l3.length),(tls l3),[],none,[],false,false,0,false⟩:NTS) hc rfl rfl rfl rfl rfl)) fun _=>⟨eo (⟨pl,rq,h,mx,co,se,x1,n1,c1,x2,n2,c2,x3,l3.length,tls l3,ha,mo,x4,l4.length,strs l4,ag,[],x3,0,[],false,false,0,(0+l3.length),(tls l3),[],none,[],false,false,0,false⟩:NTS) hf rfl rfl,ah (gL (⟨pl,rq,h,mx,co,se,x1,n1,c1,x2,n2,c2,x3,l3.length,tls l3,ha,mo,x4,l4.length,strs l4,ag,[],x3,0,[],false,false,0,(0+l3.length),(tls l3),[],none,[],false,false,0,false⟩:NTS) h3 ho he) fun _=>ah hX (ah hX (ep _))⟩⟩
  rw[hrb,ay]at g0;refine ao (fun g=>?_) (fun g1=>?_)
  ·rw[hrb,ay,af]at g;obtain⟨gs,gn⟩:=g;have gn:=(Bool.not_eq_true' _).mp gn;exact⟨mX (⟨pl,rq,h,mx,co,se,x1,n1,c1,x2,n2,c2,x3,l3.length,tls l3,ha,mo,x4,l4.length,strs l4,ag,hb,xb,lb.length,tls lb,b1,b2,b3,(0+l3.length),(tls l3),h,(some (ab (usaL (tls l3))).length),(aa 5 (tls (ab (usaL (tls l3))))),false,true,1,true⟩:NTS) hf (by show ax (aa _ (tls _))=true;rw[shT];exact bR _) (n:=(ab (usaL (tls l3))).length) rfl (o:=4) (w:=6) (k:=5) (by decide) true rfl rfl rfl rfl rfl,ah (gG (⟨pl,rq,h,mx,co,se,x1,n1,c1,x2,n2,c2,x3,l3.length,tls l3,ha,mo,x4,l4.length,strs l4,ag,hb,xb,lb.length,tls lb,b1,b2,b3,(0+l3.length),(tls l3),h,(some (ab (usaL (tls l3))).length),(aa 5 (tls (ab (usaL (tls l3))))),false,true,1,true⟩:NTS) hf (by show ax (aa _ (tls _))=true;rw[shT];exact bR _) h3 h4 h5 (by show okT _ (aa _ (tls _))=true;rw[shT];exact dT (hg4 _)) (by show true=!notB _ _ _ _ _ _ _ _ _ _ _;rw[g0];rfl) (nt_same1 (⟨pl,rq,h,mx,co,se,x1,n1,c1,x2,n2,c2,x3,l3.length,tls l3,ha,mo,x4,l4.length,strs l4,ag,hb,xb,lb.length,tls lb,b1,b2,b3,(0+l3.length),(tls l3),h,(some (ab (usaL (tls l3))).length),(aa 5 (tls (ab (usaL (tls l3))))),false,true,1,true⟩:NTS) g0 gs gn rfl rfl (shT _ _) rfl rfl rfl)) fun _=>⟨eo (⟨pl,rq,h,mx,co,se,x1,n1,c1,x2,n2,c2,x3,l3.length,tls l3,ha,mo,x4,l4.length,strs l4,ag,[],x3,0,[],false,false,0,(0+l3.length),(tls l3),[],none,[],false,false,0,false⟩:NTS) hf rfl rfl,ah (gL (⟨pl,rq,h,mx,co,se,x1,n1,c1,x2,n2,c2,x3,l3.length,tls l3,ha,mo,x4,l4.length,strs l4,ag,[],x3,0,[],false,false,0,(0+l3.length),(tls l3),[],none,[],false,false,0,false⟩:NTS) h3 ho he) fun _=>ah hX (ah hX (ep _))⟩⟩
  rw[hrb,ay]at g1;refine ao (fun g=>?_) (fun g2=>?_)
  ·rw[hrb,ay]at g;rw[g,ay]at g1;have gn:=(Bool.not_eq_false' ..).mp g1;exact⟨eP (⟨pl,rq,h,mx,co,se,x1,n1,c1,x2,n2,c2,x3,l3.length,tls l3,ha,mo,x4,l4.length,strs l4,ag,hb,xb,lb.length,tls lb,b1,b2,b3,(0+l3.length),(tls l3),h,none,[],(rq||efB pl rq ha mo),true,1,true⟩:NTS) hf rfl (o:=4) (w:=5) (by decide) true rfl rfl rfl rfl,ah (gG (⟨pl,rq,h,mx,co,se,x1,n1,c1,x2,n2,c2,x3,l3.length,tls l3,ha,mo,x4,l4.length,strs l4,ag,hb,xb,lb.length,tls lb,b1,b2,b3,(0+l3.length),(tls l3),h,none,[],(rq||efB pl rq ha mo),true,1,true⟩:NTS) hf rfl h3 h4 h5 rfl (by show true=!notB _ _ _ _ _ _ _ _ _ _ _;rw[g0];rfl) (nt_same2 (⟨pl,rq,h,mx,co,se,x1,n1,c1,x2,n2,c2,x3,l3.length,tls l3,ha,mo,x4,l4.length,strs l4,ag,hb,xb,lb.length,tls lb,b1,b2,b3,(0+l3.length),(tls l3),h,none,[],(rq||efB pl rq ha mo),true,1,true⟩:NTS) g0 g gn rfl rfl rfl rfl rfl)) fun _=>⟨eo (⟨pl,rq,h,mx,co,se,x1,n1,c1,x2,n2,c2,x3,l3.length,tls l3,ha,mo,x4,l4.length,strs l4,ag,[],x3,0,[],false,false,0,(0+l3.length),(tls l3),[],none,[],false,false,0,false⟩:NTS) hf rfl rfl,ah (gL (⟨pl,rq,h,mx,co,se,x1,n1,c1,x2,n2,c2,x3,l3.length,tls l3,ha,mo,x4,l4.length,strs l4,ag,[],x3,0,[],false,false,0,(0+l3.length),(tls l3),[],none,[],false,false,0,false⟩:NTS) h3 ho he) fun _=>ah hX (ah hX (ep _))⟩⟩
  rw[hrb,ay]at g2;exact ah hrb ⟨eP (⟨pl,rq,h,mx,co,se,x1,n1,c1,x2,n2,c2,x3,l3.length,tls l3,ha,mo,x4,l4.length,strs l4,ag,hb,xb,lb.length,tls lb,b1,b2,b3,(0+l3.length),(tls l3),h,none,[],(rq||efB pl rq ha mo),(rq||efB pl rq ha mo),(kdI pl rq false ha mo),true⟩:NTS) hf rfl (o:=4) (w:=5) (by decide) true rfl rfl rfl rfl,ah (gG (⟨pl,rq,h,mx,co,se,x1,n1,c1,x2,n2,c2,x3,l3.length,tls l3,ha,mo,x4,l4.length,strs l4,ag,hb,xb,lb.length,tls lb,b1,b2,b3,(0+l3.length),(tls l3),h,none,[],(rq||efB pl rq ha mo),(rq||efB pl rq ha mo),(kdI pl rq false ha mo),true⟩:NTS) hf rfl h3 h4 h5 rfl (by show true=!notB _ _ _ _ _ _ _ _ _ _ _;rw[g0];rfl) (nt_same3 (⟨pl,rq,h,mx,co,se,x1,n1,c1,x2,n2,c2,x3,l3.length,tls l3,ha,mo,x4,l4.length,strs l4,ag,hb,xb,lb.length,tls lb,b1,b2,b3,(0+l3.length),(tls l3),h,none,[],(rq||efB pl rq ha mo),(rq||efB pl rq ha mo),(kdI pl rq false ha mo),true⟩:NTS) g0 g2 rfl rfl rfl rfl rfl)) fun _=>⟨eo (⟨pl,rq,h,mx,co,se,x1,n1,c1,x2,n2,c2,x3,l3.length,tls l3,ha,mo,x4,l4.length,strs l4,ag,[],x3,0,[],false,false,0,(0+l3.length),(tls l3),[],none,[],false,false,0,false⟩:NTS) hf rfl rfl,ah (gL (⟨pl,rq,h,mx,co,se,x1,n1,c1,x2,n2,c2,x3,l3.length,tls l3,ha,mo,x4,l4.length,strs l4,ag,[],x3,0,[],false,false,0,(0+l3.length),(tls l3),[],none,[],false,false,0,false⟩:NTS) h3 ho he) fun _=>ah hX (ah hX (ep _))⟩⟩
end Go.Proofs.YtebkeppoicllmaaGreatDoor
namespace Go.Proofs.YtebkeppoicllmaaGreatDoor
open Go Go.Vm Go.RowKit
theorem u8_wf{n:Int}(h:(Lit.int .u8 n).wf=true):u8B n=true:=by
 have h1:IntKind.u8.min≤n∧n≤IntKind.u8.max:=by simpa[Lit.wf]using h
 have h2:IntKind.u8.min=0:=by decide
 have h3:IntKind.u8.max=255:=by decide
 rw[h2,h3]at h1;unfold u8B;simp only[af,decide_eq_true_eq];omega
theorem tlsDU:∀(f:Nat) (l:List DD),(∀y∈l,OfSh (f+2) tlSh y)→∃rs:List TL,l.length=rs.length∧bE l=tls rs∧rs.all inU=true
 |f,[],_=>⟨[],rfl,rfl,rfl⟩
 |f,d::r,h=>by
  obtain⟨l0,e0,g0⟩:=mW (h d (by simp));obtain⟨d0,l1,e1,a0,g1⟩:=aR g0;obtain⟨d1,l2,e2,a1,g2⟩:=aR g1;obtain⟨d2,l3,e3,a2,g3⟩:=aR g2;obtain⟨d3,l4,e4,a3,g4⟩:=aR g3;have e5:=fT g4;obtain⟨u,hu⟩:=ofInt a0;obtain⟨s,hs⟩:=ofInt a1;obtain⟨m,hm⟩:=ofInt a2;obtain⟨b,hb⟩:=ofStr a3;have q0:=hu.1;have q1:=hs.1;have q2:=hm.1;have q3:=hb.1;subst e0 e1 e2 e3 e4 e5 q0 q1 q2 q3;obtain⟨rs,h1,h2,h3⟩:=tlsDU f r (fun y hy=>h y (by simp[hy]));exact⟨⟨u,s,m,b⟩::rs,by simp[h1],by simp only[bE,fg,h2,tls];rfl,by rw[List.all_cons,h3];unfold inU;rw[u8_wf hs.2,u8_wf hm.2];rfl⟩
end Go.Proofs.YtebkeppoicllmaaGreatDoor
namespace Go.Proofs.YtebkeppoicllmaaGreatDoor
open Go Go.Vm Go.RowKit
open Go.ChangeShapes Go.WideShapes Go.ChangeAt
def askSh:Sh:=.agg [.bool,.bool,.str,.bool,.agg [.int .u8,.bool,.lst (.agg [.int .i64,.str]),.lst (.str),.lst tlSh],.bool,.agg [.int .u8,.lst .str,.int .i64]]
theorem askSh_ok:shOk Tryz.prog 9 askSh 58=true:=by kernel_rfl
def IsAsk(w:World)(v:Value):Prop:=∃pl rq h mx co se xml nml ml xtx ntx tx xtl tl ha mo xms ms ag,@real gl (Frz.of w) [] (.agg [.bool pl,.bool rq,.str h,.bool mx,.int .u8 co,.bool se,.lst xml nml ml,.lst xtx ntx tx,lstT xtl tl,.bool ha,.int .u8 mo,lstS xms ms,.int .i64 ag])=some v∧tl.length≤maxLen∧tl.all inU=true∧ms.length≤maxLen
theorem open_Ask{H:Type}{enc:TypeId×Value→H}{W:World}{b0:Nat}{r:Reach}{v:Value}{d:DataW H}{ps:List MemPlace}
  (hval:Value.okWide Tryz.prog W r b0 58 v)(hd:DataW.Trod enc Tryz.prog W 0 (fun _=>true) true 58 v d ps):IsAsk W v:=by
 obtain⟨cs,rfl,_⟩:=okWide_struct Tryz.underlying58 hval;obtain⟨fuel,hf⟩:=hd;obtain⟨dd,h1,h2⟩:=@kw gl _ _ _ _ _ _ _ 9 askSh 58 fuel _ _ askSh_ok hf;obtain⟨l0_0,e0,g0_0⟩:=mW h1;obtain⟨d0_0,l0_1,e0_0,a0_0,g0_1⟩:=aR g0_0;obtain⟨d0_1,l0_2,e0_1,a0_1,g0_2⟩:=aR g0_1;obtain⟨d0_2,l0_3,e0_2,a0_2,g0_3⟩:=aR g0_2;obtain⟨d0_3,l0_4,e0_3,a0_3,g0_4⟩:=aR g0_3;obtain⟨d0_4,l0_5,e0_4,a0_4,g0_5⟩:=aR g0_4;obtain⟨d0_5,l0_6,e0_5,a0_5,g0_6⟩:=aR g0_5;obtain⟨d0_6,l0_7,e0_6,a0_6,g0_7⟩:=aR g0_6;have z0:=fT g0_7;subst e0 e0_0 e0_1 e0_2 e0_3 e0_4 e0_5 e0_6 z0;obtain⟨pl,q_pl⟩:=iO a0_0;subst q_pl;obtain⟨rq,q_rq⟩:=iO a0_1;subst q_rq;obtain⟨h,q_h,w_h⟩:=ofStr a0_2;subst q_h;obtain⟨mx,q_mx⟩:=iO a0_3;subst q_mx;obtain⟨l1_0,e1,g1_0⟩:=mW a0_4;obtain⟨d1_0,l1_1,e1_0,a1_0,g1_1⟩:=aR g1_0;obtain⟨d1_1,l1_2,e1_1,a1_1,g1_2⟩:=aR g1_1;obtain⟨d1_2,l1_3,e1_2,a1_2,g1_3⟩:=aR g1_2;obtain⟨d1_3,l1_4,e1_3,a1_3,g1_4⟩:=aR g1_3;obtain⟨d1_4,l1_5,e1_4,a1_4,g1_5⟩:=aR g1_4;have z1:=fT g1_5;subst e1 e1_0 e1_1 e1_2 e1_3 e1_4 z1;obtain⟨co,q_co,w_co⟩:=ofInt a1_0;subst q_co;obtain⟨se,q_se⟩:=iO a1_1;subst q_se;obtain⟨xml,ds_ml,q_ml,w_ml,y_ml⟩:=ofLst a1_2;subst q_ml;obtain⟨xtx,ds_tx,q_tx,w_tx,y_tx⟩:=ofLst a1_3;subst q_tx;obtain⟨xtl,ds_tl,q_tl,w_tl,y_tl⟩:=ofLst a1_4;subst q_tl;obtain⟨tl,n_tl,m_tl,u_tl⟩:=tlsDU _ ds_tl y_tl;obtain⟨ha,q_ha⟩:=iO a0_5;subst q_ha;obtain⟨l2_0,e2,g2_0⟩:=mW a0_6;obtain⟨d2_0,l2_1,e2_0,a2_0,g2_1⟩:=aR g2_0;obtain⟨d2_1,l2_2,e2_1,a2_1,g2_2⟩:=aR g2_1;obtain⟨d2_2,l2_3,e2_2,a2_2,g2_3⟩:=aR g2_2;have z2:=fT g2_3;subst e2 e2_0 e2_1 e2_2 z2;obtain⟨mo,q_mo,w_mo⟩:=ofInt a2_0;subst q_mo;obtain⟨xms,ds_ms,q_ms,w_ms,y_ms⟩:=ofLst a2_1;subst q_ms;obtain⟨ms,c_ms,m_ms⟩:=strsD _ ds_ms y_ms;have n_ms:ds_ms.length=ms.length:=by rw[c_ms,List.length_map]
 obtain⟨ag,q_ag,w_ag⟩:=ofInt a2_2;subst q_ag;simp only[fg,bE,m_tl,m_ms,n_tl,n_ms,List.append_nil,List.cons_append,List.nil_append]at h2;have h3:=@fK gl (Frz.of W) [] _ _ h2;refine⟨pl,rq,h,mx,co,se,xml,ds_ml.length,bE ds_ml,xtx,ds_tx.length,bE ds_tx,xtl,tl,ha,mo,xms,ms,ag,?_,by rw[←n_tl];exact w_tl,u_tl,by rw[←n_ms];exact w_ms⟩;have h4:=@Go.Vm.real_agg_mk gl (Frz.of W) [] _ _ h3;rw[show(Value.agg cs).cells=cs from rfl,Array.toArray_toList]at h4;exact h4
def needSh:Sh:=.agg [.str,.lst tlSh,.bool,.bool,.int .u8]
theorem needSh_ok:shOk Tryz.prog 9 needSh 38=true:=by kernel_rfl
def IsNeed(w:World)(v:Value):Prop:=∃h xtl tl ch se ty,@real gl (Frz.of w) [] (.agg [.str h,lstT xtl tl,.bool ch,.bool se,.int .u8 ty])=some v∧tl.length≤maxLen
theorem open_Need{H:Type}{enc:TypeId×Value→H}{W:World}{b0:Nat}{r:Reach}{v:Value}{d:DataW H}{ps:List MemPlace}
  (hval:Value.okWide Tryz.prog W r b0 38 v)(hd:DataW.Trod enc Tryz.prog W 0 (fun _=>true) true 38 v d ps):IsNeed W v:=by
 obtain⟨cs,rfl,_⟩:=okWide_struct Tryz.underlying38 hval;obtain⟨fuel,hf⟩:=hd;obtain⟨dd,h1,h2⟩:=@kw gl _ _ _ _ _ _ _ 9 needSh 38 fuel _ _ needSh_ok hf;obtain⟨l0_0,e0,g0_0⟩:=mW h1;obtain⟨d0_0,l0_1,e0_0,a0_0,g0_1⟩:=aR g0_0;obtain⟨d0_1,l0_2,e0_1,a0_1,g0_2⟩:=aR g0_1;obtain⟨d0_2,l0_3,e0_2,a0_2,g0_3⟩:=aR g0_2;obtain⟨d0_3,l0_4,e0_3,a0_3,g0_4⟩:=aR g0_3;obtain⟨d0_4,l0_5,e0_4,a0_4,g0_5⟩:=aR g0_4;have z0:=fT g0_5;subst e0 e0_0 e0_1 e0_2 e0_3 e0_4 z0;obtain⟨h,q_h,w_h⟩:=ofStr a0_0;subst q_h;obtain⟨xtl,ds_tl,q_tl,w_tl,y_tl⟩:=ofLst a0_1;subst q_tl;obtain⟨tl,n_tl,m_tl⟩:=tlsD _ ds_tl y_tl;obtain⟨ch,q_ch⟩:=iO a0_2;subst q_ch;obtain⟨se,q_se⟩:=iO a0_3;subst q_se;obtain⟨ty,q_ty,w_ty⟩:=ofInt a0_4;subst q_ty;simp only[fg,bE,m_tl,n_tl,List.append_nil,List.cons_append,List.nil_append]at h2;have h3:=@fK gl (Frz.of W) [] _ _ h2;refine⟨h,xtl,tl,ch,se,ty,?_,by rw[←n_tl];exact w_tl⟩;have h4:=@Go.Vm.real_agg_mk gl (Frz.of W) [] _ _ h3;rw[show(Value.agg cs).cells=cs from rfl,Array.toArray_toList]at h4;exact h4
theorem jJ:maxLen=9223372036854775807:=by decide
theorem lu(v0:Value)(v1:Value)(w:World)(x0:IsAsk w v0)(x1:IsNeed w v1)(hg:@GOk gl (Frz.of w) w.heap.size w):
  Calls Tryz.prog 5 #[v0,v1] w (fun e w'=>e=.returned (.bool true)∧Below w.heap.size w w'):=by
 obtain⟨pl_0,rq_0,h_0,mx_0,co_0,se_0,xml_0,nml_0,ml_0,xtx_0,ntx_0,tx_0,xtl_0,tl_0,ha_0,mo_0,xms_0,ms_0,ag_0,re0,hy_tl_0,hyu_tl_0,hy_ms_0⟩:=x0;obtain⟨h_1,xtl_1,tl_1,ch_1,se_1,ty_1,re1,hy_tl_1⟩:=x1;refine @frz_law gl Tryz.prog 5 [.agg [.bool pl_0,.bool rq_0,.str h_0,.bool mx_0,.int .u8 co_0,.bool se_0,.lst xml_0 nml_0 ml_0,.lst xtx_0 ntx_0 tx_0,lstT xtl_0 tl_0,.bool ha_0,.int .u8 mo_0,lstS xms_0 ms_0,.int .i64 ag_0],.agg [.str h_1,lstT xtl_1 tl_1,.bool ch_1,.bool se_1,.int .u8 ty_1]] [v0,v1] w (@tells_close (Frz.of w) pl_0 rq_0 h_0 mx_0 co_0 se_0 xml_0 nml_0 ml_0 xtx_0 ntx_0 tx_0 xtl_0 tl_0 ha_0 mo_0 xms_0 ms_0 ag_0 h_1 xtl_1 tl_1 ch_1 se_1 ty_1 (by rw[jJ]at hy_tl_0;exact hy_tl_0) hyu_tl_0 (by rw[jJ]at hy_ms_0;exact hy_ms_0) (by rw[jJ]at hy_tl_1;exact hy_tl_1)) ?_ hg;simp only[ak,re0,re1]
end Go.Proofs.YtebkeppoicllmaaGreatDoor
namespace Go.Proofs.YtebkeppoicllmaaGreatDoor
open Go Go.Vm Go.RowKit
open Go.ChangeShapes Go.WideShapes Go.ChangeAt Go.WideMaps Go.WideElems
variable [Φ:Frz]
def isFuncT:Option TypeDesc→Bool
 |some (.func _ _ _)=>true
 |_=>false
theorem func_of{o:Option TypeDesc}(h:isFuncT o=true):∃ps rs va,o=some (.func ps rs va):=by
 unfold isFuncT at h;split at h
 ·rename_i ps rs va;exact⟨ps,rs,va,rfl⟩
 ·cases h
def partsD:DataW Unit→List (DataW Unit)
 |.agg l=>l
 |_=>[]
def ofD:DataW Unit→V
 |.lit (.int k n)=>.int k n
 |_=>.bool false
def inD:DataW Unit→DataW Unit
 |.iface _ d=>d
 |d=>d
theorem var_heap{P:Program}{w:World}{n:String}{g:Nat}{cs:Array Value}(hg:P.globalNamed n=some g)(h:w.var? P n=some cs):∃t fz,w.heap[g]?=some (.cells cs t fz):=by
 simp only[World.var?,hg,Option.bind_some]at h;split at h
 ·rename_i c t fz hb;cases h;exact⟨t,fz,hb⟩
 ·cases h
def l9(W:World)(g:Nat)(C:List V):Prop:=∃arr t fz,W.heap[g]?=some (.cells arr t fz)∧∀i v,C[i]?=some v→∃x,real [] v=some x∧arr[0+i]?=some x
theorem int_cells{W:World}{n:String}{g t0 t e N f0:Nat}{k:IntKind}{C:List V}{d:DataW Unit}{cs0:Array Value}{p0:List MemPlace}{sp:Nat→Bool}{held:Bool}{enc:TypeId×Value→Unit}(hg:Tryz.prog.globalNamed n=some g)(hu:Tryz.prog.underlying t=some (.array N e))(hk:Tryz.prog.underlying e=some (.int k))(hw:Tryz.prog.cellsOf e=1)
  (hd:d=.agg (partsD d))(hC:C=(partsD d).map ofD)(ht0:t0=t)(hv0:W.var? Tryz.prog n=some cs0)(hd0:DataW.trod enc Tryz.prog W 0 sp held f0 t0 cs0.toList=some (d,p0)):l9 W g C:=by
 subst ht0;obtain⟨ty,fz,hheap⟩:=var_heap hg hv0;refine⟨cs0,ty,fz,hheap,fun i v hv=>?_⟩;obtain⟨xs,m1,rfl,hx1,hlen,hn,hel⟩:=DataW.trod_array hu hd0;rw[hd]at hx1;simp only[Prod.mk.injEq,DataW.agg.injEq]at hx1;have hD:=hx1.1;rw[hC,hD,List.getElem?_map,List.getElem?_map]at hv;cases hxi:xs[i]? with
 |none=>rw[hxi]at hv;cases hv
 |some x=>
  rw[hxi]at hv;simp only[Option.map_some,Option.some.injEq]at hv;have hi:i<N:=by rw[←hn];exact(List.getElem?_eq_some_iff.1 hxi).1
  have h1:=hel i hi;rw[hxi,hw,Nat.mul_one]at h1;obtain⟨a,e0,e1,wa⟩:=DataW.trod_int hk h1;subst e1;simp only[ofD]at hv;subst hv;refine⟨.int k a,rfl,?_⟩;rw[Nat.zero_add];have e2:((cs0.toList.drop i).take 1)[0]?=some (Value.int k a):=by rw[e0];rfl
  rw[List.getElem?_take,if_pos (by omega),List.getElem?_drop,Nat.add_zero]at e2;simpa using e2
theorem mt{W:World}{n:String}{g:Nat}{t e:TypeId}{d:DataW Unit}{b0 b1:UInt8}{r0 r1:List UInt8}{f0 f1:FuncId}(hg:Tryz.prog.globalNamed n=some g)(ht:(Tryz.prog.globals[g]?).map (·.type)=some t)
  (hu:Tryz.prog.underlying t=some (.array 2 e))(hf:∃ps rs va,Tryz.prog.underlying e=some (.func ps rs va))(hw:Tryz.prog.cellsOf e=1)(hc:Tryz.prog.cellsOf t=2)(hd:d.funcsOut=.agg [.held (b0::r0),.held (b1::r1)])
  (h0:((List.range Tryz.prog.funcs.size).filter fun f=>(Tryz.prog.funcs[f]?).any (·.name.toUTF8.data.toList==b0::r0))=[f0])
  (h1:((List.range Tryz.prog.funcs.size).filter fun f=>(Tryz.prog.funcs[f]?).any (·.name.toUTF8.data.toList==b1::r1))=[f1])
  (h:funcsAt Tryz.prog W n d):l9 W g [.func (.func f0) [] [],.func (.func f1) [] []]:=by
 obtain⟨ps,rs,va,hfu⟩:=hf;obtain⟨g',t',cs,fuel,p,hg',ht',hv,htr⟩:=h;obtain rfl:=Option.some.inj (hg.symm.trans hg');obtain rfl:=Option.some.inj (ht.symm.trans ht');obtain⟨ty,fz,hheap⟩:=var_heap hg hv;obtain⟨xs,m1,rfl,hx1,hlen,hn,hel⟩:=DataW.trod_array hu htr;rw[hd]at hx1;simp only[Prod.mk.injEq,DataW.agg.injEq]at hx1;have hD:=hx1.1;have one:∀(i:Nat) (b:UInt8) (r:List UInt8) (f:FuncId),i<2→([DataW.held (b0::r0),.held (b1::r1)]:List (DataW (List UInt8)))[i]?=some (.held (b::r))→
   ((List.range Tryz.prog.funcs.size).filter fun f=>(Tryz.prog.funcs[f]?).any (·.name.toUTF8.data.toList==b::r))=[f]→cs[0+i]?=some (.func (.func f) #[] #[]):=by
  intro i b r f hi hb hone;rw[hD,List.getElem?_map]at hb;cases hxi:xs[i]? with
  |none=>rw[hxi]at hb;cases hb
  |some x=>
   rw[hxi]at hb;simp only[Option.map_some,Option.some.injEq]at hb;have h2:=hel i hi;rw[hxi,hw,Nat.mul_one]at h2;have hl:∃v,(cs.toList.drop i).take 1=[v]:=by
    have hcs:cs.toList.length=2:=by
     have:=hlen;rw[hc]at this;simpa using this
    cases hq:cs.toList.drop i with
    |nil=>have:=congrArg List.length hq;simp at this;simp at hcs;omega
    |cons v q=>exact⟨v,rfl⟩
   obtain⟨v,hvv⟩:=hl;rw[hvv]at h2;obtain⟨y,q⟩:=x;simp only at hb;subst hb;have hvf:=func_of_trod hfu hone h2;have e2:((cs.toList.drop i).take 1)[0]?=some v:=by rw[hvv];rfl
   rw[List.getElem?_take,if_pos (by omega),List.getElem?_drop,Nat.add_zero]at e2;rw[Nat.zero_add,←hvf];simpa using e2
 refine⟨cs,ty,fz,hheap,fun i v hv=>?_⟩
 match i,hv with
 |0,hv=>
  simp only[List.getElem?_cons_zero,Option.some.injEq]at hv;subst hv;exact⟨_,rfl,one 0 b0 r0 f0 (by omega) rfl h0⟩
 |1,hv=>
  simp only[List.getElem?_cons_succ,List.getElem?_cons_zero,Option.some.injEq]at hv;subst hv;exact⟨_,rfl,one 1 b1 r1 f1 (by omega) rfl h1⟩
 |i+2,hv=>simp at hv
theorem plain_part{P:Program}{l:List (String×DataW Unit)}{w:World}(h:laidMetH P l w):laidMet P (l.filter fun x=>x.2.handleName?.isNone) w:=by
 unfold laidMetH at h;generalize hfl:(l.filter fun x=>x.2.handleName?.isSome)=fl at h;cases fl with
 |nil=>
  have e:(l.filter fun x=>x.2.handleName?.isNone)=l:=by
   rw[List.filter_eq_self];intro x hx;have:=(List.filter_eq_nil_iff.1 hfl) x hx;cases hn:x.2.handleName? with
   |none=>rfl
   |some s=>rw[hn]at this;exact absurd rfl this
  rw[e];exact h
 |cons a b=>exact h.1
theorem laid_var{P:Program}{w:World}{n:String}{d:DataW Unit}:∀{l:List (String×DataW Unit)} {ps:List MemPlace},DataW.LaidVars P w l ps→(n,d)∈l→∃g t cs fuel p,P.globalNamed n=some g∧(P.globals[g]?).map (·.type)=some t∧w.var? P n=some cs∧DataW.trod (fun _=>()) P w 0 (fun _=>true) false fuel t cs.toList=some (d,p)
 |[],_,_,h=>by cases h
 |(n',d')::r,ps,h,hm=>by
  obtain⟨g,t,cs,fuel,p,q,h1,h2,h3,h4,h5,_⟩:=h;rcases List.mem_cons.1 hm with e|hm
  ·cases e;exact⟨g,t,cs,fuel,p,h1,h2,h3,h4⟩
  ·exact laid_var h5 hm
theorem plain_var{P:Program}{l:List (String×DataW Unit)}{w:World}(h:laidMetH P l w){n:String}{d:DataW Unit}(hm:(n,d)∈l)(hn:d.handleName?.isNone=true):∃g t cs fuel p,P.globalNamed n=some g∧(P.globals[g]?).map (·.type)=some t∧w.var? P n=some cs∧DataW.trod (fun _=>()) P w 0 (fun _=>true) false fuel t cs.toList=some (d,p):=by
 obtain⟨ps,hl,_,_⟩:=plain_part h;exact laid_var hl (List.mem_filter.2 ⟨hm,hn⟩)
theorem own:ownKnob Tryz.prog.godebug=none:=by kernel_rfl
theorem cells_2{W:World}(h:laidMetH Tryz.prog Rows.needTellsRow.laid W):l9 W 2 keyC:=by
 have hm:("mailroom/code.key",(Rows.laid_mailroom_code_key:DataW Unit))∈Rows.needTellsRow.laid:=List.mem_of_getElem? (i:=0) rfl;obtain⟨g,t,cs,fuel,p,h1,h2,h3,h4⟩:=plain_var h hm rfl;have e1:Tryz.prog.globalNamed "mailroom/code.key"=some 2:=by kernel_rfl
 obtain rfl:=Option.some.inj (e1.symm.trans h1);have e2:(Tryz.prog.globals[2]?).map (·.type)=some 177:=by kernel_rfl
 exact int_cells (n:= "mailroom/code.key") (t:=177) (e:=173) (N:=64) (k:=.u32) e1 (by kernel_rfl) (by kernel_rfl) (by kernel_rfl) rfl (by kernel_rfl) (Option.some.inj (e2.symm.trans h2)).symm h3 h4
theorem cells_1{W:World}(h:laidMetH Tryz.prog Rows.needTellsRow.laid W):l9 W 1 takesC:=by
 have hm:("mailroom/tlsa.takes",DataW.iface "func table" (inD (Rows.laid_mailroom_tlsa_takes:DataW Unit)))∈Rows.needTellsRow.laid:=List.mem_of_getElem? (i:=1) rfl;exact mt (t:=197) (e:=196) (b0:=109) (r0:=[97,105,108,114,111,111,109,47,116,108,115,97,46,116,97,107,101,115,36,49]) (b1:=109) (r1:=[97,105,108,114,111,111,109,47,116,108,115,97,46,116,97,107,101,115,36,50]) (f0:=276) (f1:=277) (by kernel_rfl) (by kernel_rfl) (by kernel_rfl) (func_of (by kernel_rfl)) (by kernel_rfl) (by kernel_rfl) (by kernel_rfl) (by kernel_rfl) (by kernel_rfl) (h.funcs hm)
theorem cells_0{W:World}(h:laidMetH Tryz.prog Rows.needTellsRow.laid W):l9 W 0 makesC:=by
 have hm:("mailroom/tlsa.makes",DataW.iface "func table" (inD (Rows.laid_mailroom_tlsa_makes:DataW Unit)))∈Rows.needTellsRow.laid:=List.mem_of_getElem? (i:=2) rfl;exact mt (t:=195) (e:=83) (b0:=109) (r0:=[97,105,108,114,111,111,109,47,116,108,115,97,46,109,97,107,101,115,36,49]) (b1:=109) (r1:=[97,105,108,114,111,111,109,47,99,111,100,101,46,83,117,109]) (f0:=275) (f1:=76) (by kernel_rfl) (by kernel_rfl) (by kernel_rfl) (func_of (by kernel_rfl)) (by kernel_rfl) (by kernel_rfl) (by kernel_rfl) (by kernel_rfl) (by kernel_rfl) (h.funcs hm)
theorem laid_gok{W:World}(hΦ:∀k o,Φ.φ k=some o→W.heap[k]?=some o)(h:laidMetH Tryz.prog Rows.needTellsRow.laid W):GOk W.heap.size W:=by
 have low:∀{g:Nat} {C:List V},l9 W g C→g<W.heap.size:=fun⟨_,_,_,hh,_⟩=>(Array.getElem?_eq_some_iff.1 hh).1;refine⟨fun k cs hk=>?_,fun k hk=>?_,fun k o hk=>⟨(Array.getElem?_eq_some_iff.1 (hΦ k o hk)).1,hΦ k o hk⟩⟩
 ·have fin:∀{g:Nat} {C:List V},l9 W g C→g<W.heap.size∧∃arr t fz,W.heap[g]?=some (.cells arr t fz)∧(∀i v,C[i]?=some v→∃x,real [] v=some x∧arr[0+i]?=some x):=fun hc=>⟨low hc,hc⟩
  match k,hk with
  |0,hk=>cases hk;obtain⟨a,arr,t,fz,h1,h2⟩:=fin (cells_0 h);exact⟨a,arr,t,fz,h1,h2,fun hf=>by cases hf⟩
  |1,hk=>cases hk;obtain⟨a,arr,t,fz,h1,h2⟩:=fin (cells_1 h);exact⟨a,arr,t,fz,h1,h2,fun hf=>by cases hf⟩
  |2,hk=>cases hk;obtain⟨a,arr,t,fz,h1,h2⟩:=fin (cells_2 h);exact⟨a,arr,t,fz,h1,h2,fun hf=>by cases hf⟩
  |k+3,hk=>cases hk
 ·cases hk
end Go.Proofs.YtebkeppoicllmaaGreatDoor
end
