/- Parts of this work: what the functions come to. -/
import Derived.Test.YtebkeppoicllmaaGreatDoorP2
import Derived.Test.YtebkeppoicllmaaGreatDoorP1
import Derived.Test.YtebkeppoicllmaaGreatDoorVmc
noncomputable section
set_option linter.unusedVariables false
set_option linter.unusedSectionVars false
set_option maxRecDepth 100000
namespace Go.Proofs.YtebkeppoicllmaaGreatDoor
open Go.IntKind (u8 u16 u32 u64 i8 i16 i32 i64)
open Go Go.Vm Go.RowKit
variable [Φ:Frz]
def ntTree0(VO:Nat→List V→Bool)(VW:Nat→List V→List TL)(SB:List UInt8→List TL→Bool→Bool→Int→List UInt8→List TL→Bool→Bool→Int→Bool)(C0 C1 C2:Bool)(N:Nat)(cs:List V)(ch:Bool)(t1:Int)(cq:Bool)(t2:Int)(pl rq:Bool)(h:List UInt8)(mx:Bool)(co:Int)(se:Bool)(x1:Value)(n1:Nat)(c1:List V)(x2:Value)(n2:Nat)(c2:List V)(x3:Value)(n3:Nat)(c3:List V)(ha:Bool)(mo:Int)(x4:Value)(n4:Nat)(c4:List V)(ag:Int)(hb:List UInt8)(xb:Value)(nb:Nat)(cb:List V)(b1 b2:Bool)(b3:Int)(on:Nat)(oc:List V)(wh:List UInt8)(w1 w2:Bool)(w3:Int)(was:Bool)(r:Int)(R:Qz):Prop:=
 (
 bif decide (r<2)then bif C0 then bif w3 !=1 then bif !false==was then R Exit.ret [some (V.ptr 0 0),some (V.ptr 1 0),some (V.bool false),some (V.slice 2 0 on
 false 0 0),some (V.ptr 3 0),some (V.bool was),some (V.int i64 r)] [ae pl rq h mx co se x1 n1 c1 x2 n2 c2 x3 n3 c3 ha mo x4 n4 c4 ag,Blk.row [V.str hb,
 V.lst xb nb cb,V.bool b1,V.bool b2,V.int u8 b3] 38 5,Blk.row oc 72 4,Blk.row [V.str wh,V.nilSlice,V.bool w1,V.bool w2,V.int u8 w3] 43 5,
 Blk.dead,Blk.row [V.str [],V.nilSlice,V.bool false,V.bool false,V.int u8 0] 38 5,Blk.row [V.str [],V.nilSlice,V.bool false,V.bool false,V.int u8
 0] 38 5]else bif !SB [] [] false false 0 wh [] w1 w2 w3 then R Exit.ret [some (V.ptr 0 0),some (V.ptr 1 0),some (V.bool false),some (V.slice 2 0 on false 0 0),some
 (V.ptr 3 0),some (V.bool was),some (V.int i64 r)] [ae pl rq h mx co se x1 n1 c1 x2 n2 c2 x3 n3 c3 ha mo x4 n4 c4 ag,Blk.row [V.str hb,V.lst xb nb cb,
 V.bool b1,V.bool b2,V.int u8 b3] 38 5,Blk.row oc 72 4,Blk.row [V.str wh,V.nilSlice,V.bool w1,V.bool w2,V.int u8 w3] 43 5,Blk.dead,Blk.row [V.str
 [],V.nilSlice,V.bool false,V.bool false,V.int u8 0] 38 5,Blk.row [V.str [],V.nilSlice,V.bool false,V.bool false,V.int u8 0] 38 5]else bif !SB []
 [] false false 0 wh [] w1 w2 w3 then R Exit.ret [some (V.ptr 0 0),some (V.ptr 1 0),some (V.bool false),some (V.slice 2 0 on false 0 0),some (V.ptr 3 0),some (V.bool
 was),some (V.int i64 r)] [ae pl rq h mx co se x1 n1 c1 x2 n2 c2 x3 n3 c3 ha mo x4 n4 c4 ag,Blk.row [V.str hb,V.lst xb nb cb,V.bool b1,V.bool b2,V.int
 u8 b3] 38 5,Blk.row oc 72 4,Blk.row [V.str wh,V.nilSlice,V.bool w1,V.bool w2,V.int u8 w3] 43 5,Blk.dead,Blk.row [V.str [],V.nilSlice,V.bool
 false,V.bool false,V.int u8 0] 38 5,Blk.row [V.str [],V.nilSlice,V.bool false,V.bool false,V.int u8 0] 38 5]else bif true&&VO nb cb then bif
 true&&VO nb cb then bif !SB [] [] false false 0 hb (VW nb cb) b1 b2 b3==SB wh [] w1 w2 w3 hb (VW nb cb) b1 b2 b3 then R Exit.ret [some (V.ptr 0 0),some (V.ptr 1 0),
 some (V.bool false),some (V.slice 2 0 on false 0 0),some (V.ptr 3 0),some (V.bool was),some (V.int i64 r)] [ae pl rq h mx co se x1 n1 c1 x2 n2 c2 x3 n3 c3
 ha mo x4 n4 c4 ag,Blk.row [V.str hb,V.lst xb nb cb,V.bool b1,V.bool b2,V.int u8 b3] 38 5,Blk.row oc 72 4,Blk.row [V.str wh,V.nilSlice,V.bool w1,V.bool
 w2,V.int u8 w3] 43 5,Blk.dead,Blk.row [V.str [],V.nilSlice,V.bool false,V.bool false,V.int u8 0] 38 5,Blk.row [V.str [],V.nilSlice,V.bool false,
 V.bool false,V.int u8 0] 38 5]else bif !SB [] [] false false 0 [] [] false false 0 then R Exit.ret [some (V.ptr 0 0),some (V.ptr 1 0),some (V.bool false),
 some (V.slice 2 0 on false 0 0),some (V.ptr 3 0),some (V.bool was),some (V.int i64 r)] [ae pl rq h mx co se x1 n1 c1 x2 n2 c2 x3 n3 c3 ha mo x4 n4 c4 ag,
 Blk.row [V.str hb,V.lst xb nb cb,V.bool b1,V.bool b2,V.int u8 b3] 38 5,Blk.row oc 72 4,Blk.row [V.str wh,V.nilSlice,V.bool w1,V.bool w2,V.int u8
 w3] 43 5,Blk.dead,Blk.row [V.str [],V.nilSlice,V.bool false,V.bool false,V.int u8 0] 38 5,Blk.row [V.str [],V.nilSlice,V.bool false,V.bool false,V.int
 u8 0] 38 5]else R Exit.normal [some (V.ptr 0 0),some (V.ptr 1 0),some (V.bool false),some (V.slice 2 0 on false 0 0),some (V.ptr 3 0),some (V.bool was),
 some (V.int i64 (i64.wrap (r+1)))] [ae pl rq h mx co se x1 n1 c1 x2 n2 c2 x3 n3 c3 ha mo x4 n4 c4 ag,Blk.row [V.str hb,V.lst xb nb cb,V.bool b1,
 V.bool b2,V.int u8 b3] 38 5,Blk.row oc 72 4,Blk.row [V.str wh,V.nilSlice,V.bool w1,V.bool w2,V.int u8 w3] 43 5,Blk.dead,Blk.row [V.str [],
 V.nilSlice,V.bool false,V.bool false,V.int u8 0] 38 5,Blk.row [V.str [],V.nilSlice,V.bool false,V.bool false,V.int u8 0] 38 5]else False else
 False else bif !false==was then R Exit.ret [some (V.ptr 0 0),some (V.ptr 1 0),some (V.bool false),some (V.slice 2 0 on false 0 0),some (V.ptr 3 0),some (V.bool
 was),some (V.int i64 r)] [ae pl rq h mx co se x1 n1 c1 x2 n2 c2 x3 n3 c3 ha mo x4 n4 c4 ag,Blk.row [V.str hb,V.lst xb nb cb,V.bool b1,V.bool b2,V.int
 u8 b3] 38 5,Blk.row oc 72 4,Blk.row [V.str wh,V.nilSlice,V.bool w1,V.bool w2,V.int u8 w3] 43 5,Blk.dead,Blk.row [V.str [],V.nilSlice,V.bool
 false,V.bool false,V.int u8 0] 38 5,Blk.row [V.str [],V.nilSlice,V.bool false,V.bool false,V.int u8 0] 38 5]else bif !SB [] [] false false 0 wh []
 w1 w2 w3 then R Exit.ret [some (V.ptr 0 0),some (V.ptr 1 0),some (V.bool false),some (V.slice 2 0 on false 0 0),some (V.ptr 3 0),some (V.bool was),some (V.int
 i64 r)] [ae pl rq h mx co se x1 n1 c1 x2 n2 c2 x3 n3 c3 ha mo x4 n4 c4 ag,Blk.row [V.str hb,V.lst xb nb cb,V.bool b1,V.bool b2,V.int u8 b3] 38 5,
 Blk.row oc 72 4,Blk.row [V.str wh,V.nilSlice,V.bool w1,V.bool w2,V.int u8 w3] 43 5,Blk.dead,Blk.row [V.str [],V.nilSlice,V.bool false,V.bool false,
 V.int u8 0] 38 5,Blk.row [V.str [],V.nilSlice,V.bool false,V.bool false,V.int u8 0] 38 5]else bif !SB [] [] false false 0 wh [] w1 w2 w3 then R
 Exit.ret [some (V.ptr 0 0),some (V.ptr 1 0),some (V.bool false),some (V.slice 2 0 on false 0 0),some (V.ptr 3 0),some (V.bool was),some (V.int i64 r)]
 [ae pl rq h mx co se x1 n1 c1 x2 n2 c2 x3 n3 c3 ha mo x4 n4 c4 ag,Blk.row [V.str hb,V.lst xb nb cb,V.bool b1,V.bool b2,V.int u8 b3] 38 5,Blk.row oc 72
 4,Blk.row [V.str wh,V.nilSlice,V.bool w1,V.bool w2,V.int u8 w3] 43 5,Blk.dead,Blk.row [V.str [],V.nilSlice,V.bool false,V.bool false,V.int u8
 0] 38 5,Blk.row [V.str [],V.nilSlice,V.bool false,V.bool false,V.int u8 0] 38 5]else bif true&&VO nb cb then bif true&&VO nb cb then bif !SB [] [] false
 false 0 hb (VW nb cb) b1 b2 b3==SB wh [] w1 w2 w3 hb (VW nb cb) b1 b2 b3 then R Exit.ret [some (V.ptr 0 0),some (V.ptr 1 0),some (V.bool false),some (V.slice 2 0 on
 false 0 0),some (V.ptr 3 0),some (V.bool was),some (V.int i64 r)] [ae pl rq h mx co se x1 n1 c1 x2 n2 c2 x3 n3 c3 ha mo x4 n4 c4 ag,Blk.row [V.str hb,
 V.lst xb nb cb,V.bool b1,V.bool b2,V.int u8 b3] 38 5,Blk.row oc 72 4,Blk.row [V.str wh,V.nilSlice,V.bool w1,V.bool w2,V.int u8 w3] 43 5,
 Blk.dead,Blk.row [V.str [],V.nilSlice,V.bool false,V.bool false,V.int u8 0] 38 5,Blk.row [V.str [],V.nilSlice,V.bool false,V.bool false,V.int u8
 0] 38 5]else bif !SB [] [] false false 0 [] [] false false 0 then R Exit.ret [some (V.ptr 0 0),some (V.ptr 1 0),some (V.bool false),some (V.slice 2 0 on false 0 0),
 some (V.ptr 3 0),some (V.bool was),some (V.int i64 r)] [ae pl rq h mx co se x1 n1 c1 x2 n2 c2 x3 n3 c3 ha mo x4 n4 c4 ag,Blk.row [V.str hb,V.lst xb nb cb,
 V.bool b1,V.bool b2,V.int u8 b3] 38 5,Blk.row oc 72 4,Blk.row [V.str wh,V.nilSlice,V.bool w1,V.bool w2,V.int u8 w3] 43 5,Blk.dead,Blk.row [V.str
 [],V.nilSlice,V.bool false,V.bool false,V.int u8 0] 38 5,Blk.row [V.str [],V.nilSlice,V.bool false,V.bool false,V.int u8 0] 38 5]else R Exit.ret
 [some (V.ptr 0 0),some (V.ptr 1 0),some (V.bool false),some (V.slice 2 0 on false 0 0),some (V.ptr 3 0),some (V.bool was),some (V.int i64 r)] [ae pl rq
 h mx co se x1 n1 c1 x2 n2 c2 x3 n3 c3 ha mo x4 n4 c4 ag,Blk.row [V.str hb,V.lst xb nb cb,V.bool b1,V.bool b2,V.int u8 b3] 38 5,Blk.row oc 72 4,Blk.row
 [V.str wh,V.nilSlice,V.bool w1,V.bool w2,V.int u8 w3] 43 5,Blk.dead,Blk.row [V.str [],V.nilSlice,V.bool false,V.bool false,V.int u8 0] 38 5,
 Blk.row [V.str [],V.nilSlice,V.bool false,V.bool false,V.int u8 0] 38 5]else False else False else bif C1 then bif VO N (aa 5 cs)&&N.ble 4 then bif t1
 ==1 then bif (↑N:Int)==0 then bif w3 !=1 then bif !true==was then R Exit.ret [some (V.ptr 0 0),some (V.ptr 1 0),some (V.bool false),some (V.slice 2 0 on false
 0 0),some (V.ptr 3 0),some (V.bool was),some (V.int i64 r)] [ae pl rq h mx co se x1 n1 c1 x2 n2 c2 x3 n3 c3 ha mo x4 n4 c4 ag,Blk.row [V.str hb,V.lst xb
 nb cb,V.bool b1,V.bool b2,V.int u8 b3] 38 5,Blk.row oc 72 4,Blk.row [V.str wh,V.nilSlice,V.bool w1,V.bool w2,V.int u8 w3] 43 5,Blk.dead,Blk.row
 (aa 5 cs) 72 4,Blk.row [V.str h,V.slice 5 0 N false 0 0,V.bool ch,V.bool true,V.int u8 t1] 38 5,Blk.row [V.str h,V.slice 9 0 N false 0 0,V.bool ch,
 V.bool true,V.int u8 t1] 38 5,Blk.row [V.str h,V.slice 9 0 N false 0 0,V.bool ch,V.bool true,V.int u8 t1] 38 5,Blk.row (aa 5 cs) 72 4,Blk.row
 [V.str h,V.slice 9 0 N false 0 0,V.bool ch,V.bool true,V.int u8 t1] 38 5,Blk.row [V.str h,V.slice 5 0 N false 0 0,V.bool ch,V.bool true,V.int u8
 t1] 38 5]else bif VO N (aa 5 cs)&&true then bif !SB h (VW N (aa 5 cs)) ch true t1 wh [] w1 w2 w3 then R Exit.ret [some (V.ptr 0 0),some (V.ptr 1 0),some
 (V.bool false),some (V.slice 2 0 on false 0 0),some (V.ptr 3 0),some (V.bool was),some (V.int i64 r)] [ae pl rq h mx co se x1 n1 c1 x2 n2 c2 x3 n3 c3 ha
 mo x4 n4 c4 ag,Blk.row [V.str hb,V.lst xb nb cb,V.bool b1,V.bool b2,V.int u8 b3] 38 5,Blk.row oc 72 4,Blk.row [V.str wh,V.nilSlice,V.bool w1,V.bool w2,
 V.int u8 w3] 43 5,Blk.dead,Blk.row (aa 5 cs) 72 4,Blk.row [V.str h,V.slice 5 0 N false 0 0,V.bool ch,V.bool true,V.int u8 t1] 38 5,Blk.row
 [V.str h,V.slice 9 0 N false 0 0,V.bool ch,V.bool true,V.int u8 t1] 38 5,Blk.row [V.str h,V.slice 9 0 N false 0 0,V.bool ch,V.bool true,V.int u8
 t1] 38 5,Blk.row (aa 5 cs) 72 4,Blk.row [V.str h,V.slice 9 0 N false 0 0,V.bool ch,V.bool true,V.int u8 t1] 38 5,Blk.row [V.str h,V.slice 5 0 N false
 0 0,V.bool ch,V.bool true,V.int u8 t1] 38 5]else bif VO N (aa 5 cs)&&true then bif !SB h (VW N (aa 5 cs)) ch true t1 wh [] w1 w2 w3 then R Exit.ret
 [some (V.ptr 0 0),some (V.ptr 1 0),some (V.bool false),some (V.slice 2 0 on false 0 0),some (V.ptr 3 0),some (V.bool was),some (V.int i64 r)] [ae pl rq
 h mx co se x1 n1 c1 x2 n2 c2 x3 n3 c3 ha mo x4 n4 c4 ag,Blk.row [V.str hb,V.lst xb nb cb,V.bool b1,V.bool b2,V.int u8 b3] 38 5,Blk.row oc 72 4,Blk.row
 [V.str wh,V.nilSlice,V.bool w1,V.bool w2,V.int u8 w3] 43 5,Blk.dead,Blk.row (aa 5 cs) 72 4,Blk.row [V.str h,V.slice 5 0 N false 0 0,V.bool ch,V.bool
 true,V.int u8 t1] 38 5,Blk.row [V.str h,V.slice 9 0 N false 0 0,V.bool ch,V.bool true,V.int u8 t1] 38 5,Blk.row [V.str h,V.slice 9 0 N false 0 0,
 V.bool ch,V.bool true,V.int u8 t1] 38 5,Blk.row (aa 5 cs) 72 4,Blk.row [V.str h,V.slice 9 0 N false 0 0,V.bool ch,V.bool true,V.int u8 t1] 38
 5,Blk.row [V.str h,V.slice 5 0 N false 0 0,V.bool ch,V.bool true,V.int u8 t1] 38 5]else bif VO N (aa 5 cs)&&VO nb cb then bif true&&VO nb cb then
 bif !SB h (VW N (aa 5 cs)) ch true t1 hb (VW nb cb) b1 b2 b3==SB wh [] w1 w2 w3 hb (VW nb cb) b1 b2 b3 then R Exit.ret [some (V.ptr 0 0),some (V.ptr 1 0),some
 (V.bool false),some (V.slice 2 0 on false 0 0),some (V.ptr 3 0),some (V.bool was),some (V.int i64 r)] [ae pl rq h mx co se x1 n1 c1 x2 n2 c2 x3 n3 c3 ha
 mo x4 n4 c4 ag,Blk.row [V.str hb,V.lst xb nb cb,V.bool b1,V.bool b2,V.int u8 b3] 38 5,Blk.row oc 72 4,Blk.row [V.str wh,V.nilSlice,V.bool w1,V.bool w2,
 V.int u8 w3] 43 5,Blk.dead,Blk.row (aa 5 cs) 72 4,Blk.row [V.str h,V.slice 5 0 N false 0 0,V.bool ch,V.bool true,V.int u8 t1] 38 5,Blk.row
 [V.str h,V.slice 9 0 N false 0 0,V.bool ch,V.bool true,V.int u8 t1] 38 5,Blk.row [V.str h,V.slice 9 0 N false 0 0,V.bool ch,V.bool true,V.int u8
 t1] 38 5,Blk.row (aa 5 cs) 72 4,Blk.row [V.str h,V.slice 9 0 N false 0 0,V.bool ch,V.bool true,V.int u8 t1] 38 5,Blk.row [V.str h,V.slice 5 0 N false
 0 0,V.bool ch,V.bool true,V.int u8 t1] 38 5]else bif VO N (aa 5 cs)&&VO N (aa 5 cs)then bif !SB h (VW N (aa 5 cs)) ch true t1 h (VW N (aa 5
 cs)) ch true t1 then R Exit.ret [some (V.ptr 0 0),some (V.ptr 1 0),some (V.bool false),some (V.slice 2 0 on false 0 0),some (V.ptr 3 0),some (V.bool was),some
 (V.int i64 r)] [ae pl rq h mx co se x1 n1 c1 x2 n2 c2 x3 n3 c3 ha mo x4 n4 c4 ag,Blk.row [V.str hb,V.lst xb nb cb,V.bool b1,V.bool b2,V.int u8
 b3] 38 5,Blk.row oc 72 4,Blk.row [V.str wh,V.nilSlice,V.bool w1,V.bool w2,V.int u8 w3] 43 5,Blk.dead,Blk.row (aa 5 cs) 72 4,Blk.row [V.str h,V.slice
 5 0 N false 0 0,V.bool ch,V.bool true,V.int u8 t1] 38 5,Blk.row [V.str h,V.slice 9 0 N false 0 0,V.bool ch,V.bool true,V.int u8 t1] 38 5,Blk.row
 [V.str h,V.slice 9 0 N false 0 0,V.bool ch,V.bool true,V.int u8 t1] 38 5,Blk.row (aa 5 cs) 72 4,Blk.row [V.str h,V.slice 9 0 N false 0 0,V.bool ch,
 V.bool true,V.int u8 t1] 38 5,Blk.row [V.str h,V.slice 5 0 N false 0 0,V.bool ch,V.bool true,V.int u8 t1] 38 5]else R Exit.ret [some (V.ptr 0 0),
 some (V.ptr 1 0),some (V.bool false),some (V.slice 2 0 on false 0 0),some (V.ptr 3 0),some (V.bool was),some (V.int i64 r)] [ae pl rq h mx co se x1 n1 c1
 x2 n2 c2 x3 n3 c3 ha mo x4 n4 c4 ag,Blk.row [V.str hb,V.lst xb nb cb,V.bool b1,V.bool b2,V.int u8 b3] 38 5,Blk.row oc 72 4,Blk.row [V.str wh,V.nilSlice,
 V.bool w1,V.bool w2,V.int u8 w3] 43 5,Blk.dead,Blk.row (aa 5 cs) 72 4,Blk.row [V.str h,V.slice 5 0 N false 0 0,V.bool ch,V.bool true,V.int u8
 t1] 38 5,Blk.row [V.str h,V.slice 9 0 N false 0 0,V.bool ch,V.bool true,V.int u8 t1] 38 5,Blk.row [V.str h,V.slice 9 0 N false 0 0,V.bool ch,V.bool true,
 V.int u8 t1] 38 5,Blk.row (aa 5 cs) 72 4,Blk.row [V.str h,V.slice 9 0 N false 0 0,V.bool ch,V.bool true,V.int u8 t1] 38 5,Blk.row [V.str h,
 V.slice 5 0 N false 0 0,V.bool ch,V.bool true,V.int u8 t1] 38 5]else False else False else False else False else False else bif !true==was then R Exit.ret
 [some (V.ptr 0 0),some (V.ptr 1 0),some (V.bool false),some (V.slice 2 0 on false 0 0),some (V.ptr 3 0),some (V.bool was),some (V.int i64 r)] [ae pl rq
 h mx co se x1 n1 c1 x2 n2 c2 x3 n3 c3 ha mo x4 n4 c4 ag,Blk.row [V.str hb,V.lst xb nb cb,V.bool b1,V.bool b2,V.int u8 b3] 38 5,Blk.row oc 72 4,Blk.row
 [V.str wh,V.nilSlice,V.bool w1,V.bool w2,V.int u8 w3] 43 5,Blk.dead,Blk.row (aa 5 cs) 72 4,Blk.row [V.str h,V.slice 5 0 N false 0 0,V.bool ch,V.bool
 true,V.int u8 t1] 38 5,Blk.row [V.str h,V.slice 9 0 N false 0 0,V.bool ch,V.bool true,V.int u8 t1] 38 5,Blk.row [V.str h,V.slice 9 0 N false 0 0,
 V.bool ch,V.bool true,V.int u8 t1] 38 5,Blk.row (aa 5 cs) 72 4,Blk.row [V.str h,V.slice 9 0 N false 0 0,V.bool ch,V.bool true,V.int u8 t1] 38
 5,Blk.row [V.str h,V.slice 5 0 N false 0 0,V.bool ch,V.bool true,V.int u8 t1] 38 5]else bif VO N (aa 5 cs)&&true then bif !SB h (VW N (aa 5 cs))
 ch true t1 wh [] w1 w2 w3 then R Exit.ret [some (V.ptr 0 0),some (V.ptr 1 0),some (V.bool false),some (V.slice 2 0 on false 0 0),some (V.ptr 3 0),some (V.bool was),
 some (V.int i64 r)] [ae pl rq h mx co se x1 n1 c1 x2 n2 c2 x3 n3 c3 ha mo x4 n4 c4 ag,Blk.row [V.str hb,V.lst xb nb cb,V.bool b1,V.bool b2,V.int
 u8 b3] 38 5,Blk.row oc 72 4,Blk.row [V.str wh,V.nilSlice,V.bool w1,V.bool w2,V.int u8 w3] 43 5,Blk.dead,Blk.row (aa 5 cs) 72 4,Blk.row [V.str
 h,V.slice 5 0 N false 0 0,V.bool ch,V.bool true,V.int u8 t1] 38 5,Blk.row [V.str h,V.slice 9 0 N false 0 0,V.bool ch,V.bool true,V.int u8 t1] 38
 5,Blk.row [V.str h,V.slice 9 0 N false 0 0,V.bool ch,V.bool true,V.int u8 t1] 38 5,Blk.row (aa 5 cs) 72 4,Blk.row [V.str h,V.slice 9 0 N false 0 0,
 V.bool ch,V.bool true,V.int u8 t1] 38 5,Blk.row [V.str h,V.slice 5 0 N false 0 0,V.bool ch,V.bool true,V.int u8 t1] 38 5]else bif VO N (aa 5
 cs)&&true then bif !SB h (VW N (aa 5 cs)) ch true t1 wh [] w1 w2 w3 then R Exit.ret [some (V.ptr 0 0),some (V.ptr 1 0),some (V.bool false),some (V.slice 2 0 on
 false 0 0),some (V.ptr 3 0),some (V.bool was),some (V.int i64 r)] [ae pl rq h mx co se x1 n1 c1 x2 n2 c2 x3 n3 c3 ha mo x4 n4 c4 ag,Blk.row [V.str hb,
 V.lst xb nb cb,V.bool b1,V.bool b2,V.int u8 b3] 38 5,Blk.row oc 72 4,Blk.row [V.str wh,V.nilSlice,V.bool w1,V.bool w2,V.int u8 w3] 43 5,
 Blk.dead,Blk.row (aa 5 cs) 72 4,Blk.row [V.str h,V.slice 5 0 N false 0 0,V.bool ch,V.bool true,V.int u8 t1] 38 5,Blk.row [V.str h,V.slice 9 0 N false
 0 0,V.bool ch,V.bool true,V.int u8 t1] 38 5,Blk.row [V.str h,V.slice 9 0 N false 0 0,V.bool ch,V.bool true,V.int u8 t1] 38 5,Blk.row (aa 5
 cs) 72 4,Blk.row [V.str h,V.slice 9 0 N false 0 0,V.bool ch,V.bool true,V.int u8 t1] 38 5,Blk.row [V.str h,V.slice 5 0 N false 0 0,V.bool ch,V.bool true,
 V.int u8 t1] 38 5]else bif VO N (aa 5 cs)&&VO nb cb then bif true&&VO nb cb then bif !SB h (VW N (aa 5 cs)) ch true t1 hb (VW nb cb) b1 b2 b3==SB
 wh [] w1 w2 w3 hb (VW nb cb) b1 b2 b3 then R Exit.ret [some (V.ptr 0 0),some (V.ptr 1 0),some (V.bool false),some (V.slice 2 0 on false 0 0),some (V.ptr 3 0),some
 (V.bool was),some (V.int i64 r)] [ae pl rq h mx co se x1 n1 c1 x2 n2 c2 x3 n3 c3 ha mo x4 n4 c4 ag,Blk.row [V.str hb,V.lst xb nb cb,V.bool b1,V.bool b2,
 V.int u8 b3] 38 5,Blk.row oc 72 4,Blk.row [V.str wh,V.nilSlice,V.bool w1,V.bool w2,V.int u8 w3] 43 5,Blk.dead,Blk.row (aa 5 cs) 72 4,Blk.row
 [V.str h,V.slice 5 0 N false 0 0,V.bool ch,V.bool true,V.int u8 t1] 38 5,Blk.row [V.str h,V.slice 9 0 N false 0 0,V.bool ch,V.bool true,V.int u8
 t1] 38 5,Blk.row [V.str h,V.slice 9 0 N false 0 0,V.bool ch,V.bool true,V.int u8 t1] 38 5,Blk.row (aa 5 cs) 72 4,Blk.row [V.str h,V.slice 9 0 N false
 0 0,V.bool ch,V.bool true,V.int u8 t1] 38 5,Blk.row [V.str h,V.slice 5 0 N false 0 0,V.bool ch,V.bool true,V.int u8 t1] 38 5]else bif VO N
 (aa 5 cs)&&VO N (aa 5 cs)then bif !SB h (VW N (aa 5 cs)) ch true t1 h (VW N (aa 5 cs)) ch true t1 then R Exit.ret [some (V.ptr 0 0),some (V.ptr 1 0),
 some (V.bool false),some (V.slice 2 0 on false 0 0),some (V.ptr 3 0),some (V.bool was),some (V.int i64 r)] [ae pl rq h mx co se x1 n1 c1 x2 n2 c2 x3 n3 c3
 ha mo x4 n4 c4 ag,Blk.row [V.str hb,V.lst xb nb cb,V.bool b1,V.bool b2,V.int u8 b3] 38 5,Blk.row oc 72 4,Blk.row [V.str wh,V.nilSlice,V.bool w1,V.bool
 w2,V.int u8 w3] 43 5,Blk.dead,Blk.row (aa 5 cs) 72 4,Blk.row [V.str h,V.slice 5 0 N false 0 0,V.bool ch,V.bool true,V.int u8 t1] 38 5,Blk.row
 [V.str h,V.slice 9 0 N false 0 0,V.bool ch,V.bool true,V.int u8 t1] 38 5,Blk.row [V.str h,V.slice 9 0 N false 0 0,V.bool ch,V.bool true,V.int u8
 t1] 38 5,Blk.row (aa 5 cs) 72 4,Blk.row [V.str h,V.slice 9 0 N false 0 0,V.bool ch,V.bool true,V.int u8 t1] 38 5,Blk.row [V.str h,V.slice 5 0 N false
 0 0,V.bool ch,V.bool true,V.int u8 t1] 38 5]else Fits 0 [V.ptr 0 0,V.ptr 1 0,V.bool false,V.slice 2 0 on false 0 0,V.ptr 3 0,V.bool was,V.int
 i64 r,V.ptr 5 0,V.ptr 7 0,V.int i64 0] [ae pl rq h mx co se x1 n1 c1 x2 n2 c2 x3 n3 c3 ha mo x4 n4 c4 ag,Blk.row [V.str hb,V.lst xb nb cb,V.bool
 b1,V.bool b2,V.int u8 b3] 38 5,Blk.row oc 72 4,Blk.row [V.str wh,V.nilSlice,V.bool w1,V.bool w2,V.int u8 w3] 43 5,Blk.dead,Blk.row [V.str h,
 V.slice 6 0 N false 0 0,V.bool ch,V.bool true,V.int u8 t1] 38 5,Blk.row (aa 5 cs) 72 4,Blk.row [V.str h,V.slice 8 0 N false 0 0,V.bool ch,V.bool true,
 V.int u8 t1] 38 5,Blk.row (aa 5 cs) 72 4] [some (V.ptr 0 0),some (V.ptr 1 0),some (V.bool false),some (V.slice 2 0 on false 0 0),some (V.ptr 3 0),some
 (V.bool was),some (V.int i64 r),some (V.ptr 6 0),some (V.ptr 10 0),some (V.int i64 0)] [ae pl rq h mx co se x1 n1 c1 x2 n2 c2 x3 n3 c3 ha mo x4 n4
 c4 ag,Blk.row [V.str hb,V.lst xb nb cb,V.bool b1,V.bool b2,V.int u8 b3] 38 5,Blk.row oc 72 4,Blk.row [V.str wh,V.nilSlice,V.bool w1,V.bool w2,V.int
 u8 w3] 43 5,Blk.dead,Blk.row (aa 5 cs) 72 4,Blk.row [V.str h,V.slice 5 0 N false 0 0,V.bool ch,V.bool true,V.int u8 t1] 38 5,Blk.row [V.str h,
 V.slice 9 0 N false 0 0,V.bool ch,V.bool true,V.int u8 t1] 38 5,Blk.row [V.str h,V.slice 9 0 N false 0 0,V.bool ch,V.bool true,V.int u8 t1] 38 5,
 Blk.row (aa 5 cs) 72 4,Blk.row [V.str h,V.slice 9 0 N false 0 0,V.bool ch,V.bool true,V.int u8 t1] 38 5,Blk.row [V.str h,V.slice 5 0 N false 0 0,
 V.bool ch,V.bool true,V.int u8 t1] 38 5]∧bif d7 {y:={pl:=pl,rq:=rq,h:=h,mx:=mx,co:=co,se:=se,x1:=x1,n1:=n1,c1:=c1,x2:=x2,n2:=n2,c2:=c2,x3:=x3,n3:=n3,c3:=c3,ha:=ha,mo:=mo,x4:=x4,n4:=n4,c4:=c4,ag:=ag,hb:=hb,xb:=xb,nb:=nb,cb:=cb,b1:=b1,b2:=b2,b3:=b3,on:=on,oc:=oc,wh:=wh,wn:=none,wk:=[],w1:=w1,w2:=w2,w3:=w3,was:=was},r:=r,h:=h,a1:=ch,b1:=true,t1:=t1,N:=N,cs:=aa 5 cs,ds:=aa 5 cs,h':=h,a2:=ch,b2:=true,t2:=t1,i:=0}
 then ∀(j:Int),R Exit.normal [some (V.ptr 0 0),some (V.ptr 1 0),some (V.bool false),some (V.slice 2 0 on false 0 0),some (V.ptr 3 0),some (V.bool was),some
 (V.int i64 (i64.wrap (r+1)))] [ae pl rq h mx co se x1 n1 c1 x2 n2 c2 x3 n3 c3 ha mo x4 n4 c4 ag,Blk.row [V.str hb,V.lst xb nb cb,V.bool b1,
 V.bool b2,V.int u8 b3] 38 5,Blk.row oc 72 4,Blk.row [V.str wh,V.nilSlice,V.bool w1,V.bool w2,V.int u8 w3] 43 5,Blk.dead,Blk.dead,Blk.dead,
 Blk.dead,Blk.dead]else False else False else False else False else False else False else bif w3 !=1 then bif !true==was then R Exit.ret [some (V.ptr 0 0),some
 (V.ptr 1 0),some (V.bool false),some (V.slice 2 0 on false 0 0),some (V.ptr 3 0),some (V.bool was),some (V.int i64 r)] [ae pl rq h mx co se x1 n1 c1 x2
 n2 c2 x3 n3 c3 ha mo x4 n4 c4 ag,Blk.row [V.str hb,V.lst xb nb cb,V.bool b1,V.bool b2,V.int u8 b3] 38 5,Blk.row oc 72 4,Blk.row [V.str wh,V.nilSlice,
 V.bool w1,V.bool w2,V.int u8 w3] 43 5,Blk.dead,Blk.row (aa 5 cs) 72 4,Blk.row [V.str h,V.slice 5 0 N false 0 0,V.bool ch,V.bool true,V.int u8
 t1] 38 5,Blk.row [V.str h,V.slice 9 0 N false 0 0,V.bool ch,V.bool true,V.int u8 t1] 38 5,Blk.row [V.str h,V.slice 9 0 N false 0 0,V.bool ch,V.bool true,
 V.int u8 t1] 38 5,Blk.row (aa 5 cs) 72 4,Blk.row [V.str h,V.slice 9 0 N false 0 0,V.bool ch,V.bool true,V.int u8 t1] 38 5,Blk.row [V.str h,
 V.slice 5 0 N false 0 0,V.bool ch,V.bool true,V.int u8 t1] 38 5]else bif VO N (aa 5 cs)&&true then bif !SB h (VW N (aa 5 cs)) ch true t1 wh [] w1 w2
 w3 then R Exit.ret [some (V.ptr 0 0),some (V.ptr 1 0),some (V.bool false),some (V.slice 2 0 on false 0 0),some (V.ptr 3 0),some (V.bool was),some (V.int i64
 r)] [ae pl rq h mx co se x1 n1 c1 x2 n2 c2 x3 n3 c3 ha mo x4 n4 c4 ag,Blk.row [V.str hb,V.lst xb nb cb,V.bool b1,V.bool b2,V.int u8 b3] 38 5,Blk.row oc
 72 4,Blk.row [V.str wh,V.nilSlice,V.bool w1,V.bool w2,V.int u8 w3] 43 5,Blk.dead,Blk.row (aa 5 cs) 72 4,Blk.row [V.str h,V.slice 5 0 N false 0 0,
 V.bool ch,V.bool true,V.int u8 t1] 38 5,Blk.row [V.str h,V.slice 9 0 N false 0 0,V.bool ch,V.bool true,V.int u8 t1] 38 5,Blk.row [V.str h,V.slice
 9 0 N false 0 0,V.bool ch,V.bool true,V.int u8 t1] 38 5,Blk.row (aa 5 cs) 72 4,Blk.row [V.str h,V.slice 9 0 N false 0 0,V.bool ch,V.bool true,V.int
 u8 t1] 38 5,Blk.row [V.str h,V.slice 5 0 N false 0 0,V.bool ch,V.bool true,V.int u8 t1] 38 5]else bif VO N (aa 5 cs)&&true then bif !SB h (VW
 N (aa 5 cs)) ch true t1 wh [] w1 w2 w3 then R Exit.ret [some (V.ptr 0 0),some (V.ptr 1 0),some (V.bool false),some (V.slice 2 0 on false 0 0),some (V.ptr 3 0),
 some (V.bool was),some (V.int i64 r)] [ae pl rq h mx co se x1 n1 c1 x2 n2 c2 x3 n3 c3 ha mo x4 n4 c4 ag,Blk.row [V.str hb,V.lst xb nb cb,V.bool b1,V.bool
 b2,V.int u8 b3] 38 5,Blk.row oc 72 4,Blk.row [V.str wh,V.nilSlice,V.bool w1,V.bool w2,V.int u8 w3] 43 5,Blk.dead,Blk.row (aa 5 cs) 72 4,
 Blk.row [V.str h,V.slice 5 0 N false 0 0,V.bool ch,V.bool true,V.int u8 t1] 38 5,Blk.row [V.str h,V.slice 9 0 N false 0 0,V.bool ch,V.bool true,V.int
 u8 t1] 38 5,Blk.row [V.str h,V.slice 9 0 N false 0 0,V.bool ch,V.bool true,V.int u8 t1] 38 5,Blk.row (aa 5 cs) 72 4,Blk.row [V.str h,V.slice 9
 0 N false 0 0,V.bool ch,V.bool true,V.int u8 t1] 38 5,Blk.row [V.str h,V.slice 5 0 N false 0 0,V.bool ch,V.bool true,V.int u8 t1] 38 5]else bif
 VO N (aa 5 cs)&&VO nb cb then bif true&&VO nb cb then bif !SB h (VW N (aa 5 cs)) ch true t1 hb (VW nb cb) b1 b2 b3==SB wh [] w1 w2 w3 hb (VW nb cb) b1 b2 b3
 then R Exit.ret [some (V.ptr 0 0),some (V.ptr 1 0),some (V.bool false),some (V.slice 2 0 on false 0 0),some (V.ptr 3 0),some (V.bool was),some (V.int i64
 r)] [ae pl rq h mx co se x1 n1 c1 x2 n2 c2 x3 n3 c3 ha mo x4 n4 c4 ag,Blk.row [V.str hb,V.lst xb nb cb,V.bool b1,V.bool b2,V.int u8 b3] 38 5,Blk.row oc
 72 4,Blk.row [V.str wh,V.nilSlice,V.bool w1,V.bool w2,V.int u8 w3] 43 5,Blk.dead,Blk.row (aa 5 cs) 72 4,Blk.row [V.str h,V.slice 5 0 N false 0 0,
 V.bool ch,V.bool true,V.int u8 t1] 38 5,Blk.row [V.str h,V.slice 9 0 N false 0 0,V.bool ch,V.bool true,V.int u8 t1] 38 5,Blk.row [V.str h,V.slice
 9 0 N false 0 0,V.bool ch,V.bool true,V.int u8 t1] 38 5,Blk.row (aa 5 cs) 72 4,Blk.row [V.str h,V.slice 9 0 N false 0 0,V.bool ch,V.bool true,V.int
 u8 t1] 38 5,Blk.row [V.str h,V.slice 5 0 N false 0 0,V.bool ch,V.bool true,V.int u8 t1] 38 5]else bif VO N (aa 5 cs)&&VO N (aa 5 cs)then
 bif !SB h (VW N (aa 5 cs)) ch true t1 h (VW N (aa 5 cs)) ch true t1 then R Exit.ret [some (V.ptr 0 0),some (V.ptr 1 0),some (V.bool false),some (V.slice 2 0 on
 false 0 0),some (V.ptr 3 0),some (V.bool was),some (V.int i64 r)] [ae pl rq h mx co se x1 n1 c1 x2 n2 c2 x3 n3 c3 ha mo x4 n4 c4 ag,Blk.row [V.str hb,
 V.lst xb nb cb,V.bool b1,V.bool b2,V.int u8 b3] 38 5,Blk.row oc 72 4,Blk.row [V.str wh,V.nilSlice,V.bool w1,V.bool w2,V.int u8 w3] 43 5,
 Blk.dead,Blk.row (aa 5 cs) 72 4,Blk.row [V.str h,V.slice 5 0 N false 0 0,V.bool ch,V.bool true,V.int u8 t1] 38 5,Blk.row [V.str h,V.slice 9 0 N false
 0 0,V.bool ch,V.bool true,V.int u8 t1] 38 5,Blk.row [V.str h,V.slice 9 0 N false 0 0,V.bool ch,V.bool true,V.int u8 t1] 38 5,Blk.row (aa 5
 cs) 72 4,Blk.row [V.str h,V.slice 9 0 N false 0 0,V.bool ch,V.bool true,V.int u8 t1] 38 5,Blk.row [V.str h,V.slice 5 0 N false 0 0,V.bool ch,V.bool true,
 V.int u8 t1] 38 5]else Fits 0 [V.ptr 0 0,V.ptr 1 0,V.bool false,V.slice 2 0 on false 0 0,V.ptr 3 0,V.bool was,V.int i64 r,V.ptr 5 0,V.ptr 7 0,
 V.int i64 0] [ae pl rq h mx co se x1 n1 c1 x2 n2 c2 x3 n3 c3 ha mo x4 n4 c4 ag,Blk.row [V.str hb,V.lst xb nb cb,V.bool b1,V.bool b2,V.int u8 b3]
 38 5,Blk.row oc 72 4,Blk.row [V.str wh,V.nilSlice,V.bool w1,V.bool w2,V.int u8 w3] 43 5,Blk.dead,Blk.row [V.str h,V.slice 6 0 N false 0 0,V.bool ch,
 V.bool true,V.int u8 t1] 38 5,Blk.row (aa 5 cs) 72 4,Blk.row [V.str h,V.slice 8 0 N false 0 0,V.bool ch,V.bool true,V.int u8 t1] 38 5,Blk.row
 (aa 5 cs) 72 4] [some (V.ptr 0 0),some (V.ptr 1 0),some (V.bool false),some (V.slice 2 0 on false 0 0),some (V.ptr 3 0),some (V.bool was),some (V.int
 i64 r),some (V.ptr 6 0),some (V.ptr 10 0),some (V.int i64 0)] [ae pl rq h mx co se x1 n1 c1 x2 n2 c2 x3 n3 c3 ha mo x4 n4 c4 ag,Blk.row [V.str hb,
 V.lst xb nb cb,V.bool b1,V.bool b2,V.int u8 b3] 38 5,Blk.row oc 72 4,Blk.row [V.str wh,V.nilSlice,V.bool w1,V.bool w2,V.int u8 w3] 43 5,
 Blk.dead,Blk.row (aa 5 cs) 72 4,Blk.row [V.str h,V.slice 5 0 N false 0 0,V.bool ch,V.bool true,V.int u8 t1] 38 5,Blk.row [V.str h,V.slice 9 0 N false
 0 0,V.bool ch,V.bool true,V.int u8 t1] 38 5,Blk.row [V.str h,V.slice 9 0 N false 0 0,V.bool ch,V.bool true,V.int u8 t1] 38 5,Blk.row (aa 5
 cs) 72 4,Blk.row [V.str h,V.slice 9 0 N false 0 0,V.bool ch,V.bool true,V.int u8 t1] 38 5,Blk.row [V.str h,V.slice 5 0 N false 0 0,V.bool ch,V.bool true,
 V.int u8 t1] 38 5]∧bif d7 {y:={pl:=pl,rq:=rq,h:=h,mx:=mx,co:=co,se:=se,x1:=x1,n1:=n1,c1:=c1,x2:=x2,n2:=n2,c2:=c2,x3:=x3,n3:=n3,c3:=c3,ha:=ha,mo:=mo,x4:=x4,n4:=n4,c4:=c4,ag:=ag,hb:=hb,xb:=xb,nb:=nb,cb:=cb,b1:=b1,b2:=b2,b3:=b3,on:=on,oc:=oc,wh:=wh,wn:=none,wk:=[],w1:=w1,w2:=w2,w3:=w3,was:=was},r:=r,h:=h,a1:=ch,b1:=true,t1:=t1,N:=N,cs:=aa 5 cs,ds:=aa 5 cs,h':=h,a2:=ch,b2:=true,t2:=t1,i:=0}
 then ∀(j:Int),R Exit.normal [some (V.ptr 0 0),some (V.ptr 1 0),some (V.bool false),some (V.slice 2 0 on false 0 0),some (V.ptr 3 0),some (V.bool was),some
 (V.int i64 (i64.wrap (r+1)))] [ae pl rq h mx co se x1 n1 c1 x2 n2 c2 x3 n3 c3 ha mo x4 n4 c4 ag,Blk.row [V.str hb,V.lst xb nb cb,V.bool b1,
 V.bool b2,V.int u8 b3] 38 5,Blk.row oc 72 4,Blk.row [V.str wh,V.nilSlice,V.bool w1,V.bool w2,V.int u8 w3] 43 5,Blk.dead,Blk.dead,Blk.dead,
 Blk.dead,Blk.dead]else False else False else False else False else False else False else bif !true==was then R Exit.ret [some (V.ptr 0 0),some (V.ptr 1 0),some
 (V.bool false),some (V.slice 2 0 on false 0 0),some (V.ptr 3 0),some (V.bool was),some (V.int i64 r)] [ae pl rq h mx co se x1 n1 c1 x2 n2 c2 x3 n3 c3 ha
 mo x4 n4 c4 ag,Blk.row [V.str hb,V.lst xb nb cb,V.bool b1,V.bool b2,V.int u8 b3] 38 5,Blk.row oc 72 4,Blk.row [V.str wh,V.nilSlice,V.bool w1,V.bool w2,
 V.int u8 w3] 43 5,Blk.dead,Blk.row (aa 5 cs) 72 4,Blk.row [V.str h,V.slice 5 0 N false 0 0,V.bool ch,V.bool true,V.int u8 t1] 38 5,Blk.row
 [V.str h,V.slice 9 0 N false 0 0,V.bool ch,V.bool true,V.int u8 t1] 38 5,Blk.row [V.str h,V.slice 9 0 N false 0 0,V.bool ch,V.bool true,V.int u8
 t1] 38 5,Blk.row (aa 5 cs) 72 4,Blk.row [V.str h,V.slice 9 0 N false 0 0,V.bool ch,V.bool true,V.int u8 t1] 38 5,Blk.row [V.str h,V.slice 5 0 N false
 0 0,V.bool ch,V.bool true,V.int u8 t1] 38 5]else bif VO N (aa 5 cs)&&true then bif !SB h (VW N (aa 5 cs)) ch true t1 wh [] w1 w2 w3 then R Exit.ret
 [some (V.ptr 0 0),some (V.ptr 1 0),some (V.bool false),some (V.slice 2 0 on false 0 0),some (V.ptr 3 0),some (V.bool was),some (V.int i64 r)] [ae pl rq
 h mx co se x1 n1 c1 x2 n2 c2 x3 n3 c3 ha mo x4 n4 c4 ag,Blk.row [V.str hb,V.lst xb nb cb,V.bool b1,V.bool b2,V.int u8 b3] 38 5,Blk.row oc 72 4,Blk.row
 [V.str wh,V.nilSlice,V.bool w1,V.bool w2,V.int u8 w3] 43 5,Blk.dead,Blk.row (aa 5 cs) 72 4,Blk.row [V.str h,V.slice 5 0 N false 0 0,V.bool ch,V.bool
 true,V.int u8 t1] 38 5,Blk.row [V.str h,V.slice 9 0 N false 0 0,V.bool ch,V.bool true,V.int u8 t1] 38 5,Blk.row [V.str h,V.slice 9 0 N false 0 0,
 V.bool ch,V.bool true,V.int u8 t1] 38 5,Blk.row (aa 5 cs) 72 4,Blk.row [V.str h,V.slice 9 0 N false 0 0,V.bool ch,V.bool true,V.int u8 t1] 38
 5,Blk.row [V.str h,V.slice 5 0 N false 0 0,V.bool ch,V.bool true,V.int u8 t1] 38 5]else bif VO N (aa 5 cs)&&true then bif !SB h (VW N (aa 5 cs))
 ch true t1 wh [] w1 w2 w3 then R Exit.ret [some (V.ptr 0 0),some (V.ptr 1 0),some (V.bool false),some (V.slice 2 0 on false 0 0),some (V.ptr 3 0),some (V.bool was),
 some (V.int i64 r)] [ae pl rq h mx co se x1 n1 c1 x2 n2 c2 x3 n3 c3 ha mo x4 n4 c4 ag,Blk.row [V.str hb,V.lst xb nb cb,V.bool b1,V.bool b2,V.int
 u8 b3] 38 5,Blk.row oc 72 4,Blk.row [V.str wh,V.nilSlice,V.bool w1,V.bool w2,V.int u8 w3] 43 5,Blk.dead,Blk.row (aa 5 cs) 72 4,Blk.row [V.str
 h,V.slice 5 0 N false 0 0,V.bool ch,V.bool true,V.int u8 t1] 38 5,Blk.row [V.str h,V.slice 9 0 N false 0 0,V.bool ch,V.bool true,V.int u8 t1] 38
 5,Blk.row [V.str h,V.slice 9 0 N false 0 0,V.bool ch,V.bool true,V.int u8 t1] 38 5,Blk.row (aa 5 cs) 72 4,Blk.row [V.str h,V.slice 9 0 N false 0 0,
 V.bool ch,V.bool true,V.int u8 t1] 38 5,Blk.row [V.str h,V.slice 5 0 N false 0 0,V.bool ch,V.bool true,V.int u8 t1] 38 5]else bif VO N (aa 5
 cs)&&VO nb cb then bif true&&VO nb cb then bif !SB h (VW N (aa 5 cs)) ch true t1 hb (VW nb cb) b1 b2 b3==SB wh [] w1 w2 w3 hb (VW nb cb) b1 b2 b3 then R
 Exit.ret [some (V.ptr 0 0),some (V.ptr 1 0),some (V.bool false),some (V.slice 2 0 on false 0 0),some (V.ptr 3 0),some (V.bool was),some (V.int i64 r)]
 [ae pl rq h mx co se x1 n1 c1 x2 n2 c2 x3 n3 c3 ha mo x4 n4 c4 ag,Blk.row [V.str hb,V.lst xb nb cb,V.bool b1,V.bool b2,V.int u8 b3] 38 5,Blk.row oc 72
 4,Blk.row [V.str wh,V.nilSlice,V.bool w1,V.bool w2,V.int u8 w3] 43 5,Blk.dead,Blk.row (aa 5 cs) 72 4,Blk.row [V.str h,V.slice 5 0 N false 0 0,V.bool
 ch,V.bool true,V.int u8 t1] 38 5,Blk.row [V.str h,V.slice 9 0 N false 0 0,V.bool ch,V.bool true,V.int u8 t1] 38 5,Blk.row [V.str h,V.slice 9 0 N
 false 0 0,V.bool ch,V.bool true,V.int u8 t1] 38 5,Blk.row (aa 5 cs) 72 4,Blk.row [V.str h,V.slice 9 0 N false 0 0,V.bool ch,V.bool true,V.int
 u8 t1] 38 5,Blk.row [V.str h,V.slice 5 0 N false 0 0,V.bool ch,V.bool true,V.int u8 t1] 38 5]else bif VO N (aa 5 cs)&&VO N (aa 5 cs)then
 bif !SB h (VW N (aa 5 cs)) ch true t1 h (VW N (aa 5 cs)) ch true t1 then R Exit.ret [some (V.ptr 0 0),some (V.ptr 1 0),some (V.bool false),some (V.slice 2 0 on
 false 0 0),some (V.ptr 3 0),some (V.bool was),some (V.int i64 r)] [ae pl rq h mx co se x1 n1 c1 x2 n2 c2 x3 n3 c3 ha mo x4 n4 c4 ag,Blk.row [V.str hb,
 V.lst xb nb cb,V.bool b1,V.bool b2,V.int u8 b3] 38 5,Blk.row oc 72 4,Blk.row [V.str wh,V.nilSlice,V.bool w1,V.bool w2,V.int u8 w3] 43 5,
 Blk.dead,Blk.row (aa 5 cs) 72 4,Blk.row [V.str h,V.slice 5 0 N false 0 0,V.bool ch,V.bool true,V.int u8 t1] 38 5,Blk.row [V.str h,V.slice 9 0 N false
 0 0,V.bool ch,V.bool true,V.int u8 t1] 38 5,Blk.row [V.str h,V.slice 9 0 N false 0 0,V.bool ch,V.bool true,V.int u8 t1] 38 5,Blk.row (aa 5
 cs) 72 4,Blk.row [V.str h,V.slice 9 0 N false 0 0,V.bool ch,V.bool true,V.int u8 t1] 38 5,Blk.row [V.str h,V.slice 5 0 N false 0 0,V.bool ch,V.bool true,
 V.int u8 t1] 38 5]else R Exit.ret [some (V.ptr 0 0),some (V.ptr 1 0),some (V.bool false),some (V.slice 2 0 on false 0 0),some (V.ptr 3 0),some (V.bool was),
 some (V.int i64 r)] [ae pl rq h mx co se x1 n1 c1 x2 n2 c2 x3 n3 c3 ha mo x4 n4 c4 ag,Blk.row [V.str hb,V.lst xb nb cb,V.bool b1,V.bool b2,V.int
 u8 b3] 38 5,Blk.row oc 72 4,Blk.row [V.str wh,V.nilSlice,V.bool w1,V.bool w2,V.int u8 w3] 43 5,Blk.dead,Blk.row (aa 5 cs) 72 4,Blk.row [V.str
 h,V.slice 5 0 N false 0 0,V.bool ch,V.bool true,V.int u8 t1] 38 5,Blk.row [V.str h,V.slice 9 0 N false 0 0,V.bool ch,V.bool true,V.int u8 t1] 38
 5,Blk.row [V.str h,V.slice 9 0 N false 0 0,V.bool ch,V.bool true,V.int u8 t1] 38 5,Blk.row (aa 5 cs) 72 4,Blk.row [V.str h,V.slice 9 0 N false 0 0,
 V.bool ch,V.bool true,V.int u8 t1] 38 5,Blk.row [V.str h,V.slice 5 0 N false 0 0,V.bool ch,V.bool true,V.int u8 t1] 38 5]else False else False
 else False else False else False else bif w3 !=1 then bif !true==was then R Exit.ret [some (V.ptr 0 0),some (V.ptr 1 0),some (V.bool false),some (V.slice 2 0 on
 false 0 0),some (V.ptr 3 0),some (V.bool was),some (V.int i64 r)] [ae pl rq h mx co se x1 n1 c1 x2 n2 c2 x3 n3 c3 ha mo x4 n4 c4 ag,Blk.row [V.str hb,
 V.lst xb nb cb,V.bool b1,V.bool b2,V.int u8 b3] 38 5,Blk.row oc 72 4,Blk.row [V.str wh,V.nilSlice,V.bool w1,V.bool w2,V.int u8 w3] 43 5,
 Blk.dead,Blk.row (aa 5 cs) 72 4,Blk.row [V.str h,V.slice 5 0 N false 0 0,V.bool ch,V.bool true,V.int u8 t1] 38 5,Blk.row [V.str h,V.slice 9 0 N false
 0 0,V.bool ch,V.bool true,V.int u8 t1] 38 5,Blk.row [V.str h,V.slice 9 0 N false 0 0,V.bool ch,V.bool true,V.int u8 t1] 38 5,Blk.row (aa 5
 cs) 72 4,Blk.row [V.str h,V.slice 9 0 N false 0 0,V.bool ch,V.bool true,V.int u8 t1] 38 5,Blk.row [V.str h,V.slice 5 0 N false 0 0,V.bool ch,V.bool true,
 V.int u8 t1] 38 5]else bif VO N (aa 5 cs)&&true then bif !SB h (VW N (aa 5 cs)) ch true t1 wh [] w1 w2 w3 then R Exit.ret [some (V.ptr 0 0),some
 (V.ptr 1 0),some (V.bool false),some (V.slice 2 0 on false 0 0),some (V.ptr 3 0),some (V.bool was),some (V.int i64 r)] [ae pl rq h mx co se x1 n1 c1 x2
 n2 c2 x3 n3 c3 ha mo x4 n4 c4 ag,Blk.row [V.str hb,V.lst xb nb cb,V.bool b1,V.bool b2,V.int u8 b3] 38 5,Blk.row oc 72 4,Blk.row [V.str wh,V.nilSlice,
 V.bool w1,V.bool w2,V.int u8 w3] 43 5,Blk.dead,Blk.row (aa 5 cs) 72 4,Blk.row [V.str h,V.slice 5 0 N false 0 0,V.bool ch,V.bool true,V.int u8
 t1] 38 5,Blk.row [V.str h,V.slice 9 0 N false 0 0,V.bool ch,V.bool true,V.int u8 t1] 38 5,Blk.row [V.str h,V.slice 9 0 N false 0 0,V.bool ch,V.bool true,
 V.int u8 t1] 38 5,Blk.row (aa 5 cs) 72 4,Blk.row [V.str h,V.slice 9 0 N false 0 0,V.bool ch,V.bool true,V.int u8 t1] 38 5,Blk.row [V.str h,
 V.slice 5 0 N false 0 0,V.bool ch,V.bool true,V.int u8 t1] 38 5]else bif VO N (aa 5 cs)&&true then bif !SB h (VW N (aa 5 cs)) ch true t1 wh [] w1 w2
 w3 then R Exit.ret [some (V.ptr 0 0),some (V.ptr 1 0),some (V.bool false),some (V.slice 2 0 on false 0 0),some (V.ptr 3 0),some (V.bool was),some (V.int i64
 r)] [ae pl rq h mx co se x1 n1 c1 x2 n2 c2 x3 n3 c3 ha mo x4 n4 c4 ag,Blk.row [V.str hb,V.lst xb nb cb,V.bool b1,V.bool b2,V.int u8 b3] 38 5,Blk.row oc
 72 4,Blk.row [V.str wh,V.nilSlice,V.bool w1,V.bool w2,V.int u8 w3] 43 5,Blk.dead,Blk.row (aa 5 cs) 72 4,Blk.row [V.str h,V.slice 5 0 N false 0 0,
 V.bool ch,V.bool true,V.int u8 t1] 38 5,Blk.row [V.str h,V.slice 9 0 N false 0 0,V.bool ch,V.bool true,V.int u8 t1] 38 5,Blk.row [V.str h,V.slice
 9 0 N false 0 0,V.bool ch,V.bool true,V.int u8 t1] 38 5,Blk.row (aa 5 cs) 72 4,Blk.row [V.str h,V.slice 9 0 N false 0 0,V.bool ch,V.bool true,V.int
 u8 t1] 38 5,Blk.row [V.str h,V.slice 5 0 N false 0 0,V.bool ch,V.bool true,V.int u8 t1] 38 5]else bif VO N (aa 5 cs)&&VO nb cb then bif true
 &&VO nb cb then bif !SB h (VW N (aa 5 cs)) ch true t1 hb (VW nb cb) b1 b2 b3==SB wh [] w1 w2 w3 hb (VW nb cb) b1 b2 b3 then R Exit.ret [some (V.ptr 0 0),some
 (V.ptr 1 0),some (V.bool false),some (V.slice 2 0 on false 0 0),some (V.ptr 3 0),some (V.bool was),some (V.int i64 r)] [ae pl rq h mx co se x1 n1 c1 x2
 n2 c2 x3 n3 c3 ha mo x4 n4 c4 ag,Blk.row [V.str hb,V.lst xb nb cb,V.bool b1,V.bool b2,V.int u8 b3] 38 5,Blk.row oc 72 4,Blk.row [V.str wh,V.nilSlice,
 V.bool w1,V.bool w2,V.int u8 w3] 43 5,Blk.dead,Blk.row (aa 5 cs) 72 4,Blk.row [V.str h,V.slice 5 0 N false 0 0,V.bool ch,V.bool true,V.int u8
 t1] 38 5,Blk.row [V.str h,V.slice 9 0 N false 0 0,V.bool ch,V.bool true,V.int u8 t1] 38 5,Blk.row [V.str h,V.slice 9 0 N false 0 0,V.bool ch,V.bool true,
 V.int u8 t1] 38 5,Blk.row (aa 5 cs) 72 4,Blk.row [V.str h,V.slice 9 0 N false 0 0,V.bool ch,V.bool true,V.int u8 t1] 38 5,Blk.row [V.str h,
 V.slice 5 0 N false 0 0,V.bool ch,V.bool true,V.int u8 t1] 38 5]else bif VO N (aa 5 cs)&&VO N (aa 5 cs)then bif !SB h (VW N (aa 5 cs)) ch true
 t1 h (VW N (aa 5 cs)) ch true t1 then R Exit.ret [some (V.ptr 0 0),some (V.ptr 1 0),some (V.bool false),some (V.slice 2 0 on false 0 0),some (V.ptr 3 0),some
 (V.bool was),some (V.int i64 r)] [ae pl rq h mx co se x1 n1 c1 x2 n2 c2 x3 n3 c3 ha mo x4 n4 c4 ag,Blk.row [V.str hb,V.lst xb nb cb,V.bool b1,V.bool b2,
 V.int u8 b3] 38 5,Blk.row oc 72 4,Blk.row [V.str wh,V.nilSlice,V.bool w1,V.bool w2,V.int u8 w3] 43 5,Blk.dead,Blk.row (aa 5 cs) 72 4,Blk.row
 [V.str h,V.slice 5 0 N false 0 0,V.bool ch,V.bool true,V.int u8 t1] 38 5,Blk.row [V.str h,V.slice 9 0 N false 0 0,V.bool ch,V.bool true,V.int u8
 t1] 38 5,Blk.row [V.str h,V.slice 9 0 N false 0 0,V.bool ch,V.bool true,V.int u8 t1] 38 5,Blk.row (aa 5 cs) 72 4,Blk.row [V.str h,V.slice 9 0 N false
 0 0,V.bool ch,V.bool true,V.int u8 t1] 38 5,Blk.row [V.str h,V.slice 5 0 N false 0 0,V.bool ch,V.bool true,V.int u8 t1] 38 5]else Fits 0 [V.ptr 0
 0,V.ptr 1 0,V.bool false,V.slice 2 0 on false 0 0,V.ptr 3 0,V.bool was,V.int i64 r,V.ptr 5 0,V.ptr 7 0,V.int i64 0] [ae pl rq h mx co se x1
 n1 c1 x2 n2 c2 x3 n3 c3 ha mo x4 n4 c4 ag,Blk.row [V.str hb,V.lst xb nb cb,V.bool b1,V.bool b2,V.int u8 b3] 38 5,Blk.row oc 72 4,Blk.row [V.str wh,
 V.nilSlice,V.bool w1,V.bool w2,V.int u8 w3] 43 5,Blk.dead,Blk.row [V.str h,V.slice 6 0 N false 0 0,V.bool ch,V.bool true,V.int u8 t1] 38 5,
 Blk.row (aa 5 cs) 72 4,Blk.row [V.str h,V.slice 8 0 N false 0 0,V.bool ch,V.bool true,V.int u8 t1] 38 5,Blk.row (aa 5 cs) 72 4] [some (V.ptr 0 0),
 some (V.ptr 1 0),some (V.bool false),some (V.slice 2 0 on false 0 0),some (V.ptr 3 0),some (V.bool was),some (V.int i64 r),some (V.ptr 6 0),some (V.ptr 10
 0),some (V.int i64 0)] [ae pl rq h mx co se x1 n1 c1 x2 n2 c2 x3 n3 c3 ha mo x4 n4 c4 ag,Blk.row [V.str hb,V.lst xb nb cb,V.bool b1,V.bool b2,V.int
 u8 b3] 38 5,Blk.row oc 72 4,Blk.row [V.str wh,V.nilSlice,V.bool w1,V.bool w2,V.int u8 w3] 43 5,Blk.dead,Blk.row (aa 5 cs) 72 4,Blk.row [V.str
 h,V.slice 5 0 N false 0 0,V.bool ch,V.bool true,V.int u8 t1] 38 5,Blk.row [V.str h,V.slice 9 0 N false 0 0,V.bool ch,V.bool true,V.int u8 t1] 38
 5,Blk.row [V.str h,V.slice 9 0 N false 0 0,V.bool ch,V.bool true,V.int u8 t1] 38 5,Blk.row (aa 5 cs) 72 4,Blk.row [V.str h,V.slice 9 0 N false 0 0,
 V.bool ch,V.bool true,V.int u8 t1] 38 5,Blk.row [V.str h,V.slice 5 0 N false 0 0,V.bool ch,V.bool true,V.int u8 t1] 38 5]∧bif d7 {y:={pl:=pl,rq:=rq,h:=h,mx:=mx,co:=co,se:=se,x1:=x1,n1:=n1,c1:=c1,x2:=x2,n2:=n2,c2:=c2,x3:=x3,n3:=n3,c3:=c3,ha:=ha,mo:=mo,x4:=x4,n4:=n4,c4:=c4,ag:=ag,hb:=hb,xb:=xb,nb:=nb,cb:=cb,b1:=b1,b2:=b2,b3:=b3,on:=on,oc:=oc,wh:=wh,wn:=none,wk:=[],w1:=w1,w2:=w2,w3:=w3,was:=was},r:=r,h:=h,a1:=ch,b1:=true,t1:=t1,N:=N,cs:=aa 5 cs,ds:=aa 5 cs,h':=h,a2:=ch,b2:=true,t2:=t1,i:=0}
 then ∀(j:Int),R Exit.normal [some (V.ptr 0 0),some (V.ptr 1 0),some (V.bool false),some (V.slice 2 0 on false 0 0),some (V.ptr 3 0),some (V.bool was),some
 (V.int i64 (i64.wrap (r+1)))] [ae pl rq h mx co se x1 n1 c1 x2 n2 c2 x3 n3 c3 ha mo x4 n4 c4 ag,Blk.row [V.str hb,V.lst xb nb cb,V.bool b1,
 V.bool b2,V.int u8 b3] 38 5,Blk.row oc 72 4,Blk.row [V.str wh,V.nilSlice,V.bool w1,V.bool w2,V.int u8 w3] 43 5,Blk.dead,Blk.dead,Blk.dead,
 Blk.dead,Blk.dead]else False else False else False else False else False else False else bif !true==was then R Exit.ret [some (V.ptr 0 0),some (V.ptr 1 0),some
 (V.bool false),some (V.slice 2 0 on false 0 0),some (V.ptr 3 0),some (V.bool was),some (V.int i64 r)] [ae pl rq h mx co se x1 n1 c1 x2 n2 c2 x3 n3 c3 ha
 mo x4 n4 c4 ag,Blk.row [V.str hb,V.lst xb nb cb,V.bool b1,V.bool b2,V.int u8 b3] 38 5,Blk.row oc 72 4,Blk.row [V.str wh,V.nilSlice,V.bool w1,V.bool w2,
 V.int u8 w3] 43 5,Blk.dead,Blk.row (aa 5 cs) 72 4,Blk.row [V.str h,V.slice 5 0 N false 0 0,V.bool ch,V.bool true,V.int u8 t1] 38 5,Blk.row
 [V.str h,V.slice 9 0 N false 0 0,V.bool ch,V.bool true,V.int u8 t1] 38 5,Blk.row [V.str h,V.slice 9 0 N false 0 0,V.bool ch,V.bool true,V.int u8
 t1] 38 5,Blk.row (aa 5 cs) 72 4,Blk.row [V.str h,V.slice 9 0 N false 0 0,V.bool ch,V.bool true,V.int u8 t1] 38 5,Blk.row [V.str h,V.slice 5 0 N false
 0 0,V.bool ch,V.bool true,V.int u8 t1] 38 5]else bif VO N (aa 5 cs)&&true then bif !SB h (VW N (aa 5 cs)) ch true t1 wh [] w1 w2 w3 then R Exit.ret
 [some (V.ptr 0 0),some (V.ptr 1 0),some (V.bool false),some (V.slice 2 0 on false 0 0),some (V.ptr 3 0),some (V.bool was),some (V.int i64 r)] [ae pl rq
 h mx co se x1 n1 c1 x2 n2 c2 x3 n3 c3 ha mo x4 n4 c4 ag,Blk.row [V.str hb,V.lst xb nb cb,V.bool b1,V.bool b2,V.int u8 b3] 38 5,Blk.row oc 72 4,Blk.row
 [V.str wh,V.nilSlice,V.bool w1,V.bool w2,V.int u8 w3] 43 5,Blk.dead,Blk.row (aa 5 cs) 72 4,Blk.row [V.str h,V.slice 5 0 N false 0 0,V.bool ch,V.bool
 true,V.int u8 t1] 38 5,Blk.row [V.str h,V.slice 9 0 N false 0 0,V.bool ch,V.bool true,V.int u8 t1] 38 5,Blk.row [V.str h,V.slice 9 0 N false 0 0,
 V.bool ch,V.bool true,V.int u8 t1] 38 5,Blk.row (aa 5 cs) 72 4,Blk.row [V.str h,V.slice 9 0 N false 0 0,V.bool ch,V.bool true,V.int u8 t1] 38
 5,Blk.row [V.str h,V.slice 5 0 N false 0 0,V.bool ch,V.bool true,V.int u8 t1] 38 5]else bif VO N (aa 5 cs)&&true then bif !SB h (VW N (aa 5 cs))
 ch true t1 wh [] w1 w2 w3 then R Exit.ret [some (V.ptr 0 0),some (V.ptr 1 0),some (V.bool false),some (V.slice 2 0 on false 0 0),some (V.ptr 3 0),some (V.bool was),
 some (V.int i64 r)] [ae pl rq h mx co se x1 n1 c1 x2 n2 c2 x3 n3 c3 ha mo x4 n4 c4 ag,Blk.row [V.str hb,V.lst xb nb cb,V.bool b1,V.bool b2,V.int
 u8 b3] 38 5,Blk.row oc 72 4,Blk.row [V.str wh,V.nilSlice,V.bool w1,V.bool w2,V.int u8 w3] 43 5,Blk.dead,Blk.row (aa 5 cs) 72 4,Blk.row [V.str
 h,V.slice 5 0 N false 0 0,V.bool ch,V.bool true,V.int u8 t1] 38 5,Blk.row [V.str h,V.slice 9 0 N false 0 0,V.bool ch,V.bool true,V.int u8 t1] 38
 5,Blk.row [V.str h,V.slice 9 0 N false 0 0,V.bool ch,V.bool true,V.int u8 t1] 38 5,Blk.row (aa 5 cs) 72 4,Blk.row [V.str h,V.slice 9 0 N false 0 0,
 V.bool ch,V.bool true,V.int u8 t1] 38 5,Blk.row [V.str h,V.slice 5 0 N false 0 0,V.bool ch,V.bool true,V.int u8 t1] 38 5]else bif VO N (aa 5
 cs)&&VO nb cb then bif true&&VO nb cb then bif !SB h (VW N (aa 5 cs)) ch true t1 hb (VW nb cb) b1 b2 b3==SB wh [] w1 w2 w3 hb (VW nb cb) b1 b2 b3 then R
 Exit.ret [some (V.ptr 0 0),some (V.ptr 1 0),some (V.bool false),some (V.slice 2 0 on false 0 0),some (V.ptr 3 0),some (V.bool was),some (V.int i64 r)]
 [ae pl rq h mx co se x1 n1 c1 x2 n2 c2 x3 n3 c3 ha mo x4 n4 c4 ag,Blk.row [V.str hb,V.lst xb nb cb,V.bool b1,V.bool b2,V.int u8 b3] 38 5,Blk.row oc 72
 4,Blk.row [V.str wh,V.nilSlice,V.bool w1,V.bool w2,V.int u8 w3] 43 5,Blk.dead,Blk.row (aa 5 cs) 72 4,Blk.row [V.str h,V.slice 5 0 N false 0 0,V.bool
 ch,V.bool true,V.int u8 t1] 38 5,Blk.row [V.str h,V.slice 9 0 N false 0 0,V.bool ch,V.bool true,V.int u8 t1] 38 5,Blk.row [V.str h,V.slice 9 0 N
 false 0 0,V.bool ch,V.bool true,V.int u8 t1] 38 5,Blk.row (aa 5 cs) 72 4,Blk.row [V.str h,V.slice 9 0 N false 0 0,V.bool ch,V.bool true,V.int
 u8 t1] 38 5,Blk.row [V.str h,V.slice 5 0 N false 0 0,V.bool ch,V.bool true,V.int u8 t1] 38 5]else bif VO N (aa 5 cs)&&VO N (aa 5 cs)then
 bif !SB h (VW N (aa 5 cs)) ch true t1 h (VW N (aa 5 cs)) ch true t1 then R Exit.ret [some (V.ptr 0 0),some (V.ptr 1 0),some (V.bool false),some (V.slice 2 0 on
 false 0 0),some (V.ptr 3 0),some (V.bool was),some (V.int i64 r)] [ae pl rq h mx co se x1 n1 c1 x2 n2 c2 x3 n3 c3 ha mo x4 n4 c4 ag,Blk.row [V.str hb,
 V.lst xb nb cb,V.bool b1,V.bool b2,V.int u8 b3] 38 5,Blk.row oc 72 4,Blk.row [V.str wh,V.nilSlice,V.bool w1,V.bool w2,V.int u8 w3] 43 5,
 Blk.dead,Blk.row (aa 5 cs) 72 4,Blk.row [V.str h,V.slice 5 0 N false 0 0,V.bool ch,V.bool true,V.int u8 t1] 38 5,Blk.row [V.str h,V.slice 9 0 N false
 0 0,V.bool ch,V.bool true,V.int u8 t1] 38 5,Blk.row [V.str h,V.slice 9 0 N false 0 0,V.bool ch,V.bool true,V.int u8 t1] 38 5,Blk.row (aa 5
 cs) 72 4,Blk.row [V.str h,V.slice 9 0 N false 0 0,V.bool ch,V.bool true,V.int u8 t1] 38 5,Blk.row [V.str h,V.slice 5 0 N false 0 0,V.bool ch,V.bool true,
 V.int u8 t1] 38 5]else R Exit.ret [some (V.ptr 0 0),some (V.ptr 1 0),some (V.bool false),some (V.slice 2 0 on false 0 0),some (V.ptr 3 0),some (V.bool was),
 some (V.int i64 r)] [ae pl rq h mx co se x1 n1 c1 x2 n2 c2 x3 n3 c3 ha mo x4 n4 c4 ag,Blk.row [V.str hb,V.lst xb nb cb,V.bool b1,V.bool b2,V.int
 u8 b3] 38 5,Blk.row oc 72 4,Blk.row [V.str wh,V.nilSlice,V.bool w1,V.bool w2,V.int u8 w3] 43 5,Blk.dead,Blk.row (aa 5 cs) 72 4,Blk.row [V.str
 h,V.slice 5 0 N false 0 0,V.bool ch,V.bool true,V.int u8 t1] 38 5,Blk.row [V.str h,V.slice 9 0 N false 0 0,V.bool ch,V.bool true,V.int u8 t1] 38
 5,Blk.row [V.str h,V.slice 9 0 N false 0 0,V.bool ch,V.bool true,V.int u8 t1] 38 5,Blk.row (aa 5 cs) 72 4,Blk.row [V.str h,V.slice 9 0 N false 0 0,
 V.bool ch,V.bool true,V.int u8 t1] 38 5,Blk.row [V.str h,V.slice 5 0 N false 0 0,V.bool ch,V.bool true,V.int u8 t1] 38 5]else False else False
 else False else False else False else False else bif C2 then bif t2==1 then bif w3 !=1 then bif !true==was then R Exit.ret [some (V.ptr 0 0),some (V.ptr 1 0),some
 (V.bool false),some (V.slice 2 0 on false 0 0),some (V.ptr 3 0),some (V.bool was),some (V.int i64 r)] [ae pl rq h mx co se x1 n1 c1 x2 n2 c2 x3 n3 c3 ha
 mo x4 n4 c4 ag,Blk.row [V.str hb,V.lst xb nb cb,V.bool b1,V.bool b2,V.int u8 b3] 38 5,Blk.row oc 72 4,Blk.row [V.str wh,V.nilSlice,V.bool w1,V.bool w2,
 V.int u8 w3] 43 5,Blk.dead,Blk.row [V.str h,V.nilSlice,V.bool cq,V.bool cq,V.int u8 t2] 38 5,Blk.row [V.str h,V.nilSlice,V.bool cq,V.bool cq,
 V.int u8 t2] 38 5]else bif !SB h [] cq cq t2 wh [] w1 w2 w3 then R Exit.ret [some (V.ptr 0 0),some (V.ptr 1 0),some (V.bool false),some (V.slice 2 0 on false
 0 0),some (V.ptr 3 0),some (V.bool was),some (V.int i64 r)] [ae pl rq h mx co se x1 n1 c1 x2 n2 c2 x3 n3 c3 ha mo x4 n4 c4 ag,Blk.row [V.str hb,V.lst xb
 nb cb,V.bool b1,V.bool b2,V.int u8 b3] 38 5,Blk.row oc 72 4,Blk.row [V.str wh,V.nilSlice,V.bool w1,V.bool w2,V.int u8 w3] 43 5,Blk.dead,Blk.row
 [V.str h,V.nilSlice,V.bool cq,V.bool cq,V.int u8 t2] 38 5,Blk.row [V.str h,V.nilSlice,V.bool cq,V.bool cq,V.int u8 t2] 38 5]else bif !SB h [] cq
 cq t2 wh [] w1 w2 w3 then R Exit.ret [some (V.ptr 0 0),some (V.ptr 1 0),some (V.bool false),some (V.slice 2 0 on false 0 0),some (V.ptr 3 0),some (V.bool was),some
 (V.int i64 r)] [ae pl rq h mx co se x1 n1 c1 x2 n2 c2 x3 n3 c3 ha mo x4 n4 c4 ag,Blk.row [V.str hb,V.lst xb nb cb,V.bool b1,V.bool b2,V.int u8
 b3] 38 5,Blk.row oc 72 4,Blk.row [V.str wh,V.nilSlice,V.bool w1,V.bool w2,V.int u8 w3] 43 5,Blk.dead,Blk.row [V.str h,V.nilSlice,V.bool cq,V.bool cq,
 V.int u8 t2] 38 5,Blk.row [V.str h,V.nilSlice,V.bool cq,V.bool cq,V.int u8 t2] 38 5]else bif true&&VO nb cb then bif true&&VO nb cb then bif !SB
 h [] cq cq t2 hb (VW nb cb) b1 b2 b3==SB wh [] w1 w2 w3 hb (VW nb cb) b1 b2 b3 then R Exit.ret [some (V.ptr 0 0),some (V.ptr 1 0),some (V.bool false),some (V.slice 2
 0 on false 0 0),some (V.ptr 3 0),some (V.bool was),some (V.int i64 r)] [ae pl rq h mx co se x1 n1 c1 x2 n2 c2 x3 n3 c3 ha mo x4 n4 c4 ag,Blk.row [V.str
 hb,V.lst xb nb cb,V.bool b1,V.bool b2,V.int u8 b3] 38 5,Blk.row oc 72 4,Blk.row [V.str wh,V.nilSlice,V.bool w1,V.bool w2,V.int u8 w3] 43 5,
 Blk.dead,Blk.row [V.str h,V.nilSlice,V.bool cq,V.bool cq,V.int u8 t2] 38 5,Blk.row [V.str h,V.nilSlice,V.bool cq,V.bool cq,V.int u8 t2] 38 5]
 else bif !SB h [] cq cq t2 h [] cq cq t2 then R Exit.ret [some (V.ptr 0 0),some (V.ptr 1 0),some (V.bool false),some (V.slice 2 0 on false 0 0),some (V.ptr 3 0),some
 (V.bool was),some (V.int i64 r)] [ae pl rq h mx co se x1 n1 c1 x2 n2 c2 x3 n3 c3 ha mo x4 n4 c4 ag,Blk.row [V.str hb,V.lst xb nb cb,V.bool b1,V.bool b2,
 V.int u8 b3] 38 5,Blk.row oc 72 4,Blk.row [V.str wh,V.nilSlice,V.bool w1,V.bool w2,V.int u8 w3] 43 5,Blk.dead,Blk.row [V.str h,V.nilSlice,V.bool
 cq,V.bool cq,V.int u8 t2] 38 5,Blk.row [V.str h,V.nilSlice,V.bool cq,V.bool cq,V.int u8 t2] 38 5]else R Exit.ret [some (V.ptr 0 0),some (V.ptr 1
 0),some (V.bool false),some (V.slice 2 0 on false 0 0),some (V.ptr 3 0),some (V.bool was),some (V.int i64 r)] [ae pl rq h mx co se x1 n1 c1 x2 n2 c2 x3
 n3 c3 ha mo x4 n4 c4 ag,Blk.row [V.str hb,V.lst xb nb cb,V.bool b1,V.bool b2,V.int u8 b3] 38 5,Blk.row oc 72 4,Blk.row [V.str wh,V.nilSlice,V.bool w1,
 V.bool w2,V.int u8 w3] 43 5,Blk.dead,Blk.row [V.str h,V.nilSlice,V.bool cq,V.bool cq,V.int u8 t2] 38 5,Blk.row [V.str h,V.nilSlice,V.bool cq,
 V.bool cq,V.int u8 t2] 38 5]else False else False else bif !true==was then R Exit.ret [some (V.ptr 0 0),some (V.ptr 1 0),some (V.bool false),some (V.slice
 2 0 on false 0 0),some (V.ptr 3 0),some (V.bool was),some (V.int i64 r)] [ae pl rq h mx co se x1 n1 c1 x2 n2 c2 x3 n3 c3 ha mo x4 n4 c4 ag,Blk.row [V.str
 hb,V.lst xb nb cb,V.bool b1,V.bool b2,V.int u8 b3] 38 5,Blk.row oc 72 4,Blk.row [V.str wh,V.nilSlice,V.bool w1,V.bool w2,V.int u8 w3] 43 5,
 Blk.dead,Blk.row [V.str h,V.nilSlice,V.bool cq,V.bool cq,V.int u8 t2] 38 5,Blk.row [V.str h,V.nilSlice,V.bool cq,V.bool cq,V.int u8 t2] 38 5]
 else bif !SB h [] cq cq t2 wh [] w1 w2 w3 then R Exit.ret [some (V.ptr 0 0),some (V.ptr 1 0),some (V.bool false),some (V.slice 2 0 on false 0 0),some (V.ptr 3 0),
 some (V.bool was),some (V.int i64 r)] [ae pl rq h mx co se x1 n1 c1 x2 n2 c2 x3 n3 c3 ha mo x4 n4 c4 ag,Blk.row [V.str hb,V.lst xb nb cb,V.bool b1,V.bool
 b2,V.int u8 b3] 38 5,Blk.row oc 72 4,Blk.row [V.str wh,V.nilSlice,V.bool w1,V.bool w2,V.int u8 w3] 43 5,Blk.dead,Blk.row [V.str h,V.nilSlice,
 V.bool cq,V.bool cq,V.int u8 t2] 38 5,Blk.row [V.str h,V.nilSlice,V.bool cq,V.bool cq,V.int u8 t2] 38 5]else bif !SB h [] cq cq t2 wh [] w1 w2 w3
 then R Exit.ret [some (V.ptr 0 0),some (V.ptr 1 0),some (V.bool false),some (V.slice 2 0 on false 0 0),some (V.ptr 3 0),some (V.bool was),some (V.int i64
 r)] [ae pl rq h mx co se x1 n1 c1 x2 n2 c2 x3 n3 c3 ha mo x4 n4 c4 ag,Blk.row [V.str hb,V.lst xb nb cb,V.bool b1,V.bool b2,V.int u8 b3] 38 5,Blk.row oc
 72 4,Blk.row [V.str wh,V.nilSlice,V.bool w1,V.bool w2,V.int u8 w3] 43 5,Blk.dead,Blk.row [V.str h,V.nilSlice,V.bool cq,V.bool cq,V.int u8 t2]
 38 5,Blk.row [V.str h,V.nilSlice,V.bool cq,V.bool cq,V.int u8 t2] 38 5]else bif true&&VO nb cb then bif true&&VO nb cb then bif !SB h [] cq cq t2 hb (VW
 nb cb) b1 b2 b3==SB wh [] w1 w2 w3 hb (VW nb cb) b1 b2 b3 then R Exit.ret [some (V.ptr 0 0),some (V.ptr 1 0),some (V.bool false),some (V.slice 2 0 on false 0 0),
 some (V.ptr 3 0),some (V.bool was),some (V.int i64 r)] [ae pl rq h mx co se x1 n1 c1 x2 n2 c2 x3 n3 c3 ha mo x4 n4 c4 ag,Blk.row [V.str hb,V.lst xb nb cb,
 V.bool b1,V.bool b2,V.int u8 b3] 38 5,Blk.row oc 72 4,Blk.row [V.str wh,V.nilSlice,V.bool w1,V.bool w2,V.int u8 w3] 43 5,Blk.dead,Blk.row [V.str
 h,V.nilSlice,V.bool cq,V.bool cq,V.int u8 t2] 38 5,Blk.row [V.str h,V.nilSlice,V.bool cq,V.bool cq,V.int u8 t2] 38 5]else bif !SB h [] cq cq t2
 h [] cq cq t2 then R Exit.ret [some (V.ptr 0 0),some (V.ptr 1 0),some (V.bool false),some (V.slice 2 0 on false 0 0),some (V.ptr 3 0),some (V.bool was),some (V.int
 i64 r)] [ae pl rq h mx co se x1 n1 c1 x2 n2 c2 x3 n3 c3 ha mo x4 n4 c4 ag,Blk.row [V.str hb,V.lst xb nb cb,V.bool b1,V.bool b2,V.int u8 b3] 38 5,
 Blk.row oc 72 4,Blk.row [V.str wh,V.nilSlice,V.bool w1,V.bool w2,V.int u8 w3] 43 5,Blk.dead,Blk.row [V.str h,V.nilSlice,V.bool cq,V.bool cq,V.int
 u8 t2] 38 5,Blk.row [V.str h,V.nilSlice,V.bool cq,V.bool cq,V.int u8 t2] 38 5]else R Exit.normal [some (V.ptr 0 0),some (V.ptr 1 0),some (V.bool
 false),some (V.slice 2 0 on false 0 0),some (V.ptr 3 0),some (V.bool was),some (V.int i64 (i64.wrap (r+1)))] [ae pl rq h mx co se x1 n1 c1 x2 n2
 c2 x3 n3 c3 ha mo x4 n4 c4 ag,Blk.row [V.str hb,V.lst xb nb cb,V.bool b1,V.bool b2,V.int u8 b3] 38 5,Blk.row oc 72 4,Blk.row [V.str wh,V.nilSlice,V.bool
 w1,V.bool w2,V.int u8 w3] 43 5,Blk.dead,Blk.row [V.str h,V.nilSlice,V.bool cq,V.bool cq,V.int u8 t2] 38 5,Blk.row [V.str h,V.nilSlice,V.bool
 cq,V.bool cq,V.int u8 t2] 38 5]else False else False else bif w3 !=1 then bif !true==was then R Exit.ret [some (V.ptr 0 0),some (V.ptr 1 0),some (V.bool
 false),some (V.slice 2 0 on false 0 0),some (V.ptr 3 0),some (V.bool was),some (V.int i64 r)] [ae pl rq h mx co se x1 n1 c1 x2 n2 c2 x3 n3 c3 ha mo x4 n4
 c4 ag,Blk.row [V.str hb,V.lst xb nb cb,V.bool b1,V.bool b2,V.int u8 b3] 38 5,Blk.row oc 72 4,Blk.row [V.str wh,V.nilSlice,V.bool w1,V.bool w2,V.int
 u8 w3] 43 5,Blk.dead,Blk.row [V.str h,V.nilSlice,V.bool cq,V.bool cq,V.int u8 t2] 38 5,Blk.row [V.str h,V.nilSlice,V.bool cq,V.bool cq,V.int
 u8 t2] 38 5]else bif !SB h [] cq cq t2 wh [] w1 w2 w3 then R Exit.ret [some (V.ptr 0 0),some (V.ptr 1 0),some (V.bool false),some (V.slice 2 0 on false 0 0),
 some (V.ptr 3 0),some (V.bool was),some (V.int i64 r)] [ae pl rq h mx co se x1 n1 c1 x2 n2 c2 x3 n3 c3 ha mo x4 n4 c4 ag,Blk.row [V.str hb,V.lst xb nb cb,
 V.bool b1,V.bool b2,V.int u8 b3] 38 5,Blk.row oc 72 4,Blk.row [V.str wh,V.nilSlice,V.bool w1,V.bool w2,V.int u8 w3] 43 5,Blk.dead,Blk.row [V.str
 h,V.nilSlice,V.bool cq,V.bool cq,V.int u8 t2] 38 5,Blk.row [V.str h,V.nilSlice,V.bool cq,V.bool cq,V.int u8 t2] 38 5]else bif !SB h [] cq cq t2
 wh [] w1 w2 w3 then R Exit.ret [some (V.ptr 0 0),some (V.ptr 1 0),some (V.bool false),some (V.slice 2 0 on false 0 0),some (V.ptr 3 0),some (V.bool was),some (V.int
 i64 r)] [ae pl rq h mx co se x1 n1 c1 x2 n2 c2 x3 n3 c3 ha mo x4 n4 c4 ag,Blk.row [V.str hb,V.lst xb nb cb,V.bool b1,V.bool b2,V.int u8 b3] 38 5,
 Blk.row oc 72 4,Blk.row [V.str wh,V.nilSlice,V.bool w1,V.bool w2,V.int u8 w3] 43 5,Blk.dead,Blk.row [V.str h,V.nilSlice,V.bool cq,V.bool cq,V.int
 u8 t2] 38 5,Blk.row [V.str h,V.nilSlice,V.bool cq,V.bool cq,V.int u8 t2] 38 5]else bif true&&VO nb cb then bif true&&VO nb cb then bif !SB h []
 cq cq t2 hb (VW nb cb) b1 b2 b3==SB wh [] w1 w2 w3 hb (VW nb cb) b1 b2 b3 then R Exit.ret [some (V.ptr 0 0),some (V.ptr 1 0),some (V.bool false),some (V.slice 2 0 on
 false 0 0),some (V.ptr 3 0),some (V.bool was),some (V.int i64 r)] [ae pl rq h mx co se x1 n1 c1 x2 n2 c2 x3 n3 c3 ha mo x4 n4 c4 ag,Blk.row [V.str hb,
 V.lst xb nb cb,V.bool b1,V.bool b2,V.int u8 b3] 38 5,Blk.row oc 72 4,Blk.row [V.str wh,V.nilSlice,V.bool w1,V.bool w2,V.int u8 w3] 43 5,
 Blk.dead,Blk.row [V.str h,V.nilSlice,V.bool cq,V.bool cq,V.int u8 t2] 38 5,Blk.row [V.str h,V.nilSlice,V.bool cq,V.bool cq,V.int u8 t2] 38 5]
 else bif !SB h [] cq cq t2 h [] cq cq t2 then R Exit.ret [some (V.ptr 0 0),some (V.ptr 1 0),some (V.bool false),some (V.slice 2 0 on false 0 0),some (V.ptr 3 0),some
 (V.bool was),some (V.int i64 r)] [ae pl rq h mx co se x1 n1 c1 x2 n2 c2 x3 n3 c3 ha mo x4 n4 c4 ag,Blk.row [V.str hb,V.lst xb nb cb,V.bool b1,V.bool b2,
 V.int u8 b3] 38 5,Blk.row oc 72 4,Blk.row [V.str wh,V.nilSlice,V.bool w1,V.bool w2,V.int u8 w3] 43 5,Blk.dead,Blk.row [V.str h,V.nilSlice,V.bool
 cq,V.bool cq,V.int u8 t2] 38 5,Blk.row [V.str h,V.nilSlice,V.bool cq,V.bool cq,V.int u8 t2] 38 5]else R Exit.normal [some (V.ptr 0 0),some (V.ptr
 1 0),some (V.bool false),some (V.slice 2 0 on false 0 0),some (V.ptr 3 0),some (V.bool was),some (V.int i64 (i64.wrap (r+1)))] [ae pl rq h mx
 co se x1 n1 c1 x2 n2 c2 x3 n3 c3 ha mo x4 n4 c4 ag,Blk.row [V.str hb,V.lst xb nb cb,V.bool b1,V.bool b2,V.int u8 b3] 38 5,Blk.row oc 72 4,Blk.row [V.str
 wh,V.nilSlice,V.bool w1,V.bool w2,V.int u8 w3] 43 5,Blk.dead,Blk.row [V.str h,V.nilSlice,V.bool cq,V.bool cq,V.int u8 t2] 38 5,Blk.row [V.str
 h,V.nilSlice,V.bool cq,V.bool cq,V.int u8 t2] 38 5]else False else False else bif !true==was then R Exit.ret [some (V.ptr 0 0),some (V.ptr 1 0),some
 (V.bool false),some (V.slice 2 0 on false 0 0),some (V.ptr 3 0),some (V.bool was),some (V.int i64 r)] [ae pl rq h mx co se x1 n1 c1 x2 n2 c2 x3 n3 c3 ha
 mo x4 n4 c4 ag,Blk.row [V.str hb,V.lst xb nb cb,V.bool b1,V.bool b2,V.int u8 b3] 38 5,Blk.row oc 72 4,Blk.row [V.str wh,V.nilSlice,V.bool w1,V.bool w2,
 V.int u8 w3] 43 5,Blk.dead,Blk.row [V.str h,V.nilSlice,V.bool cq,V.bool cq,V.int u8 t2] 38 5,Blk.row [V.str h,V.nilSlice,V.bool cq,V.bool cq,
 V.int u8 t2] 38 5]else bif !SB h [] cq cq t2 wh [] w1 w2 w3 then R Exit.ret [some (V.ptr 0 0),some (V.ptr 1 0),some (V.bool false),some (V.slice 2 0 on false
 0 0),some (V.ptr 3 0),some (V.bool was),some (V.int i64 r)] [ae pl rq h mx co se x1 n1 c1 x2 n2 c2 x3 n3 c3 ha mo x4 n4 c4 ag,Blk.row [V.str hb,V.lst xb
 nb cb,V.bool b1,V.bool b2,V.int u8 b3] 38 5,Blk.row oc 72 4,Blk.row [V.str wh,V.nilSlice,V.bool w1,V.bool w2,V.int u8 w3] 43 5,Blk.dead,Blk.row
 [V.str h,V.nilSlice,V.bool cq,V.bool cq,V.int u8 t2] 38 5,Blk.row [V.str h,V.nilSlice,V.bool cq,V.bool cq,V.int u8 t2] 38 5]else bif !SB h [] cq
 cq t2 wh [] w1 w2 w3 then R Exit.ret [some (V.ptr 0 0),some (V.ptr 1 0),some (V.bool false),some (V.slice 2 0 on false 0 0),some (V.ptr 3 0),some (V.bool was),some
 (V.int i64 r)] [ae pl rq h mx co se x1 n1 c1 x2 n2 c2 x3 n3 c3 ha mo x4 n4 c4 ag,Blk.row [V.str hb,V.lst xb nb cb,V.bool b1,V.bool b2,V.int u8
 b3] 38 5,Blk.row oc 72 4,Blk.row [V.str wh,V.nilSlice,V.bool w1,V.bool w2,V.int u8 w3] 43 5,Blk.dead,Blk.row [V.str h,V.nilSlice,V.bool cq,V.bool cq,
 V.int u8 t2] 38 5,Blk.row [V.str h,V.nilSlice,V.bool cq,V.bool cq,V.int u8 t2] 38 5]else bif true&&VO nb cb then bif true&&VO nb cb then bif !SB
 h [] cq cq t2 hb (VW nb cb) b1 b2 b3==SB wh [] w1 w2 w3 hb (VW nb cb) b1 b2 b3 then R Exit.ret [some (V.ptr 0 0),some (V.ptr 1 0),some (V.bool false),some (V.slice 2
 0 on false 0 0),some (V.ptr 3 0),some (V.bool was),some (V.int i64 r)] [ae pl rq h mx co se x1 n1 c1 x2 n2 c2 x3 n3 c3 ha mo x4 n4 c4 ag,Blk.row [V.str
 hb,V.lst xb nb cb,V.bool b1,V.bool b2,V.int u8 b3] 38 5,Blk.row oc 72 4,Blk.row [V.str wh,V.nilSlice,V.bool w1,V.bool w2,V.int u8 w3] 43 5,
 Blk.dead,Blk.row [V.str h,V.nilSlice,V.bool cq,V.bool cq,V.int u8 t2] 38 5,Blk.row [V.str h,V.nilSlice,V.bool cq,V.bool cq,V.int u8 t2] 38 5]
 else bif !SB h [] cq cq t2 h [] cq cq t2 then R Exit.ret [some (V.ptr 0 0),some (V.ptr 1 0),some (V.bool false),some (V.slice 2 0 on false 0 0),some (V.ptr 3 0),some
 (V.bool was),some (V.int i64 r)] [ae pl rq h mx co se x1 n1 c1 x2 n2 c2 x3 n3 c3 ha mo x4 n4 c4 ag,Blk.row [V.str hb,V.lst xb nb cb,V.bool b1,V.bool b2,
 V.int u8 b3] 38 5,Blk.row oc 72 4,Blk.row [V.str wh,V.nilSlice,V.bool w1,V.bool w2,V.int u8 w3] 43 5,Blk.dead,Blk.row [V.str h,V.nilSlice,V.bool
 cq,V.bool cq,V.int u8 t2] 38 5,Blk.row [V.str h,V.nilSlice,V.bool cq,V.bool cq,V.int u8 t2] 38 5]else R Exit.ret [some (V.ptr 0 0),some (V.ptr 1
 0),some (V.bool false),some (V.slice 2 0 on false 0 0),some (V.ptr 3 0),some (V.bool was),some (V.int i64 r)] [ae pl rq h mx co se x1 n1 c1 x2 n2 c2 x3
 n3 c3 ha mo x4 n4 c4 ag,Blk.row [V.str hb,V.lst xb nb cb,V.bool b1,V.bool b2,V.int u8 b3] 38 5,Blk.row oc 72 4,Blk.row [V.str wh,V.nilSlice,V.bool w1,
 V.bool w2,V.int u8 w3] 43 5,Blk.dead,Blk.row [V.str h,V.nilSlice,V.bool cq,V.bool cq,V.int u8 t2] 38 5,Blk.row [V.str h,V.nilSlice,V.bool cq,
 V.bool cq,V.int u8 t2] 38 5]else False else False else False else R (Exit.exit 0) [some (V.ptr 0 0),some (V.ptr 1 0),some (V.bool false),some (V.slice 2 0 on
 false 0 0),some (V.ptr 3 0),some (V.bool was),some (V.int i64 r)] [ae pl rq h mx co se x1 n1 c1 x2 n2 c2 x3 n3 c3 ha mo x4 n4 c4 ag,Blk.row [V.str hb,
 V.lst xb nb cb,V.bool b1,V.bool b2,V.int u8 b3] 38 5,Blk.row oc 72 4,Blk.row [V.str wh,V.nilSlice,V.bool w1,V.bool w2,V.int u8 w3] 43 5,
 Blk.dead])
theorem nt_real0(VO:Nat→List V→Bool)(VW:Nat→List V→List TL)(SB:List UInt8→List TL→Bool→Bool→Int→List UInt8→List TL→Bool→Bool→Int→Bool)(pl rq:Bool)(h:List UInt8)(mx:Bool)(co:Int)(se:Bool)(x1:Value)(n1:Nat)(c1:List V)(x2:Value)(n2:Nat)(c2:List V)(x3:Value)(n3:Nat)(c3:List V)(ha:Bool)(mo:Int)(x4:Value)(n4:Nat)(c4:List V)(ag:Int)(hb:List UInt8)(xb:Value)(nb:Nat)(cb:List V)(b1 b2:Bool)(b3:Int)(on:Nat)(oc:List V)(wh:List UInt8)(w1 w2:Bool)(w3:Int)(was:Bool)(r:Int)(R:Qz):aJ Qq (NTV gw VO VW SB) 9 10 lkSP 5 250 [2,3,4,5,6,7,8] [.ptr 0 0,.ptr 1 0,.bool false,.slice 2 0 on false 0 0,.ptr 3 0,.bool was,.int .i64 r] [.row [.bool pl,.bool rq,.str h,.bool mx,.int .u8 co,.bool se,.lst x1 n1 c1,.lst x2 n2 c2,.lst x3 n3 c3,.bool ha,.int .u8 mo,.lst x4 n4 c4,.int .i64 ag] 58 13,.row [.str hb,.lst xb nb cb,.bool b1,.bool b2,.int .u8 b3] 38 5,.row oc 72 4,.row [.str wh,.nilSlice,.bool w1,.bool w2,.int .u8 w3] 43 5,.dead] R=ntTree0 VO VW SB ((okT n3 c3&&okS n4 c4)&&notB pl rq mx co se n3 c3 ha mo c4 h) ((okT n3 c3&&okS n4 c4)&&secB pl rq co se n3) (okT n3 c3&&okS n4 c4) (dZ pl rq co se n3 c3).length (tls (dZ pl rq co se n3 c3)) (chB pl rq co se n3 c3 ha mo) (kdI pl rq true ha mo) (rq||efB pl rq ha mo) (kdI pl rq false ha mo) pl rq h mx co se x1 n1 c1 x2 n2 c2 x3 n3 c3 ha mo x4 n4 c4 ag hb xb nb cb b1 b2 b3 on oc wh w1 w2 w3 was r R:=by kernel_rfl
def ntTree1(VO:Nat→List V→Bool)(VW:Nat→List V→List TL)(SB:List UInt8→List TL→Bool→Bool→Int→List UInt8→List TL→Bool→Bool→Int→Bool)(C0 C1 C2:Bool)(N:Nat)(cs:List V)(ch:Bool)(t1:Int)(cq:Bool)(t2:Int)(pl rq:Bool)(h:List UInt8)(mx:Bool)(co:Int)(se:Bool)(x1:Value)(n1:Nat)(c1:List V)(x2:Value)(n2:Nat)(c2:List V)(x3:Value)(n3:Nat)(c3:List V)(ha:Bool)(mo:Int)(x4:Value)(n4:Nat)(c4:List V)(ag:Int)(hb:List UInt8)(xb:Value)(nb:Nat)(cb:List V)(b1 b2:Bool)(b3:Int)(on:Nat)(oc:List V)(wh:List UInt8)(wn:Nat)(wk:List V)(w1 w2:Bool)(w3:Int)(was:Bool)(r:Int)(R:Qz):Prop:=
 (
 bif decide (r<2)then bif C0 then bif w3 !=1 then bif !false==was then R Exit.ret [some (V.ptr 0 0),some (V.ptr 1 0),some (V.bool false),some (V.slice 2 0 on
 false 0 0),some (V.ptr 3 0),some (V.bool was),some (V.int i64 r)] [ae pl rq h mx co se x1 n1 c1 x2 n2 c2 x3 n3 c3 ha mo x4 n4 c4 ag,Blk.row [V.str hb,
 V.lst xb nb cb,V.bool b1,V.bool b2,V.int u8 b3] 38 5,Blk.row oc 72 4,Blk.row [V.str wh,V.slice 4 0 wn false 0 0,V.bool w1,V.bool w2,V.int u8 w3]
 43 5,Blk.row wk 72 4,Blk.row [V.str [],V.nilSlice,V.bool false,V.bool false,V.int u8 0] 38 5,Blk.row [V.str [],V.nilSlice,V.bool false,V.bool false,
 V.int u8 0] 38 5,Blk.row [V.str wh,V.slice 4 0 wn false 0 0,V.bool w1,V.bool w2,V.int u8 w3] 43 5]else bif true&&VO wn wk then bif !SB [] [] false
 false 0 wh (VW wn wk) w1 w2 w3 then R Exit.ret [some (V.ptr 0 0),some (V.ptr 1 0),some (V.bool false),some (V.slice 2 0 on false 0 0),some (V.ptr 3 0),some (V.bool
 was),some (V.int i64 r)] [ae pl rq h mx co se x1 n1 c1 x2 n2 c2 x3 n3 c3 ha mo x4 n4 c4 ag,Blk.row [V.str hb,V.lst xb nb cb,V.bool b1,V.bool b2,V.int
 u8 b3] 38 5,Blk.row oc 72 4,Blk.row [V.str wh,V.slice 4 0 wn false 0 0,V.bool w1,V.bool w2,V.int u8 w3] 43 5,Blk.row wk 72 4,Blk.row [V.str [],
 V.nilSlice,V.bool false,V.bool false,V.int u8 0] 38 5,Blk.row [V.str [],V.nilSlice,V.bool false,V.bool false,V.int u8 0] 38 5,Blk.row [V.str wh,
 V.slice 4 0 wn false 0 0,V.bool w1,V.bool w2,V.int u8 w3] 43 5]else bif true&&VO wn wk then bif !SB [] [] false false 0 wh (VW wn wk) w1 w2 w3 then R
 Exit.ret [some (V.ptr 0 0),some (V.ptr 1 0),some (V.bool false),some (V.slice 2 0 on false 0 0),some (V.ptr 3 0),some (V.bool was),some (V.int i64 r)]
 [ae pl rq h mx co se x1 n1 c1 x2 n2 c2 x3 n3 c3 ha mo x4 n4 c4 ag,Blk.row [V.str hb,V.lst xb nb cb,V.bool b1,V.bool b2,V.int u8 b3] 38 5,Blk.row oc 72
 4,Blk.row [V.str wh,V.slice 4 0 wn false 0 0,V.bool w1,V.bool w2,V.int u8 w3] 43 5,Blk.row wk 72 4,Blk.row [V.str [],V.nilSlice,V.bool false,V.bool
 false,V.int u8 0] 38 5,Blk.row [V.str [],V.nilSlice,V.bool false,V.bool false,V.int u8 0] 38 5,Blk.row [V.str wh,V.slice 4 0 wn false 0 0,V.bool
 w1,V.bool w2,V.int u8 w3] 43 5]else bif true&&VO nb cb then bif VO wn wk&&VO nb cb then bif !SB [] [] false false 0 hb (VW nb cb) b1 b2 b3==SB wh (VW wn
 wk) w1 w2 w3 hb (VW nb cb) b1 b2 b3 then R Exit.ret [some (V.ptr 0 0),some (V.ptr 1 0),some (V.bool false),some (V.slice 2 0 on false 0 0),some (V.ptr 3 0),some
 (V.bool was),some (V.int i64 r)] [ae pl rq h mx co se x1 n1 c1 x2 n2 c2 x3 n3 c3 ha mo x4 n4 c4 ag,Blk.row [V.str hb,V.lst xb nb cb,V.bool b1,V.bool b2,
 V.int u8 b3] 38 5,Blk.row oc 72 4,Blk.row [V.str wh,V.slice 4 0 wn false 0 0,V.bool w1,V.bool w2,V.int u8 w3] 43 5,Blk.row wk 72 4,Blk.row [V.str
 [],V.nilSlice,V.bool false,V.bool false,V.int u8 0] 38 5,Blk.row [V.str [],V.nilSlice,V.bool false,V.bool false,V.int u8 0] 38 5,Blk.row [V.str
 wh,V.slice 4 0 wn false 0 0,V.bool w1,V.bool w2,V.int u8 w3] 43 5]else bif !SB [] [] false false 0 [] [] false false 0 then R Exit.ret [some (V.ptr 0 0),
 some (V.ptr 1 0),some (V.bool false),some (V.slice 2 0 on false 0 0),some (V.ptr 3 0),some (V.bool was),some (V.int i64 r)] [ae pl rq h mx co se x1 n1 c1
 x2 n2 c2 x3 n3 c3 ha mo x4 n4 c4 ag,Blk.row [V.str hb,V.lst xb nb cb,V.bool b1,V.bool b2,V.int u8 b3] 38 5,Blk.row oc 72 4,Blk.row [V.str wh,V.slice 4 0
 wn false 0 0,V.bool w1,V.bool w2,V.int u8 w3] 43 5,Blk.row wk 72 4,Blk.row [V.str [],V.nilSlice,V.bool false,V.bool false,V.int u8 0] 38 5,
 Blk.row [V.str [],V.nilSlice,V.bool false,V.bool false,V.int u8 0] 38 5,Blk.row [V.str wh,V.slice 4 0 wn false 0 0,V.bool w1,V.bool w2,V.int u8
 w3] 43 5]else R Exit.normal [some (V.ptr 0 0),some (V.ptr 1 0),some (V.bool false),some (V.slice 2 0 on false 0 0),some (V.ptr 3 0),some (V.bool was),some (V.int
 i64 (i64.wrap (r+1)))] [ae pl rq h mx co se x1 n1 c1 x2 n2 c2 x3 n3 c3 ha mo x4 n4 c4 ag,Blk.row [V.str hb,V.lst xb nb cb,V.bool b1,V.bool b2,
 V.int u8 b3] 38 5,Blk.row oc 72 4,Blk.row [V.str wh,V.slice 4 0 wn false 0 0,V.bool w1,V.bool w2,V.int u8 w3] 43 5,Blk.row wk 72 4,Blk.row [V.str
 [],V.nilSlice,V.bool false,V.bool false,V.int u8 0] 38 5,Blk.row [V.str [],V.nilSlice,V.bool false,V.bool false,V.int u8 0] 38 5,Blk.row [V.str
 wh,V.slice 4 0 wn false 0 0,V.bool w1,V.bool w2,V.int u8 w3] 43 5]else False else False else False else False else bif decide ((↑wn:Int)>0)then bif
 !false==was then R Exit.ret [some (V.ptr 0 0),some (V.ptr 1 0),some (V.bool false),some (V.slice 2 0 on false 0 0),some (V.ptr 3 0),some (V.bool was),some (V.int
 i64 r)] [ae pl rq h mx co se x1 n1 c1 x2 n2 c2 x3 n3 c3 ha mo x4 n4 c4 ag,Blk.row [V.str hb,V.lst xb nb cb,V.bool b1,V.bool b2,V.int u8 b3] 38 5,
 Blk.row oc 72 4,Blk.row [V.str wh,V.slice 4 0 wn false 0 0,V.bool w1,V.bool w2,V.int u8 w3] 43 5,Blk.row wk 72 4,Blk.row [V.str [],V.nilSlice,V.bool
 false,V.bool false,V.int u8 0] 38 5,Blk.row [V.str [],V.nilSlice,V.bool false,V.bool false,V.int u8 0] 38 5,Blk.row [V.str wh,V.slice 4 0 wn
 false 0 0,V.bool w1,V.bool w2,V.int u8 w3] 43 5]else bif true&&VO wn wk then bif !SB [] [] false false 0 wh (VW wn wk) w1 w2 w3 then R Exit.ret [some (V.ptr
 0 0),some (V.ptr 1 0),some (V.bool false),some (V.slice 2 0 on false 0 0),some (V.ptr 3 0),some (V.bool was),some (V.int i64 r)] [ae pl rq h mx co se x1
 n1 c1 x2 n2 c2 x3 n3 c3 ha mo x4 n4 c4 ag,Blk.row [V.str hb,V.lst xb nb cb,V.bool b1,V.bool b2,V.int u8 b3] 38 5,Blk.row oc 72 4,Blk.row [V.str wh,V.slice
 4 0 wn false 0 0,V.bool w1,V.bool w2,V.int u8 w3] 43 5,Blk.row wk 72 4,Blk.row [V.str [],V.nilSlice,V.bool false,V.bool false,V.int u8 0] 38 5,
 Blk.row [V.str [],V.nilSlice,V.bool false,V.bool false,V.int u8 0] 38 5,Blk.row [V.str wh,V.slice 4 0 wn false 0 0,V.bool w1,V.bool w2,V.int u8
 w3] 43 5]else bif true&&VO wn wk then bif !SB [] [] false false 0 wh (VW wn wk) w1 w2 w3 then R Exit.ret [some (V.ptr 0 0),some (V.ptr 1 0),some (V.bool false),some
 (V.slice 2 0 on false 0 0),some (V.ptr 3 0),some (V.bool was),some (V.int i64 r)] [ae pl rq h mx co se x1 n1 c1 x2 n2 c2 x3 n3 c3 ha mo x4 n4 c4 ag,
 Blk.row [V.str hb,V.lst xb nb cb,V.bool b1,V.bool b2,V.int u8 b3] 38 5,Blk.row oc 72 4,Blk.row [V.str wh,V.slice 4 0 wn false 0 0,V.bool w1,V.bool w2,
 V.int u8 w3] 43 5,Blk.row wk 72 4,Blk.row [V.str [],V.nilSlice,V.bool false,V.bool false,V.int u8 0] 38 5,Blk.row [V.str [],V.nilSlice,V.bool
 false,V.bool false,V.int u8 0] 38 5,Blk.row [V.str wh,V.slice 4 0 wn false 0 0,V.bool w1,V.bool w2,V.int u8 w3] 43 5]else bif true&&VO nb cb
 then bif VO wn wk&&VO nb cb then bif !SB [] [] false false 0 hb (VW nb cb) b1 b2 b3==SB wh (VW wn wk) w1 w2 w3 hb (VW nb cb) b1 b2 b3 then R Exit.ret [some (V.ptr 0
 0),some (V.ptr 1 0),some (V.bool false),some (V.slice 2 0 on false 0 0),some (V.ptr 3 0),some (V.bool was),some (V.int i64 r)] [ae pl rq h mx co se x1
 n1 c1 x2 n2 c2 x3 n3 c3 ha mo x4 n4 c4 ag,Blk.row [V.str hb,V.lst xb nb cb,V.bool b1,V.bool b2,V.int u8 b3] 38 5,Blk.row oc 72 4,Blk.row [V.str wh,V.slice
 4 0 wn false 0 0,V.bool w1,V.bool w2,V.int u8 w3] 43 5,Blk.row wk 72 4,Blk.row [V.str [],V.nilSlice,V.bool false,V.bool false,V.int u8 0] 38 5,
 Blk.row [V.str [],V.nilSlice,V.bool false,V.bool false,V.int u8 0] 38 5,Blk.row [V.str wh,V.slice 4 0 wn false 0 0,V.bool w1,V.bool w2,V.int u8
 w3] 43 5]else bif !SB [] [] false false 0 [] [] false false 0 then R Exit.ret [some (V.ptr 0 0),some (V.ptr 1 0),some (V.bool false),some (V.slice 2 0 on false 0 0),
 some (V.ptr 3 0),some (V.bool was),some (V.int i64 r)] [ae pl rq h mx co se x1 n1 c1 x2 n2 c2 x3 n3 c3 ha mo x4 n4 c4 ag,Blk.row [V.str hb,V.lst xb nb cb,
 V.bool b1,V.bool b2,V.int u8 b3] 38 5,Blk.row oc 72 4,Blk.row [V.str wh,V.slice 4 0 wn false 0 0,V.bool w1,V.bool w2,V.int u8 w3] 43 5,Blk.row wk
 72 4,Blk.row [V.str [],V.nilSlice,V.bool false,V.bool false,V.int u8 0] 38 5,Blk.row [V.str [],V.nilSlice,V.bool false,V.bool false,V.int u8 0]
 38 5,Blk.row [V.str wh,V.slice 4 0 wn false 0 0,V.bool w1,V.bool w2,V.int u8 w3] 43 5]else R Exit.normal [some (V.ptr 0 0),some (V.ptr 1 0),some (V.bool
 false),some (V.slice 2 0 on false 0 0),some (V.ptr 3 0),some (V.bool was),some (V.int i64 (i64.wrap (r+1)))] [ae pl rq h mx co se x1 n1 c1 x2 n2
 c2 x3 n3 c3 ha mo x4 n4 c4 ag,Blk.row [V.str hb,V.lst xb nb cb,V.bool b1,V.bool b2,V.int u8 b3] 38 5,Blk.row oc 72 4,Blk.row [V.str wh,V.slice 4 0 wn
 false 0 0,V.bool w1,V.bool w2,V.int u8 w3] 43 5,Blk.row wk 72 4,Blk.row [V.str [],V.nilSlice,V.bool false,V.bool false,V.int u8 0] 38 5,Blk.row
 [V.str [],V.nilSlice,V.bool false,V.bool false,V.int u8 0] 38 5,Blk.row [V.str wh,V.slice 4 0 wn false 0 0,V.bool w1,V.bool w2,V.int u8 w3] 43 5]
 else False else False else False else False else bif !false==was then R Exit.ret [some (V.ptr 0 0),some (V.ptr 1 0),some (V.bool false),some (V.slice 2 0 on false 0
 0),some (V.ptr 3 0),some (V.bool was),some (V.int i64 r)] [ae pl rq h mx co se x1 n1 c1 x2 n2 c2 x3 n3 c3 ha mo x4 n4 c4 ag,Blk.row [V.str hb,V.lst xb nb
 cb,V.bool b1,V.bool b2,V.int u8 b3] 38 5,Blk.row oc 72 4,Blk.row [V.str wh,V.slice 4 0 wn false 0 0,V.bool w1,V.bool w2,V.int u8 w3] 43 5,
 Blk.row wk 72 4,Blk.row [V.str [],V.nilSlice,V.bool false,V.bool false,V.int u8 0] 38 5,Blk.row [V.str [],V.nilSlice,V.bool false,V.bool false,V.int
 u8 0] 38 5,Blk.row [V.str wh,V.slice 4 0 wn false 0 0,V.bool w1,V.bool w2,V.int u8 w3] 43 5]else bif true&&VO wn wk then bif !SB [] [] false false
 0 wh (VW wn wk) w1 w2 w3 then R Exit.ret [some (V.ptr 0 0),some (V.ptr 1 0),some (V.bool false),some (V.slice 2 0 on false 0 0),some (V.ptr 3 0),some (V.bool was),
 some (V.int i64 r)] [ae pl rq h mx co se x1 n1 c1 x2 n2 c2 x3 n3 c3 ha mo x4 n4 c4 ag,Blk.row [V.str hb,V.lst xb nb cb,V.bool b1,V.bool b2,V.int
 u8 b3] 38 5,Blk.row oc 72 4,Blk.row [V.str wh,V.slice 4 0 wn false 0 0,V.bool w1,V.bool w2,V.int u8 w3] 43 5,Blk.row wk 72 4,Blk.row [V.str [],
 V.nilSlice,V.bool false,V.bool false,V.int u8 0] 38 5,Blk.row [V.str [],V.nilSlice,V.bool false,V.bool false,V.int u8 0] 38 5,Blk.row [V.str wh,
 V.slice 4 0 wn false 0 0,V.bool w1,V.bool w2,V.int u8 w3] 43 5]else bif true&&VO wn wk then bif !SB [] [] false false 0 wh (VW wn wk) w1 w2 w3 then R
 Exit.ret [some (V.ptr 0 0),some (V.ptr 1 0),some (V.bool false),some (V.slice 2 0 on false 0 0),some (V.ptr 3 0),some (V.bool was),some (V.int i64 r)]
 [ae pl rq h mx co se x1 n1 c1 x2 n2 c2 x3 n3 c3 ha mo x4 n4 c4 ag,Blk.row [V.str hb,V.lst xb nb cb,V.bool b1,V.bool b2,V.int u8 b3] 38 5,Blk.row oc 72
 4,Blk.row [V.str wh,V.slice 4 0 wn false 0 0,V.bool w1,V.bool w2,V.int u8 w3] 43 5,Blk.row wk 72 4,Blk.row [V.str [],V.nilSlice,V.bool false,V.bool
 false,V.int u8 0] 38 5,Blk.row [V.str [],V.nilSlice,V.bool false,V.bool false,V.int u8 0] 38 5,Blk.row [V.str wh,V.slice 4 0 wn false 0 0,V.bool
 w1,V.bool w2,V.int u8 w3] 43 5]else bif true&&VO nb cb then bif VO wn wk&&VO nb cb then bif !SB [] [] false false 0 hb (VW nb cb) b1 b2 b3==SB wh (VW wn
 wk) w1 w2 w3 hb (VW nb cb) b1 b2 b3 then R Exit.ret [some (V.ptr 0 0),some (V.ptr 1 0),some (V.bool false),some (V.slice 2 0 on false 0 0),some (V.ptr 3 0),some
 (V.bool was),some (V.int i64 r)] [ae pl rq h mx co se x1 n1 c1 x2 n2 c2 x3 n3 c3 ha mo x4 n4 c4 ag,Blk.row [V.str hb,V.lst xb nb cb,V.bool b1,V.bool b2,
 V.int u8 b3] 38 5,Blk.row oc 72 4,Blk.row [V.str wh,V.slice 4 0 wn false 0 0,V.bool w1,V.bool w2,V.int u8 w3] 43 5,Blk.row wk 72 4,Blk.row [V.str
 [],V.nilSlice,V.bool false,V.bool false,V.int u8 0] 38 5,Blk.row [V.str [],V.nilSlice,V.bool false,V.bool false,V.int u8 0] 38 5,Blk.row [V.str
 wh,V.slice 4 0 wn false 0 0,V.bool w1,V.bool w2,V.int u8 w3] 43 5]else bif !SB [] [] false false 0 [] [] false false 0 then R Exit.ret [some (V.ptr 0 0),
 some (V.ptr 1 0),some (V.bool false),some (V.slice 2 0 on false 0 0),some (V.ptr 3 0),some (V.bool was),some (V.int i64 r)] [ae pl rq h mx co se x1 n1 c1
 x2 n2 c2 x3 n3 c3 ha mo x4 n4 c4 ag,Blk.row [V.str hb,V.lst xb nb cb,V.bool b1,V.bool b2,V.int u8 b3] 38 5,Blk.row oc 72 4,Blk.row [V.str wh,V.slice 4 0
 wn false 0 0,V.bool w1,V.bool w2,V.int u8 w3] 43 5,Blk.row wk 72 4,Blk.row [V.str [],V.nilSlice,V.bool false,V.bool false,V.int u8 0] 38 5,
 Blk.row [V.str [],V.nilSlice,V.bool false,V.bool false,V.int u8 0] 38 5,Blk.row [V.str wh,V.slice 4 0 wn false 0 0,V.bool w1,V.bool w2,V.int u8
 w3] 43 5]else R Exit.ret [some (V.ptr 0 0),some (V.ptr 1 0),some (V.bool false),some (V.slice 2 0 on false 0 0),some (V.ptr 3 0),some (V.bool was),some (V.int
 i64 r)] [ae pl rq h mx co se x1 n1 c1 x2 n2 c2 x3 n3 c3 ha mo x4 n4 c4 ag,Blk.row [V.str hb,V.lst xb nb cb,V.bool b1,V.bool b2,V.int u8 b3] 38 5,
 Blk.row oc 72 4,Blk.row [V.str wh,V.slice 4 0 wn false 0 0,V.bool w1,V.bool w2,V.int u8 w3] 43 5,Blk.row wk 72 4,Blk.row [V.str [],V.nilSlice,V.bool
 false,V.bool false,V.int u8 0] 38 5,Blk.row [V.str [],V.nilSlice,V.bool false,V.bool false,V.int u8 0] 38 5,Blk.row [V.str wh,V.slice 4 0 wn
 false 0 0,V.bool w1,V.bool w2,V.int u8 w3] 43 5]else False else False else False else False else bif C1 then bif VO N (aa 5 cs)&&N.ble 4 then bif t1==
 1 then bif (↑N:Int)==0 then bif w3 !=1 then bif !true==was then R Exit.ret [some (V.ptr 0 0),some (V.ptr 1 0),some (V.bool false),some (V.slice 2 0 on false 0
 0),some (V.ptr 3 0),some (V.bool was),some (V.int i64 r)] [ae pl rq h mx co se x1 n1 c1 x2 n2 c2 x3 n3 c3 ha mo x4 n4 c4 ag,Blk.row [V.str hb,V.lst xb nb
 cb,V.bool b1,V.bool b2,V.int u8 b3] 38 5,Blk.row oc 72 4,Blk.row [V.str wh,V.slice 4 0 wn false 0 0,V.bool w1,V.bool w2,V.int u8 w3] 43 5,
 Blk.row wk 72 4,Blk.row (aa 5 cs) 72 4,Blk.row [V.str h,V.slice 5 0 N false 0 0,V.bool ch,V.bool true,V.int u8 t1] 38 5,Blk.row [V.str h,V.slice 9 0 N
 false 0 0,V.bool ch,V.bool true,V.int u8 t1] 38 5,Blk.row [V.str h,V.slice 9 0 N false 0 0,V.bool ch,V.bool true,V.int u8 t1] 38 5,Blk.row
 (aa 5 cs) 72 4,Blk.row [V.str h,V.slice 9 0 N false 0 0,V.bool ch,V.bool true,V.int u8 t1] 38 5,Blk.row [V.str h,V.slice 5 0 N false 0 0,V.bool ch,
 V.bool true,V.int u8 t1] 38 5,Blk.row [V.str wh,V.slice 4 0 wn false 0 0,V.bool w1,V.bool w2,V.int u8 w3] 43 5]else bif VO N (aa 5 cs)&&VO wn
 wk then bif !SB h (VW N (aa 5 cs)) ch true t1 wh (VW wn wk) w1 w2 w3 then R Exit.ret [some (V.ptr 0 0),some (V.ptr 1 0),some (V.bool false),some (V.slice 2 0 on
 false 0 0),some (V.ptr 3 0),some (V.bool was),some (V.int i64 r)] [ae pl rq h mx co se x1 n1 c1 x2 n2 c2 x3 n3 c3 ha mo x4 n4 c4 ag,Blk.row [V.str hb,
 V.lst xb nb cb,V.bool b1,V.bool b2,V.int u8 b3] 38 5,Blk.row oc 72 4,Blk.row [V.str wh,V.slice 4 0 wn false 0 0,V.bool w1,V.bool w2,V.int u8 w3]
 43 5,Blk.row wk 72 4,Blk.row (aa 5 cs) 72 4,Blk.row [V.str h,V.slice 5 0 N false 0 0,V.bool ch,V.bool true,V.int u8 t1] 38 5,Blk.row [V.str h,V.slice
 9 0 N false 0 0,V.bool ch,V.bool true,V.int u8 t1] 38 5,Blk.row [V.str h,V.slice 9 0 N false 0 0,V.bool ch,V.bool true,V.int u8 t1] 38 5,Blk.row
 (aa 5 cs) 72 4,Blk.row [V.str h,V.slice 9 0 N false 0 0,V.bool ch,V.bool true,V.int u8 t1] 38 5,Blk.row [V.str h,V.slice 5 0 N false 0 0,V.bool ch,
 V.bool true,V.int u8 t1] 38 5,Blk.row [V.str wh,V.slice 4 0 wn false 0 0,V.bool w1,V.bool w2,V.int u8 w3] 43 5]else bif VO N (aa 5 cs)&&VO wn
 wk then bif !SB h (VW N (aa 5 cs)) ch true t1 wh (VW wn wk) w1 w2 w3 then R Exit.ret [some (V.ptr 0 0),some (V.ptr 1 0),some (V.bool false),some (V.slice 2 0 on
 false 0 0),some (V.ptr 3 0),some (V.bool was),some (V.int i64 r)] [ae pl rq h mx co se x1 n1 c1 x2 n2 c2 x3 n3 c3 ha mo x4 n4 c4 ag,Blk.row [V.str hb,
 V.lst xb nb cb,V.bool b1,V.bool b2,V.int u8 b3] 38 5,Blk.row oc 72 4,Blk.row [V.str wh,V.slice 4 0 wn false 0 0,V.bool w1,V.bool w2,V.int u8 w3]
 43 5,Blk.row wk 72 4,Blk.row (aa 5 cs) 72 4,Blk.row [V.str h,V.slice 5 0 N false 0 0,V.bool ch,V.bool true,V.int u8 t1] 38 5,Blk.row [V.str h,V.slice
 9 0 N false 0 0,V.bool ch,V.bool true,V.int u8 t1] 38 5,Blk.row [V.str h,V.slice 9 0 N false 0 0,V.bool ch,V.bool true,V.int u8 t1] 38 5,Blk.row
 (aa 5 cs) 72 4,Blk.row [V.str h,V.slice 9 0 N false 0 0,V.bool ch,V.bool true,V.int u8 t1] 38 5,Blk.row [V.str h,V.slice 5 0 N false 0 0,V.bool ch,
 V.bool true,V.int u8 t1] 38 5,Blk.row [V.str wh,V.slice 4 0 wn false 0 0,V.bool w1,V.bool w2,V.int u8 w3] 43 5]else bif VO N (aa 5 cs)&&VO nb
 cb then bif VO wn wk&&VO nb cb then bif !SB h (VW N (aa 5 cs)) ch true t1 hb (VW nb cb) b1 b2 b3==SB wh (VW wn wk) w1 w2 w3 hb (VW nb cb) b1 b2 b3 then R Exit.ret
 [some (V.ptr 0 0),some (V.ptr 1 0),some (V.bool false),some (V.slice 2 0 on false 0 0),some (V.ptr 3 0),some (V.bool was),some (V.int i64 r)] [ae pl rq
 h mx co se x1 n1 c1 x2 n2 c2 x3 n3 c3 ha mo x4 n4 c4 ag,Blk.row [V.str hb,V.lst xb nb cb,V.bool b1,V.bool b2,V.int u8 b3] 38 5,Blk.row oc 72 4,Blk.row
 [V.str wh,V.slice 4 0 wn false 0 0,V.bool w1,V.bool w2,V.int u8 w3] 43 5,Blk.row wk 72 4,Blk.row (aa 5 cs) 72 4,Blk.row [V.str h,V.slice 5 0 N false 0
 0,V.bool ch,V.bool true,V.int u8 t1] 38 5,Blk.row [V.str h,V.slice 9 0 N false 0 0,V.bool ch,V.bool true,V.int u8 t1] 38 5,Blk.row [V.str h,
 V.slice 9 0 N false 0 0,V.bool ch,V.bool true,V.int u8 t1] 38 5,Blk.row (aa 5 cs) 72 4,Blk.row [V.str h,V.slice 9 0 N false 0 0,V.bool ch,V.bool true,
 V.int u8 t1] 38 5,Blk.row [V.str h,V.slice 5 0 N false 0 0,V.bool ch,V.bool true,V.int u8 t1] 38 5,Blk.row [V.str wh,V.slice 4 0 wn false 0 0,
 V.bool w1,V.bool w2,V.int u8 w3] 43 5]else bif VO N (aa 5 cs)&&VO N (aa 5 cs)then bif !SB h (VW N (aa 5 cs)) ch true t1 h (VW N (aa 5 cs))
 ch true t1 then R Exit.ret [some (V.ptr 0 0),some (V.ptr 1 0),some (V.bool false),some (V.slice 2 0 on false 0 0),some (V.ptr 3 0),some (V.bool was),some (V.int
 i64 r)] [ae pl rq h mx co se x1 n1 c1 x2 n2 c2 x3 n3 c3 ha mo x4 n4 c4 ag,Blk.row [V.str hb,V.lst xb nb cb,V.bool b1,V.bool b2,V.int u8 b3] 38 5,
 Blk.row oc 72 4,Blk.row [V.str wh,V.slice 4 0 wn false 0 0,V.bool w1,V.bool w2,V.int u8 w3] 43 5,Blk.row wk 72 4,Blk.row (aa 5 cs) 72 4,Blk.row [V.str
 h,V.slice 5 0 N false 0 0,V.bool ch,V.bool true,V.int u8 t1] 38 5,Blk.row [V.str h,V.slice 9 0 N false 0 0,V.bool ch,V.bool true,V.int u8 t1] 38
 5,Blk.row [V.str h,V.slice 9 0 N false 0 0,V.bool ch,V.bool true,V.int u8 t1] 38 5,Blk.row (aa 5 cs) 72 4,Blk.row [V.str h,V.slice 9 0 N false 0 0,
 V.bool ch,V.bool true,V.int u8 t1] 38 5,Blk.row [V.str h,V.slice 5 0 N false 0 0,V.bool ch,V.bool true,V.int u8 t1] 38 5,Blk.row [V.str wh,
 V.slice 4 0 wn false 0 0,V.bool w1,V.bool w2,V.int u8 w3] 43 5]else R Exit.ret [some (V.ptr 0 0),some (V.ptr 1 0),some (V.bool false),some (V.slice 2 0 on
 false 0 0),some (V.ptr 3 0),some (V.bool was),some (V.int i64 r)] [ae pl rq h mx co se x1 n1 c1 x2 n2 c2 x3 n3 c3 ha mo x4 n4 c4 ag,Blk.row [V.str hb,
 V.lst xb nb cb,V.bool b1,V.bool b2,V.int u8 b3] 38 5,Blk.row oc 72 4,Blk.row [V.str wh,V.slice 4 0 wn false 0 0,V.bool w1,V.bool w2,V.int u8 w3]
 43 5,Blk.row wk 72 4,Blk.row (aa 5 cs) 72 4,Blk.row [V.str h,V.slice 5 0 N false 0 0,V.bool ch,V.bool true,V.int u8 t1] 38 5,Blk.row [V.str h,V.slice
 9 0 N false 0 0,V.bool ch,V.bool true,V.int u8 t1] 38 5,Blk.row [V.str h,V.slice 9 0 N false 0 0,V.bool ch,V.bool true,V.int u8 t1] 38 5,Blk.row
 (aa 5 cs) 72 4,Blk.row [V.str h,V.slice 9 0 N false 0 0,V.bool ch,V.bool true,V.int u8 t1] 38 5,Blk.row [V.str h,V.slice 5 0 N false 0 0,V.bool ch,
 V.bool true,V.int u8 t1] 38 5,Blk.row [V.str wh,V.slice 4 0 wn false 0 0,V.bool w1,V.bool w2,V.int u8 w3] 43 5]else False else False else False
 else False else False else bif decide ((↑wn:Int)>0)then bif !true==was then R Exit.ret [some (V.ptr 0 0),some (V.ptr 1 0),some (V.bool false),some (V.slice 2 0
 on false 0 0),some (V.ptr 3 0),some (V.bool was),some (V.int i64 r)] [ae pl rq h mx co se x1 n1 c1 x2 n2 c2 x3 n3 c3 ha mo x4 n4 c4 ag,Blk.row [V.str hb,
 V.lst xb nb cb,V.bool b1,V.bool b2,V.int u8 b3] 38 5,Blk.row oc 72 4,Blk.row [V.str wh,V.slice 4 0 wn false 0 0,V.bool w1,V.bool w2,V.int u8 w3]
 43 5,Blk.row wk 72 4,Blk.row (aa 5 cs) 72 4,Blk.row [V.str h,V.slice 5 0 N false 0 0,V.bool ch,V.bool true,V.int u8 t1] 38 5,Blk.row [V.str h,V.slice
 9 0 N false 0 0,V.bool ch,V.bool true,V.int u8 t1] 38 5,Blk.row [V.str h,V.slice 9 0 N false 0 0,V.bool ch,V.bool true,V.int u8 t1] 38 5,Blk.row
 (aa 5 cs) 72 4,Blk.row [V.str h,V.slice 9 0 N false 0 0,V.bool ch,V.bool true,V.int u8 t1] 38 5,Blk.row [V.str h,V.slice 5 0 N false 0 0,V.bool ch,
 V.bool true,V.int u8 t1] 38 5,Blk.row [V.str wh,V.slice 4 0 wn false 0 0,V.bool w1,V.bool w2,V.int u8 w3] 43 5]else bif VO N (aa 5 cs)&&VO wn
 wk then bif !SB h (VW N (aa 5 cs)) ch true t1 wh (VW wn wk) w1 w2 w3 then R Exit.ret [some (V.ptr 0 0),some (V.ptr 1 0),some (V.bool false),some (V.slice 2 0 on
 false 0 0),some (V.ptr 3 0),some (V.bool was),some (V.int i64 r)] [ae pl rq h mx co se x1 n1 c1 x2 n2 c2 x3 n3 c3 ha mo x4 n4 c4 ag,Blk.row [V.str hb,
 V.lst xb nb cb,V.bool b1,V.bool b2,V.int u8 b3] 38 5,Blk.row oc 72 4,Blk.row [V.str wh,V.slice 4 0 wn false 0 0,V.bool w1,V.bool w2,V.int u8 w3]
 43 5,Blk.row wk 72 4,Blk.row (aa 5 cs) 72 4,Blk.row [V.str h,V.slice 5 0 N false 0 0,V.bool ch,V.bool true,V.int u8 t1] 38 5,Blk.row [V.str h,V.slice
 9 0 N false 0 0,V.bool ch,V.bool true,V.int u8 t1] 38 5,Blk.row [V.str h,V.slice 9 0 N false 0 0,V.bool ch,V.bool true,V.int u8 t1] 38 5,Blk.row
 (aa 5 cs) 72 4,Blk.row [V.str h,V.slice 9 0 N false 0 0,V.bool ch,V.bool true,V.int u8 t1] 38 5,Blk.row [V.str h,V.slice 5 0 N false 0 0,V.bool ch,
 V.bool true,V.int u8 t1] 38 5,Blk.row [V.str wh,V.slice 4 0 wn false 0 0,V.bool w1,V.bool w2,V.int u8 w3] 43 5]else bif VO N (aa 5 cs)&&VO wn
 wk then bif !SB h (VW N (aa 5 cs)) ch true t1 wh (VW wn wk) w1 w2 w3 then R Exit.ret [some (V.ptr 0 0),some (V.ptr 1 0),some (V.bool false),some (V.slice 2 0 on
 false 0 0),some (V.ptr 3 0),some (V.bool was),some (V.int i64 r)] [ae pl rq h mx co se x1 n1 c1 x2 n2 c2 x3 n3 c3 ha mo x4 n4 c4 ag,Blk.row [V.str hb,
 V.lst xb nb cb,V.bool b1,V.bool b2,V.int u8 b3] 38 5,Blk.row oc 72 4,Blk.row [V.str wh,V.slice 4 0 wn false 0 0,V.bool w1,V.bool w2,V.int u8 w3]
 43 5,Blk.row wk 72 4,Blk.row (aa 5 cs) 72 4,Blk.row [V.str h,V.slice 5 0 N false 0 0,V.bool ch,V.bool true,V.int u8 t1] 38 5,Blk.row [V.str h,V.slice
 9 0 N false 0 0,V.bool ch,V.bool true,V.int u8 t1] 38 5,Blk.row [V.str h,V.slice 9 0 N false 0 0,V.bool ch,V.bool true,V.int u8 t1] 38 5,Blk.row
 (aa 5 cs) 72 4,Blk.row [V.str h,V.slice 9 0 N false 0 0,V.bool ch,V.bool true,V.int u8 t1] 38 5,Blk.row [V.str h,V.slice 5 0 N false 0 0,V.bool ch,
 V.bool true,V.int u8 t1] 38 5,Blk.row [V.str wh,V.slice 4 0 wn false 0 0,V.bool w1,V.bool w2,V.int u8 w3] 43 5]else bif VO N (aa 5 cs)&&VO nb
 cb then bif VO wn wk&&VO nb cb then bif !SB h (VW N (aa 5 cs)) ch true t1 hb (VW nb cb) b1 b2 b3==SB wh (VW wn wk) w1 w2 w3 hb (VW nb cb) b1 b2 b3 then R Exit.ret
 [some (V.ptr 0 0),some (V.ptr 1 0),some (V.bool false),some (V.slice 2 0 on false 0 0),some (V.ptr 3 0),some (V.bool was),some (V.int i64 r)] [ae pl rq
 h mx co se x1 n1 c1 x2 n2 c2 x3 n3 c3 ha mo x4 n4 c4 ag,Blk.row [V.str hb,V.lst xb nb cb,V.bool b1,V.bool b2,V.int u8 b3] 38 5,Blk.row oc 72 4,Blk.row
 [V.str wh,V.slice 4 0 wn false 0 0,V.bool w1,V.bool w2,V.int u8 w3] 43 5,Blk.row wk 72 4,Blk.row (aa 5 cs) 72 4,Blk.row [V.str h,V.slice 5 0 N false 0
 0,V.bool ch,V.bool true,V.int u8 t1] 38 5,Blk.row [V.str h,V.slice 9 0 N false 0 0,V.bool ch,V.bool true,V.int u8 t1] 38 5,Blk.row [V.str h,
 V.slice 9 0 N false 0 0,V.bool ch,V.bool true,V.int u8 t1] 38 5,Blk.row (aa 5 cs) 72 4,Blk.row [V.str h,V.slice 9 0 N false 0 0,V.bool ch,V.bool true,
 V.int u8 t1] 38 5,Blk.row [V.str h,V.slice 5 0 N false 0 0,V.bool ch,V.bool true,V.int u8 t1] 38 5,Blk.row [V.str wh,V.slice 4 0 wn false 0 0,
 V.bool w1,V.bool w2,V.int u8 w3] 43 5]else bif VO N (aa 5 cs)&&VO N (aa 5 cs)then bif !SB h (VW N (aa 5 cs)) ch true t1 h (VW N (aa 5 cs))
 ch true t1 then R Exit.ret [some (V.ptr 0 0),some (V.ptr 1 0),some (V.bool false),some (V.slice 2 0 on false 0 0),some (V.ptr 3 0),some (V.bool was),some (V.int
 i64 r)] [ae pl rq h mx co se x1 n1 c1 x2 n2 c2 x3 n3 c3 ha mo x4 n4 c4 ag,Blk.row [V.str hb,V.lst xb nb cb,V.bool b1,V.bool b2,V.int u8 b3] 38 5,
 Blk.row oc 72 4,Blk.row [V.str wh,V.slice 4 0 wn false 0 0,V.bool w1,V.bool w2,V.int u8 w3] 43 5,Blk.row wk 72 4,Blk.row (aa 5 cs) 72 4,Blk.row [V.str
 h,V.slice 5 0 N false 0 0,V.bool ch,V.bool true,V.int u8 t1] 38 5,Blk.row [V.str h,V.slice 9 0 N false 0 0,V.bool ch,V.bool true,V.int u8 t1] 38
 5,Blk.row [V.str h,V.slice 9 0 N false 0 0,V.bool ch,V.bool true,V.int u8 t1] 38 5,Blk.row (aa 5 cs) 72 4,Blk.row [V.str h,V.slice 9 0 N false 0 0,
 V.bool ch,V.bool true,V.int u8 t1] 38 5,Blk.row [V.str h,V.slice 5 0 N false 0 0,V.bool ch,V.bool true,V.int u8 t1] 38 5,Blk.row [V.str wh,
 V.slice 4 0 wn false 0 0,V.bool w1,V.bool w2,V.int u8 w3] 43 5]else R Exit.ret [some (V.ptr 0 0),some (V.ptr 1 0),some (V.bool false),some (V.slice 2 0 on
 false 0 0),some (V.ptr 3 0),some (V.bool was),some (V.int i64 r)] [ae pl rq h mx co se x1 n1 c1 x2 n2 c2 x3 n3 c3 ha mo x4 n4 c4 ag,Blk.row [V.str hb,
 V.lst xb nb cb,V.bool b1,V.bool b2,V.int u8 b3] 38 5,Blk.row oc 72 4,Blk.row [V.str wh,V.slice 4 0 wn false 0 0,V.bool w1,V.bool w2,V.int u8 w3]
 43 5,Blk.row wk 72 4,Blk.row (aa 5 cs) 72 4,Blk.row [V.str h,V.slice 5 0 N false 0 0,V.bool ch,V.bool true,V.int u8 t1] 38 5,Blk.row [V.str h,V.slice
 9 0 N false 0 0,V.bool ch,V.bool true,V.int u8 t1] 38 5,Blk.row [V.str h,V.slice 9 0 N false 0 0,V.bool ch,V.bool true,V.int u8 t1] 38 5,Blk.row
 (aa 5 cs) 72 4,Blk.row [V.str h,V.slice 9 0 N false 0 0,V.bool ch,V.bool true,V.int u8 t1] 38 5,Blk.row [V.str h,V.slice 5 0 N false 0 0,V.bool ch,
 V.bool true,V.int u8 t1] 38 5,Blk.row [V.str wh,V.slice 4 0 wn false 0 0,V.bool w1,V.bool w2,V.int u8 w3] 43 5]else False else False else False
 else False else False else bif !true==was then R Exit.ret [some (V.ptr 0 0),some (V.ptr 1 0),some (V.bool false),some (V.slice 2 0 on false 0 0),some (V.ptr 3 0),
 some (V.bool was),some (V.int i64 r)] [ae pl rq h mx co se x1 n1 c1 x2 n2 c2 x3 n3 c3 ha mo x4 n4 c4 ag,Blk.row [V.str hb,V.lst xb nb cb,V.bool b1,V.bool
 b2,V.int u8 b3] 38 5,Blk.row oc 72 4,Blk.row [V.str wh,V.slice 4 0 wn false 0 0,V.bool w1,V.bool w2,V.int u8 w3] 43 5,Blk.row wk 72 4,Blk.row
 (aa 5 cs) 72 4,Blk.row [V.str h,V.slice 5 0 N false 0 0,V.bool ch,V.bool true,V.int u8 t1] 38 5,Blk.row [V.str h,V.slice 9 0 N false 0 0,V.bool ch,
 V.bool true,V.int u8 t1] 38 5,Blk.row [V.str h,V.slice 9 0 N false 0 0,V.bool ch,V.bool true,V.int u8 t1] 38 5,Blk.row (aa 5 cs) 72 4,Blk.row
 [V.str h,V.slice 9 0 N false 0 0,V.bool ch,V.bool true,V.int u8 t1] 38 5,Blk.row [V.str h,V.slice 5 0 N false 0 0,V.bool ch,V.bool true,V.int u8
 t1] 38 5,Blk.row [V.str wh,V.slice 4 0 wn false 0 0,V.bool w1,V.bool w2,V.int u8 w3] 43 5]else bif VO N (aa 5 cs)&&VO wn wk then bif !SB h (VW N
 (aa 5 cs)) ch true t1 wh (VW wn wk) w1 w2 w3 then R Exit.ret [some (V.ptr 0 0),some (V.ptr 1 0),some (V.bool false),some (V.slice 2 0 on false 0 0),some (V.ptr 3
 0),some (V.bool was),some (V.int i64 r)] [ae pl rq h mx co se x1 n1 c1 x2 n2 c2 x3 n3 c3 ha mo x4 n4 c4 ag,Blk.row [V.str hb,V.lst xb nb cb,V.bool b1,
 V.bool b2,V.int u8 b3] 38 5,Blk.row oc 72 4,Blk.row [V.str wh,V.slice 4 0 wn false 0 0,V.bool w1,V.bool w2,V.int u8 w3] 43 5,Blk.row wk 72 4,
 Blk.row (aa 5 cs) 72 4,Blk.row [V.str h,V.slice 5 0 N false 0 0,V.bool ch,V.bool true,V.int u8 t1] 38 5,Blk.row [V.str h,V.slice 9 0 N false 0 0,
 V.bool ch,V.bool true,V.int u8 t1] 38 5,Blk.row [V.str h,V.slice 9 0 N false 0 0,V.bool ch,V.bool true,V.int u8 t1] 38 5,Blk.row (aa 5 cs) 72
 4,Blk.row [V.str h,V.slice 9 0 N false 0 0,V.bool ch,V.bool true,V.int u8 t1] 38 5,Blk.row [V.str h,V.slice 5 0 N false 0 0,V.bool ch,V.bool true,V.int
 u8 t1] 38 5,Blk.row [V.str wh,V.slice 4 0 wn false 0 0,V.bool w1,V.bool w2,V.int u8 w3] 43 5]else bif VO N (aa 5 cs)&&VO wn wk then bif !SB h
 (VW N (aa 5 cs)) ch true t1 wh (VW wn wk) w1 w2 w3 then R Exit.ret [some (V.ptr 0 0),some (V.ptr 1 0),some (V.bool false),some (V.slice 2 0 on false 0 0),some
 (V.ptr 3 0),some (V.bool was),some (V.int i64 r)] [ae pl rq h mx co se x1 n1 c1 x2 n2 c2 x3 n3 c3 ha mo x4 n4 c4 ag,Blk.row [V.str hb,V.lst xb nb cb,
 V.bool b1,V.bool b2,V.int u8 b3] 38 5,Blk.row oc 72 4,Blk.row [V.str wh,V.slice 4 0 wn false 0 0,V.bool w1,V.bool w2,V.int u8 w3] 43 5,Blk.row wk
 72 4,Blk.row (aa 5 cs) 72 4,Blk.row [V.str h,V.slice 5 0 N false 0 0,V.bool ch,V.bool true,V.int u8 t1] 38 5,Blk.row [V.str h,V.slice 9 0 N false 0 0,
 V.bool ch,V.bool true,V.int u8 t1] 38 5,Blk.row [V.str h,V.slice 9 0 N false 0 0,V.bool ch,V.bool true,V.int u8 t1] 38 5,Blk.row (aa 5 cs) 72
 4,Blk.row [V.str h,V.slice 9 0 N false 0 0,V.bool ch,V.bool true,V.int u8 t1] 38 5,Blk.row [V.str h,V.slice 5 0 N false 0 0,V.bool ch,V.bool true,V.int
 u8 t1] 38 5,Blk.row [V.str wh,V.slice 4 0 wn false 0 0,V.bool w1,V.bool w2,V.int u8 w3] 43 5]else bif VO N (aa 5 cs)&&VO nb cb then bif VO wn
 wk&&VO nb cb then bif !SB h (VW N (aa 5 cs)) ch true t1 hb (VW nb cb) b1 b2 b3==SB wh (VW wn wk) w1 w2 w3 hb (VW nb cb) b1 b2 b3 then R Exit.ret [some (V.ptr 0
 0),some (V.ptr 1 0),some (V.bool false),some (V.slice 2 0 on false 0 0),some (V.ptr 3 0),some (V.bool was),some (V.int i64 r)] [ae pl rq h mx co se x1
 n1 c1 x2 n2 c2 x3 n3 c3 ha mo x4 n4 c4 ag,Blk.row [V.str hb,V.lst xb nb cb,V.bool b1,V.bool b2,V.int u8 b3] 38 5,Blk.row oc 72 4,Blk.row [V.str wh,V.slice
 4 0 wn false 0 0,V.bool w1,V.bool w2,V.int u8 w3] 43 5,Blk.row wk 72 4,Blk.row (aa 5 cs) 72 4,Blk.row [V.str h,V.slice 5 0 N false 0 0,V.bool ch,
 V.bool true,V.int u8 t1] 38 5,Blk.row [V.str h,V.slice 9 0 N false 0 0,V.bool ch,V.bool true,V.int u8 t1] 38 5,Blk.row [V.str h,V.slice 9 0 N
 false 0 0,V.bool ch,V.bool true,V.int u8 t1] 38 5,Blk.row (aa 5 cs) 72 4,Blk.row [V.str h,V.slice 9 0 N false 0 0,V.bool ch,V.bool true,V.int
 u8 t1] 38 5,Blk.row [V.str h,V.slice 5 0 N false 0 0,V.bool ch,V.bool true,V.int u8 t1] 38 5,Blk.row [V.str wh,V.slice 4 0 wn false 0 0,V.bool w1,
 V.bool w2,V.int u8 w3] 43 5]else bif VO N (aa 5 cs)&&VO N (aa 5 cs)then bif !SB h (VW N (aa 5 cs)) ch true t1 h (VW N (aa 5 cs)) ch true t1
 then R Exit.ret [some (V.ptr 0 0),some (V.ptr 1 0),some (V.bool false),some (V.slice 2 0 on false 0 0),some (V.ptr 3 0),some (V.bool was),some (V.int i64
 r)] [ae pl rq h mx co se x1 n1 c1 x2 n2 c2 x3 n3 c3 ha mo x4 n4 c4 ag,Blk.row [V.str hb,V.lst xb nb cb,V.bool b1,V.bool b2,V.int u8 b3] 38 5,Blk.row oc
 72 4,Blk.row [V.str wh,V.slice 4 0 wn false 0 0,V.bool w1,V.bool w2,V.int u8 w3] 43 5,Blk.row wk 72 4,Blk.row (aa 5 cs) 72 4,Blk.row [V.str h,V.slice
 5 0 N false 0 0,V.bool ch,V.bool true,V.int u8 t1] 38 5,Blk.row [V.str h,V.slice 9 0 N false 0 0,V.bool ch,V.bool true,V.int u8 t1] 38 5,Blk.row
 [V.str h,V.slice 9 0 N false 0 0,V.bool ch,V.bool true,V.int u8 t1] 38 5,Blk.row (aa 5 cs) 72 4,Blk.row [V.str h,V.slice 9 0 N false 0 0,V.bool ch,
 V.bool true,V.int u8 t1] 38 5,Blk.row [V.str h,V.slice 5 0 N false 0 0,V.bool ch,V.bool true,V.int u8 t1] 38 5,Blk.row [V.str wh,V.slice 4 0 wn
 false 0 0,V.bool w1,V.bool w2,V.int u8 w3] 43 5]else Fits 0 [V.ptr 0 0,V.ptr 1 0,V.bool false,V.slice 2 0 on false 0 0,V.ptr 3 0,V.bool was,V.int
 i64 r,V.ptr 5 0,V.ptr 7 0,V.int i64 0] [ae pl rq h mx co se x1 n1 c1 x2 n2 c2 x3 n3 c3 ha mo x4 n4 c4 ag,Blk.row [V.str hb,V.lst xb nb cb,V.bool
 b1,V.bool b2,V.int u8 b3] 38 5,Blk.row oc 72 4,Blk.row [V.str wh,V.slice 4 0 wn false 0 0,V.bool w1,V.bool w2,V.int u8 w3] 43 5,Blk.row wk 72 4,
 Blk.row [V.str h,V.slice 6 0 N false 0 0,V.bool ch,V.bool true,V.int u8 t1] 38 5,Blk.row (aa 5 cs) 72 4,Blk.row [V.str h,V.slice 8 0 N false 0 0,
 V.bool ch,V.bool true,V.int u8 t1] 38 5,Blk.row (aa 5 cs) 72 4] [some (V.ptr 0 0),some (V.ptr 1 0),some (V.bool false),some (V.slice 2 0 on false 0 0),
 some (V.ptr 3 0),some (V.bool was),some (V.int i64 r),some (V.ptr 6 0),some (V.ptr 10 0),some (V.int i64 0)] [ae pl rq h mx co se x1 n1 c1 x2 n2
 c2 x3 n3 c3 ha mo x4 n4 c4 ag,Blk.row [V.str hb,V.lst xb nb cb,V.bool b1,V.bool b2,V.int u8 b3] 38 5,Blk.row oc 72 4,Blk.row [V.str wh,V.slice 4 0 wn
 false 0 0,V.bool w1,V.bool w2,V.int u8 w3] 43 5,Blk.row wk 72 4,Blk.row (aa 5 cs) 72 4,Blk.row [V.str h,V.slice 5 0 N false 0 0,V.bool ch,V.bool
 true,V.int u8 t1] 38 5,Blk.row [V.str h,V.slice 9 0 N false 0 0,V.bool ch,V.bool true,V.int u8 t1] 38 5,Blk.row [V.str h,V.slice 9 0 N false 0 0,
 V.bool ch,V.bool true,V.int u8 t1] 38 5,Blk.row (aa 5 cs) 72 4,Blk.row [V.str h,V.slice 9 0 N false 0 0,V.bool ch,V.bool true,V.int u8 t1] 38
 5,Blk.row [V.str h,V.slice 5 0 N false 0 0,V.bool ch,V.bool true,V.int u8 t1] 38 5,Blk.row [V.str wh,V.slice 4 0 wn false 0 0,V.bool w1,V.bool w2,V.int
 u8 w3] 43 5]∧bif d7 {y:={pl:=pl,rq:=rq,h:=h,mx:=mx,co:=co,se:=se,x1:=x1,n1:=n1,c1:=c1,x2:=x2,n2:=n2,c2:=c2,x3:=x3,n3:=n3,c3:=c3,ha:=ha,mo:=mo,x4:=x4,n4:=n4,c4:=c4,ag:=ag,hb:=hb,xb:=xb,nb:=nb,cb:=cb,b1:=b1,b2:=b2,b3:=b3,on:=on,oc:=oc,wh:=wh,wn:=some wn,wk:=wk,w1:=w1,w2:=w2,w3:=w3,was:=was},r:=r,h:=h,a1:=ch,b1:=true,t1:=t1,N:=N,cs:=aa 5 cs,ds:=aa 5 cs,h':=h,a2:=ch,b2:=true,t2:=t1,i:=0}
 then ∀(j:Int),R Exit.normal [some (V.ptr 0 0),some (V.ptr 1 0),some (V.bool false),some (V.slice 2 0 on false 0 0),some (V.ptr 3 0),some (V.bool was),some
 (V.int i64 (i64.wrap (r+1)))] [ae pl rq h mx co se x1 n1 c1 x2 n2 c2 x3 n3 c3 ha mo x4 n4 c4 ag,Blk.row [V.str hb,V.lst xb nb cb,V.bool b1,
 V.bool b2,V.int u8 b3] 38 5,Blk.row oc 72 4,Blk.row [V.str wh,V.slice 4 0 wn false 0 0,V.bool w1,V.bool w2,V.int u8 w3] 43 5,Blk.row wk 72 4,
 Blk.dead,Blk.dead,Blk.dead,Blk.dead]else False else False else False else False else False else False else bif w3 !=1 then bif !true==was then R Exit.ret [some
 (V.ptr 0 0),some (V.ptr 1 0),some (V.bool false),some (V.slice 2 0 on false 0 0),some (V.ptr 3 0),some (V.bool was),some (V.int i64 r)] [ae pl rq h mx
 co se x1 n1 c1 x2 n2 c2 x3 n3 c3 ha mo x4 n4 c4 ag,Blk.row [V.str hb,V.lst xb nb cb,V.bool b1,V.bool b2,V.int u8 b3] 38 5,Blk.row oc 72 4,Blk.row [V.str
 wh,V.slice 4 0 wn false 0 0,V.bool w1,V.bool w2,V.int u8 w3] 43 5,Blk.row wk 72 4,Blk.row (aa 5 cs) 72 4,Blk.row [V.str h,V.slice 5 0 N false 0 0,
 V.bool ch,V.bool true,V.int u8 t1] 38 5,Blk.row [V.str h,V.slice 9 0 N false 0 0,V.bool ch,V.bool true,V.int u8 t1] 38 5,Blk.row [V.str h,V.slice
 9 0 N false 0 0,V.bool ch,V.bool true,V.int u8 t1] 38 5,Blk.row (aa 5 cs) 72 4,Blk.row [V.str h,V.slice 9 0 N false 0 0,V.bool ch,V.bool true,V.int
 u8 t1] 38 5,Blk.row [V.str h,V.slice 5 0 N false 0 0,V.bool ch,V.bool true,V.int u8 t1] 38 5,Blk.row [V.str wh,V.slice 4 0 wn false 0 0,V.bool w1,
 V.bool w2,V.int u8 w3] 43 5]else bif VO N (aa 5 cs)&&VO wn wk then bif !SB h (VW N (aa 5 cs)) ch true t1 wh (VW wn wk) w1 w2 w3 then R Exit.ret [some
 (V.ptr 0 0),some (V.ptr 1 0),some (V.bool false),some (V.slice 2 0 on false 0 0),some (V.ptr 3 0),some (V.bool was),some (V.int i64 r)] [ae pl rq h mx
 co se x1 n1 c1 x2 n2 c2 x3 n3 c3 ha mo x4 n4 c4 ag,Blk.row [V.str hb,V.lst xb nb cb,V.bool b1,V.bool b2,V.int u8 b3] 38 5,Blk.row oc 72 4,Blk.row [V.str
 wh,V.slice 4 0 wn false 0 0,V.bool w1,V.bool w2,V.int u8 w3] 43 5,Blk.row wk 72 4,Blk.row (aa 5 cs) 72 4,Blk.row [V.str h,V.slice 5 0 N false 0 0,
 V.bool ch,V.bool true,V.int u8 t1] 38 5,Blk.row [V.str h,V.slice 9 0 N false 0 0,V.bool ch,V.bool true,V.int u8 t1] 38 5,Blk.row [V.str h,V.slice
 9 0 N false 0 0,V.bool ch,V.bool true,V.int u8 t1] 38 5,Blk.row (aa 5 cs) 72 4,Blk.row [V.str h,V.slice 9 0 N false 0 0,V.bool ch,V.bool true,V.int
 u8 t1] 38 5,Blk.row [V.str h,V.slice 5 0 N false 0 0,V.bool ch,V.bool true,V.int u8 t1] 38 5,Blk.row [V.str wh,V.slice 4 0 wn false 0 0,V.bool w1,
 V.bool w2,V.int u8 w3] 43 5]else bif VO N (aa 5 cs)&&VO wn wk then bif !SB h (VW N (aa 5 cs)) ch true t1 wh (VW wn wk) w1 w2 w3 then R Exit.ret [some
 (V.ptr 0 0),some (V.ptr 1 0),some (V.bool false),some (V.slice 2 0 on false 0 0),some (V.ptr 3 0),some (V.bool was),some (V.int i64 r)] [ae pl rq h mx
 co se x1 n1 c1 x2 n2 c2 x3 n3 c3 ha mo x4 n4 c4 ag,Blk.row [V.str hb,V.lst xb nb cb,V.bool b1,V.bool b2,V.int u8 b3] 38 5,Blk.row oc 72 4,Blk.row [V.str
 wh,V.slice 4 0 wn false 0 0,V.bool w1,V.bool w2,V.int u8 w3] 43 5,Blk.row wk 72 4,Blk.row (aa 5 cs) 72 4,Blk.row [V.str h,V.slice 5 0 N false 0 0,
 V.bool ch,V.bool true,V.int u8 t1] 38 5,Blk.row [V.str h,V.slice 9 0 N false 0 0,V.bool ch,V.bool true,V.int u8 t1] 38 5,Blk.row [V.str h,V.slice
 9 0 N false 0 0,V.bool ch,V.bool true,V.int u8 t1] 38 5,Blk.row (aa 5 cs) 72 4,Blk.row [V.str h,V.slice 9 0 N false 0 0,V.bool ch,V.bool true,V.int
 u8 t1] 38 5,Blk.row [V.str h,V.slice 5 0 N false 0 0,V.bool ch,V.bool true,V.int u8 t1] 38 5,Blk.row [V.str wh,V.slice 4 0 wn false 0 0,V.bool w1,
 V.bool w2,V.int u8 w3] 43 5]else bif VO N (aa 5 cs)&&VO nb cb then bif VO wn wk&&VO nb cb then bif !SB h (VW N (aa 5 cs)) ch true t1 hb (VW nb cb)
 b1 b2 b3==SB wh (VW wn wk) w1 w2 w3 hb (VW nb cb) b1 b2 b3 then R Exit.ret [some (V.ptr 0 0),some (V.ptr 1 0),some (V.bool false),some (V.slice 2 0 on false 0 0),
 some (V.ptr 3 0),some (V.bool was),some (V.int i64 r)] [ae pl rq h mx co se x1 n1 c1 x2 n2 c2 x3 n3 c3 ha mo x4 n4 c4 ag,Blk.row [V.str hb,V.lst xb nb cb,
 V.bool b1,V.bool b2,V.int u8 b3] 38 5,Blk.row oc 72 4,Blk.row [V.str wh,V.slice 4 0 wn false 0 0,V.bool w1,V.bool w2,V.int u8 w3] 43 5,Blk.row wk
 72 4,Blk.row (aa 5 cs) 72 4,Blk.row [V.str h,V.slice 5 0 N false 0 0,V.bool ch,V.bool true,V.int u8 t1] 38 5,Blk.row [V.str h,V.slice 9 0 N false 0 0,
 V.bool ch,V.bool true,V.int u8 t1] 38 5,Blk.row [V.str h,V.slice 9 0 N false 0 0,V.bool ch,V.bool true,V.int u8 t1] 38 5,Blk.row (aa 5 cs) 72
 4,Blk.row [V.str h,V.slice 9 0 N false 0 0,V.bool ch,V.bool true,V.int u8 t1] 38 5,Blk.row [V.str h,V.slice 5 0 N false 0 0,V.bool ch,V.bool true,V.int
 u8 t1] 38 5,Blk.row [V.str wh,V.slice 4 0 wn false 0 0,V.bool w1,V.bool w2,V.int u8 w3] 43 5]else bif VO N (aa 5 cs)&&VO N (aa 5 cs)then
 bif !SB h (VW N (aa 5 cs)) ch true t1 h (VW N (aa 5 cs)) ch true t1 then R Exit.ret [some (V.ptr 0 0),some (V.ptr 1 0),some (V.bool false),some (V.slice 2 0 on
 false 0 0),some (V.ptr 3 0),some (V.bool was),some (V.int i64 r)] [ae pl rq h mx co se x1 n1 c1 x2 n2 c2 x3 n3 c3 ha mo x4 n4 c4 ag,Blk.row [V.str hb,
 V.lst xb nb cb,V.bool b1,V.bool b2,V.int u8 b3] 38 5,Blk.row oc 72 4,Blk.row [V.str wh,V.slice 4 0 wn false 0 0,V.bool w1,V.bool w2,V.int u8 w3]
 43 5,Blk.row wk 72 4,Blk.row (aa 5 cs) 72 4,Blk.row [V.str h,V.slice 5 0 N false 0 0,V.bool ch,V.bool true,V.int u8 t1] 38 5,Blk.row [V.str h,V.slice
 9 0 N false 0 0,V.bool ch,V.bool true,V.int u8 t1] 38 5,Blk.row [V.str h,V.slice 9 0 N false 0 0,V.bool ch,V.bool true,V.int u8 t1] 38 5,Blk.row
 (aa 5 cs) 72 4,Blk.row [V.str h,V.slice 9 0 N false 0 0,V.bool ch,V.bool true,V.int u8 t1] 38 5,Blk.row [V.str h,V.slice 5 0 N false 0 0,V.bool ch,
 V.bool true,V.int u8 t1] 38 5,Blk.row [V.str wh,V.slice 4 0 wn false 0 0,V.bool w1,V.bool w2,V.int u8 w3] 43 5]else Fits 0 [V.ptr 0 0,V.ptr 1 0,
 V.bool false,V.slice 2 0 on false 0 0,V.ptr 3 0,V.bool was,V.int i64 r,V.ptr 5 0,V.ptr 7 0,V.int i64 0] [ae pl rq h mx co se x1 n1 c1 x2 n2 c2
 x3 n3 c3 ha mo x4 n4 c4 ag,Blk.row [V.str hb,V.lst xb nb cb,V.bool b1,V.bool b2,V.int u8 b3] 38 5,Blk.row oc 72 4,Blk.row [V.str wh,V.slice 4 0 wn false 0
 0,V.bool w1,V.bool w2,V.int u8 w3] 43 5,Blk.row wk 72 4,Blk.row [V.str h,V.slice 6 0 N false 0 0,V.bool ch,V.bool true,V.int u8 t1] 38 5,Blk.row
 (aa 5 cs) 72 4,Blk.row [V.str h,V.slice 8 0 N false 0 0,V.bool ch,V.bool true,V.int u8 t1] 38 5,Blk.row (aa 5 cs) 72 4] [some (V.ptr 0 0),some
 (V.ptr 1 0),some (V.bool false),some (V.slice 2 0 on false 0 0),some (V.ptr 3 0),some (V.bool was),some (V.int i64 r),some (V.ptr 6 0),some (V.ptr 10 0),
 some (V.int i64 0)] [ae pl rq h mx co se x1 n1 c1 x2 n2 c2 x3 n3 c3 ha mo x4 n4 c4 ag,Blk.row [V.str hb,V.lst xb nb cb,V.bool b1,V.bool b2,V.int
 u8 b3] 38 5,Blk.row oc 72 4,Blk.row [V.str wh,V.slice 4 0 wn false 0 0,V.bool w1,V.bool w2,V.int u8 w3] 43 5,Blk.row wk 72 4,Blk.row (aa 5 cs)
 72 4,Blk.row [V.str h,V.slice 5 0 N false 0 0,V.bool ch,V.bool true,V.int u8 t1] 38 5,Blk.row [V.str h,V.slice 9 0 N false 0 0,V.bool ch,V.bool true,
 V.int u8 t1] 38 5,Blk.row [V.str h,V.slice 9 0 N false 0 0,V.bool ch,V.bool true,V.int u8 t1] 38 5,Blk.row (aa 5 cs) 72 4,Blk.row [V.str h,
 V.slice 9 0 N false 0 0,V.bool ch,V.bool true,V.int u8 t1] 38 5,Blk.row [V.str h,V.slice 5 0 N false 0 0,V.bool ch,V.bool true,V.int u8 t1] 38 5,
 Blk.row [V.str wh,V.slice 4 0 wn false 0 0,V.bool w1,V.bool w2,V.int u8 w3] 43 5]∧bif d7 {y:={pl:=pl,rq:=rq,h:=h,mx:=mx,co:=co,se:=se,x1:=x1,n1:=n1,c1:=c1,x2:=x2,n2:=n2,c2:=c2,x3:=x3,n3:=n3,c3:=c3,ha:=ha,mo:=mo,x4:=x4,n4:=n4,c4:=c4,ag:=ag,hb:=hb,xb:=xb,nb:=nb,cb:=cb,b1:=b1,b2:=b2,b3:=b3,on:=on,oc:=oc,wh:=wh,wn:=some wn,wk:=wk,w1:=w1,w2:=w2,w3:=w3,was:=was},r:=r,h:=h,a1:=ch,b1:=true,t1:=t1,N:=N,cs:=aa 5 cs,ds:=aa 5 cs,h':=h,a2:=ch,b2:=true,t2:=t1,i:=0}
 then ∀(j:Int),R Exit.normal [some (V.ptr 0 0),some (V.ptr 1 0),some (V.bool false),some (V.slice 2 0 on false 0 0),some (V.ptr 3 0),some (V.bool was),some
 (V.int i64 (i64.wrap (r+1)))] [ae pl rq h mx co se x1 n1 c1 x2 n2 c2 x3 n3 c3 ha mo x4 n4 c4 ag,Blk.row [V.str hb,V.lst xb nb cb,V.bool b1,
 V.bool b2,V.int u8 b3] 38 5,Blk.row oc 72 4,Blk.row [V.str wh,V.slice 4 0 wn false 0 0,V.bool w1,V.bool w2,V.int u8 w3] 43 5,Blk.row wk 72 4,
 Blk.dead,Blk.dead,Blk.dead,Blk.dead]else False else False else False else False else False else False else bif decide ((↑wn:Int)>0)then bif !true==was then R
 Exit.ret [some (V.ptr 0 0),some (V.ptr 1 0),some (V.bool false),some (V.slice 2 0 on false 0 0),some (V.ptr 3 0),some (V.bool was),some (V.int i64 r)]
 [ae pl rq h mx co se x1 n1 c1 x2 n2 c2 x3 n3 c3 ha mo x4 n4 c4 ag,Blk.row [V.str hb,V.lst xb nb cb,V.bool b1,V.bool b2,V.int u8 b3] 38 5,Blk.row oc 72
 4,Blk.row [V.str wh,V.slice 4 0 wn false 0 0,V.bool w1,V.bool w2,V.int u8 w3] 43 5,Blk.row wk 72 4,Blk.row (aa 5 cs) 72 4,Blk.row [V.str h,V.slice 5
 0 N false 0 0,V.bool ch,V.bool true,V.int u8 t1] 38 5,Blk.row [V.str h,V.slice 9 0 N false 0 0,V.bool ch,V.bool true,V.int u8 t1] 38 5,Blk.row
 [V.str h,V.slice 9 0 N false 0 0,V.bool ch,V.bool true,V.int u8 t1] 38 5,Blk.row (aa 5 cs) 72 4,Blk.row [V.str h,V.slice 9 0 N false 0 0,V.bool ch,
 V.bool true,V.int u8 t1] 38 5,Blk.row [V.str h,V.slice 5 0 N false 0 0,V.bool ch,V.bool true,V.int u8 t1] 38 5,Blk.row [V.str wh,V.slice 4 0 wn
 false 0 0,V.bool w1,V.bool w2,V.int u8 w3] 43 5]else bif VO N (aa 5 cs)&&VO wn wk then bif !SB h (VW N (aa 5 cs)) ch true t1 wh (VW wn wk) w1 w2 w3
 then R Exit.ret [some (V.ptr 0 0),some (V.ptr 1 0),some (V.bool false),some (V.slice 2 0 on false 0 0),some (V.ptr 3 0),some (V.bool was),some (V.int i64
 r)] [ae pl rq h mx co se x1 n1 c1 x2 n2 c2 x3 n3 c3 ha mo x4 n4 c4 ag,Blk.row [V.str hb,V.lst xb nb cb,V.bool b1,V.bool b2,V.int u8 b3] 38 5,Blk.row oc
 72 4,Blk.row [V.str wh,V.slice 4 0 wn false 0 0,V.bool w1,V.bool w2,V.int u8 w3] 43 5,Blk.row wk 72 4,Blk.row (aa 5 cs) 72 4,Blk.row [V.str h,V.slice
 5 0 N false 0 0,V.bool ch,V.bool true,V.int u8 t1] 38 5,Blk.row [V.str h,V.slice 9 0 N false 0 0,V.bool ch,V.bool true,V.int u8 t1] 38 5,Blk.row
 [V.str h,V.slice 9 0 N false 0 0,V.bool ch,V.bool true,V.int u8 t1] 38 5,Blk.row (aa 5 cs) 72 4,Blk.row [V.str h,V.slice 9 0 N false 0 0,V.bool ch,
 V.bool true,V.int u8 t1] 38 5,Blk.row [V.str h,V.slice 5 0 N false 0 0,V.bool ch,V.bool true,V.int u8 t1] 38 5,Blk.row [V.str wh,V.slice 4 0 wn
 false 0 0,V.bool w1,V.bool w2,V.int u8 w3] 43 5]else bif VO N (aa 5 cs)&&VO wn wk then bif !SB h (VW N (aa 5 cs)) ch true t1 wh (VW wn wk) w1 w2 w3
 then R Exit.ret [some (V.ptr 0 0),some (V.ptr 1 0),some (V.bool false),some (V.slice 2 0 on false 0 0),some (V.ptr 3 0),some (V.bool was),some (V.int i64
 r)] [ae pl rq h mx co se x1 n1 c1 x2 n2 c2 x3 n3 c3 ha mo x4 n4 c4 ag,Blk.row [V.str hb,V.lst xb nb cb,V.bool b1,V.bool b2,V.int u8 b3] 38 5,Blk.row oc
 72 4,Blk.row [V.str wh,V.slice 4 0 wn false 0 0,V.bool w1,V.bool w2,V.int u8 w3] 43 5,Blk.row wk 72 4,Blk.row (aa 5 cs) 72 4,Blk.row [V.str h,V.slice
 5 0 N false 0 0,V.bool ch,V.bool true,V.int u8 t1] 38 5,Blk.row [V.str h,V.slice 9 0 N false 0 0,V.bool ch,V.bool true,V.int u8 t1] 38 5,Blk.row
 [V.str h,V.slice 9 0 N false 0 0,V.bool ch,V.bool true,V.int u8 t1] 38 5,Blk.row (aa 5 cs) 72 4,Blk.row [V.str h,V.slice 9 0 N false 0 0,V.bool ch,
 V.bool true,V.int u8 t1] 38 5,Blk.row [V.str h,V.slice 5 0 N false 0 0,V.bool ch,V.bool true,V.int u8 t1] 38 5,Blk.row [V.str wh,V.slice 4 0 wn
 false 0 0,V.bool w1,V.bool w2,V.int u8 w3] 43 5]else bif VO N (aa 5 cs)&&VO nb cb then bif VO wn wk&&VO nb cb then bif !SB h (VW N (aa 5 cs)) ch
 true t1 hb (VW nb cb) b1 b2 b3==SB wh (VW wn wk) w1 w2 w3 hb (VW nb cb) b1 b2 b3 then R Exit.ret [some (V.ptr 0 0),some (V.ptr 1 0),some (V.bool false),some (V.slice
 2 0 on false 0 0),some (V.ptr 3 0),some (V.bool was),some (V.int i64 r)] [ae pl rq h mx co se x1 n1 c1 x2 n2 c2 x3 n3 c3 ha mo x4 n4 c4 ag,Blk.row [V.str
 hb,V.lst xb nb cb,V.bool b1,V.bool b2,V.int u8 b3] 38 5,Blk.row oc 72 4,Blk.row [V.str wh,V.slice 4 0 wn false 0 0,V.bool w1,V.bool w2,V.int u8
 w3] 43 5,Blk.row wk 72 4,Blk.row (aa 5 cs) 72 4,Blk.row [V.str h,V.slice 5 0 N false 0 0,V.bool ch,V.bool true,V.int u8 t1] 38 5,Blk.row [V.str h,
 V.slice 9 0 N false 0 0,V.bool ch,V.bool true,V.int u8 t1] 38 5,Blk.row [V.str h,V.slice 9 0 N false 0 0,V.bool ch,V.bool true,V.int u8 t1] 38 5,
 Blk.row (aa 5 cs) 72 4,Blk.row [V.str h,V.slice 9 0 N false 0 0,V.bool ch,V.bool true,V.int u8 t1] 38 5,Blk.row [V.str h,V.slice 5 0 N false 0 0,
 V.bool ch,V.bool true,V.int u8 t1] 38 5,Blk.row [V.str wh,V.slice 4 0 wn false 0 0,V.bool w1,V.bool w2,V.int u8 w3] 43 5]else bif VO N (aa 5
 cs)&&VO N (aa 5 cs)then bif !SB h (VW N (aa 5 cs)) ch true t1 h (VW N (aa 5 cs)) ch true t1 then R Exit.ret [some (V.ptr 0 0),some (V.ptr 1 0),some
 (V.bool false),some (V.slice 2 0 on false 0 0),some (V.ptr 3 0),some (V.bool was),some (V.int i64 r)] [ae pl rq h mx co se x1 n1 c1 x2 n2 c2 x3 n3 c3 ha
 mo x4 n4 c4 ag,Blk.row [V.str hb,V.lst xb nb cb,V.bool b1,V.bool b2,V.int u8 b3] 38 5,Blk.row oc 72 4,Blk.row [V.str wh,V.slice 4 0 wn false 0 0,V.bool
 w1,V.bool w2,V.int u8 w3] 43 5,Blk.row wk 72 4,Blk.row (aa 5 cs) 72 4,Blk.row [V.str h,V.slice 5 0 N false 0 0,V.bool ch,V.bool true,V.int u8
 t1] 38 5,Blk.row [V.str h,V.slice 9 0 N false 0 0,V.bool ch,V.bool true,V.int u8 t1] 38 5,Blk.row [V.str h,V.slice 9 0 N false 0 0,V.bool ch,V.bool true,
 V.int u8 t1] 38 5,Blk.row (aa 5 cs) 72 4,Blk.row [V.str h,V.slice 9 0 N false 0 0,V.bool ch,V.bool true,V.int u8 t1] 38 5,Blk.row [V.str h,
 V.slice 5 0 N false 0 0,V.bool ch,V.bool true,V.int u8 t1] 38 5,Blk.row [V.str wh,V.slice 4 0 wn false 0 0,V.bool w1,V.bool w2,V.int u8 w3] 43 5]
 else Fits 0 [V.ptr 0 0,V.ptr 1 0,V.bool false,V.slice 2 0 on false 0 0,V.ptr 3 0,V.bool was,V.int i64 r,V.ptr 5 0,V.ptr 7 0,V.int i64 0] [ae
 pl rq h mx co se x1 n1 c1 x2 n2 c2 x3 n3 c3 ha mo x4 n4 c4 ag,Blk.row [V.str hb,V.lst xb nb cb,V.bool b1,V.bool b2,V.int u8 b3] 38 5,Blk.row oc 72 4,
 Blk.row [V.str wh,V.slice 4 0 wn false 0 0,V.bool w1,V.bool w2,V.int u8 w3] 43 5,Blk.row wk 72 4,Blk.row [V.str h,V.slice 6 0 N false 0 0,V.bool ch,
 V.bool true,V.int u8 t1] 38 5,Blk.row (aa 5 cs) 72 4,Blk.row [V.str h,V.slice 8 0 N false 0 0,V.bool ch,V.bool true,V.int u8 t1] 38 5,Blk.row
 (aa 5 cs) 72 4] [some (V.ptr 0 0),some (V.ptr 1 0),some (V.bool false),some (V.slice 2 0 on false 0 0),some (V.ptr 3 0),some (V.bool was),some (V.int
 i64 r),some (V.ptr 6 0),some (V.ptr 10 0),some (V.int i64 0)] [ae pl rq h mx co se x1 n1 c1 x2 n2 c2 x3 n3 c3 ha mo x4 n4 c4 ag,Blk.row [V.str hb,
 V.lst xb nb cb,V.bool b1,V.bool b2,V.int u8 b3] 38 5,Blk.row oc 72 4,Blk.row [V.str wh,V.slice 4 0 wn false 0 0,V.bool w1,V.bool w2,V.int u8 w3]
 43 5,Blk.row wk 72 4,Blk.row (aa 5 cs) 72 4,Blk.row [V.str h,V.slice 5 0 N false 0 0,V.bool ch,V.bool true,V.int u8 t1] 38 5,Blk.row [V.str h,V.slice
 9 0 N false 0 0,V.bool ch,V.bool true,V.int u8 t1] 38 5,Blk.row [V.str h,V.slice 9 0 N false 0 0,V.bool ch,V.bool true,V.int u8 t1] 38 5,Blk.row
 (aa 5 cs) 72 4,Blk.row [V.str h,V.slice 9 0 N false 0 0,V.bool ch,V.bool true,V.int u8 t1] 38 5,Blk.row [V.str h,V.slice 5 0 N false 0 0,V.bool ch,
 V.bool true,V.int u8 t1] 38 5,Blk.row [V.str wh,V.slice 4 0 wn false 0 0,V.bool w1,V.bool w2,V.int u8 w3] 43 5]∧bif d7 {y:={pl:=pl,rq:=rq,h:=h,mx:=mx,co:=co,se:=se,x1:=x1,n1:=n1,c1:=c1,x2:=x2,n2:=n2,c2:=c2,x3:=x3,n3:=n3,c3:=c3,ha:=ha,mo:=mo,x4:=x4,n4:=n4,c4:=c4,ag:=ag,hb:=hb,xb:=xb,nb:=nb,cb:=cb,b1:=b1,b2:=b2,b3:=b3,on:=on,oc:=oc,wh:=wh,wn:=some wn,wk:=wk,w1:=w1,w2:=w2,w3:=w3,was:=was},r:=r,h:=h,a1:=ch,b1:=true,t1:=t1,N:=N,cs:=aa 5 cs,ds:=aa 5 cs,h':=h,a2:=ch,b2:=true,t2:=t1,i:=0}
 then ∀(j:Int),R Exit.normal [some (V.ptr 0 0),some (V.ptr 1 0),some (V.bool false),some (V.slice 2 0 on false 0 0),some (V.ptr 3 0),some (V.bool was),some
 (V.int i64 (i64.wrap (r+1)))] [ae pl rq h mx co se x1 n1 c1 x2 n2 c2 x3 n3 c3 ha mo x4 n4 c4 ag,Blk.row [V.str hb,V.lst xb nb cb,V.bool b1,
 V.bool b2,V.int u8 b3] 38 5,Blk.row oc 72 4,Blk.row [V.str wh,V.slice 4 0 wn false 0 0,V.bool w1,V.bool w2,V.int u8 w3] 43 5,Blk.row wk 72 4,
 Blk.dead,Blk.dead,Blk.dead,Blk.dead]else False else False else False else False else False else False else bif !true==was then R Exit.ret [some (V.ptr 0 0),some
 (V.ptr 1 0),some (V.bool false),some (V.slice 2 0 on false 0 0),some (V.ptr 3 0),some (V.bool was),some (V.int i64 r)] [ae pl rq h mx co se x1 n1 c1 x2
 n2 c2 x3 n3 c3 ha mo x4 n4 c4 ag,Blk.row [V.str hb,V.lst xb nb cb,V.bool b1,V.bool b2,V.int u8 b3] 38 5,Blk.row oc 72 4,Blk.row [V.str wh,V.slice 4 0 wn
 false 0 0,V.bool w1,V.bool w2,V.int u8 w3] 43 5,Blk.row wk 72 4,Blk.row (aa 5 cs) 72 4,Blk.row [V.str h,V.slice 5 0 N false 0 0,V.bool ch,V.bool
 true,V.int u8 t1] 38 5,Blk.row [V.str h,V.slice 9 0 N false 0 0,V.bool ch,V.bool true,V.int u8 t1] 38 5,Blk.row [V.str h,V.slice 9 0 N false 0 0,
 V.bool ch,V.bool true,V.int u8 t1] 38 5,Blk.row (aa 5 cs) 72 4,Blk.row [V.str h,V.slice 9 0 N false 0 0,V.bool ch,V.bool true,V.int u8 t1] 38
 5,Blk.row [V.str h,V.slice 5 0 N false 0 0,V.bool ch,V.bool true,V.int u8 t1] 38 5,Blk.row [V.str wh,V.slice 4 0 wn false 0 0,V.bool w1,V.bool w2,V.int
 u8 w3] 43 5]else bif VO N (aa 5 cs)&&VO wn wk then bif !SB h (VW N (aa 5 cs)) ch true t1 wh (VW wn wk) w1 w2 w3 then R Exit.ret [some (V.ptr 0 0),some
 (V.ptr 1 0),some (V.bool false),some (V.slice 2 0 on false 0 0),some (V.ptr 3 0),some (V.bool was),some (V.int i64 r)] [ae pl rq h mx co se x1 n1 c1 x2
 n2 c2 x3 n3 c3 ha mo x4 n4 c4 ag,Blk.row [V.str hb,V.lst xb nb cb,V.bool b1,V.bool b2,V.int u8 b3] 38 5,Blk.row oc 72 4,Blk.row [V.str wh,V.slice 4 0 wn
 false 0 0,V.bool w1,V.bool w2,V.int u8 w3] 43 5,Blk.row wk 72 4,Blk.row (aa 5 cs) 72 4,Blk.row [V.str h,V.slice 5 0 N false 0 0,V.bool ch,V.bool
 true,V.int u8 t1] 38 5,Blk.row [V.str h,V.slice 9 0 N false 0 0,V.bool ch,V.bool true,V.int u8 t1] 38 5,Blk.row [V.str h,V.slice 9 0 N false 0 0,
 V.bool ch,V.bool true,V.int u8 t1] 38 5,Blk.row (aa 5 cs) 72 4,Blk.row [V.str h,V.slice 9 0 N false 0 0,V.bool ch,V.bool true,V.int u8 t1] 38
 5,Blk.row [V.str h,V.slice 5 0 N false 0 0,V.bool ch,V.bool true,V.int u8 t1] 38 5,Blk.row [V.str wh,V.slice 4 0 wn false 0 0,V.bool w1,V.bool w2,V.int
 u8 w3] 43 5]else bif VO N (aa 5 cs)&&VO wn wk then bif !SB h (VW N (aa 5 cs)) ch true t1 wh (VW wn wk) w1 w2 w3 then R Exit.ret [some (V.ptr 0 0),some
 (V.ptr 1 0),some (V.bool false),some (V.slice 2 0 on false 0 0),some (V.ptr 3 0),some (V.bool was),some (V.int i64 r)] [ae pl rq h mx co se x1 n1 c1 x2
 n2 c2 x3 n3 c3 ha mo x4 n4 c4 ag,Blk.row [V.str hb,V.lst xb nb cb,V.bool b1,V.bool b2,V.int u8 b3] 38 5,Blk.row oc 72 4,Blk.row [V.str wh,V.slice 4 0 wn
 false 0 0,V.bool w1,V.bool w2,V.int u8 w3] 43 5,Blk.row wk 72 4,Blk.row (aa 5 cs) 72 4,Blk.row [V.str h,V.slice 5 0 N false 0 0,V.bool ch,V.bool
 true,V.int u8 t1] 38 5,Blk.row [V.str h,V.slice 9 0 N false 0 0,V.bool ch,V.bool true,V.int u8 t1] 38 5,Blk.row [V.str h,V.slice 9 0 N false 0 0,
 V.bool ch,V.bool true,V.int u8 t1] 38 5,Blk.row (aa 5 cs) 72 4,Blk.row [V.str h,V.slice 9 0 N false 0 0,V.bool ch,V.bool true,V.int u8 t1] 38
 5,Blk.row [V.str h,V.slice 5 0 N false 0 0,V.bool ch,V.bool true,V.int u8 t1] 38 5,Blk.row [V.str wh,V.slice 4 0 wn false 0 0,V.bool w1,V.bool w2,V.int
 u8 w3] 43 5]else bif VO N (aa 5 cs)&&VO nb cb then bif VO wn wk&&VO nb cb then bif !SB h (VW N (aa 5 cs)) ch true t1 hb (VW nb cb) b1 b2 b3==SB wh
 (VW wn wk) w1 w2 w3 hb (VW nb cb) b1 b2 b3 then R Exit.ret [some (V.ptr 0 0),some (V.ptr 1 0),some (V.bool false),some (V.slice 2 0 on false 0 0),some (V.ptr 3 0),
 some (V.bool was),some (V.int i64 r)] [ae pl rq h mx co se x1 n1 c1 x2 n2 c2 x3 n3 c3 ha mo x4 n4 c4 ag,Blk.row [V.str hb,V.lst xb nb cb,V.bool b1,V.bool
 b2,V.int u8 b3] 38 5,Blk.row oc 72 4,Blk.row [V.str wh,V.slice 4 0 wn false 0 0,V.bool w1,V.bool w2,V.int u8 w3] 43 5,Blk.row wk 72 4,Blk.row
 (aa 5 cs) 72 4,Blk.row [V.str h,V.slice 5 0 N false 0 0,V.bool ch,V.bool true,V.int u8 t1] 38 5,Blk.row [V.str h,V.slice 9 0 N false 0 0,V.bool ch,
 V.bool true,V.int u8 t1] 38 5,Blk.row [V.str h,V.slice 9 0 N false 0 0,V.bool ch,V.bool true,V.int u8 t1] 38 5,Blk.row (aa 5 cs) 72 4,Blk.row
 [V.str h,V.slice 9 0 N false 0 0,V.bool ch,V.bool true,V.int u8 t1] 38 5,Blk.row [V.str h,V.slice 5 0 N false 0 0,V.bool ch,V.bool true,V.int u8
 t1] 38 5,Blk.row [V.str wh,V.slice 4 0 wn false 0 0,V.bool w1,V.bool w2,V.int u8 w3] 43 5]else bif VO N (aa 5 cs)&&VO N (aa 5 cs)then bif !SB h
 (VW N (aa 5 cs)) ch true t1 h (VW N (aa 5 cs)) ch true t1 then R Exit.ret [some (V.ptr 0 0),some (V.ptr 1 0),some (V.bool false),some (V.slice 2 0 on false 0
 0),some (V.ptr 3 0),some (V.bool was),some (V.int i64 r)] [ae pl rq h mx co se x1 n1 c1 x2 n2 c2 x3 n3 c3 ha mo x4 n4 c4 ag,Blk.row [V.str hb,V.lst xb nb
 cb,V.bool b1,V.bool b2,V.int u8 b3] 38 5,Blk.row oc 72 4,Blk.row [V.str wh,V.slice 4 0 wn false 0 0,V.bool w1,V.bool w2,V.int u8 w3] 43 5,
 Blk.row wk 72 4,Blk.row (aa 5 cs) 72 4,Blk.row [V.str h,V.slice 5 0 N false 0 0,V.bool ch,V.bool true,V.int u8 t1] 38 5,Blk.row [V.str h,V.slice 9 0 N
 false 0 0,V.bool ch,V.bool true,V.int u8 t1] 38 5,Blk.row [V.str h,V.slice 9 0 N false 0 0,V.bool ch,V.bool true,V.int u8 t1] 38 5,Blk.row
 (aa 5 cs) 72 4,Blk.row [V.str h,V.slice 9 0 N false 0 0,V.bool ch,V.bool true,V.int u8 t1] 38 5,Blk.row [V.str h,V.slice 5 0 N false 0 0,V.bool ch,
 V.bool true,V.int u8 t1] 38 5,Blk.row [V.str wh,V.slice 4 0 wn false 0 0,V.bool w1,V.bool w2,V.int u8 w3] 43 5]else R Exit.ret [some (V.ptr 0 0),
 some (V.ptr 1 0),some (V.bool false),some (V.slice 2 0 on false 0 0),some (V.ptr 3 0),some (V.bool was),some (V.int i64 r)] [ae pl rq h mx co se x1 n1 c1
 x2 n2 c2 x3 n3 c3 ha mo x4 n4 c4 ag,Blk.row [V.str hb,V.lst xb nb cb,V.bool b1,V.bool b2,V.int u8 b3] 38 5,Blk.row oc 72 4,Blk.row [V.str wh,V.slice 4 0
 wn false 0 0,V.bool w1,V.bool w2,V.int u8 w3] 43 5,Blk.row wk 72 4,Blk.row (aa 5 cs) 72 4,Blk.row [V.str h,V.slice 5 0 N false 0 0,V.bool ch,V.bool
 true,V.int u8 t1] 38 5,Blk.row [V.str h,V.slice 9 0 N false 0 0,V.bool ch,V.bool true,V.int u8 t1] 38 5,Blk.row [V.str h,V.slice 9 0 N false 0 0,
 V.bool ch,V.bool true,V.int u8 t1] 38 5,Blk.row (aa 5 cs) 72 4,Blk.row [V.str h,V.slice 9 0 N false 0 0,V.bool ch,V.bool true,V.int u8 t1] 38
 5,Blk.row [V.str h,V.slice 5 0 N false 0 0,V.bool ch,V.bool true,V.int u8 t1] 38 5,Blk.row [V.str wh,V.slice 4 0 wn false 0 0,V.bool w1,V.bool w2,V.int
 u8 w3] 43 5]else False else False else False else False else False else bif w3 !=1 then bif !true==was then R Exit.ret [some (V.ptr 0 0),some (V.ptr 1 0),
 some (V.bool false),some (V.slice 2 0 on false 0 0),some (V.ptr 3 0),some (V.bool was),some (V.int i64 r)] [ae pl rq h mx co se x1 n1 c1 x2 n2 c2 x3 n3 c3
 ha mo x4 n4 c4 ag,Blk.row [V.str hb,V.lst xb nb cb,V.bool b1,V.bool b2,V.int u8 b3] 38 5,Blk.row oc 72 4,Blk.row [V.str wh,V.slice 4 0 wn false 0 0,
 V.bool w1,V.bool w2,V.int u8 w3] 43 5,Blk.row wk 72 4,Blk.row (aa 5 cs) 72 4,Blk.row [V.str h,V.slice 5 0 N false 0 0,V.bool ch,V.bool true,V.int
 u8 t1] 38 5,Blk.row [V.str h,V.slice 9 0 N false 0 0,V.bool ch,V.bool true,V.int u8 t1] 38 5,Blk.row [V.str h,V.slice 9 0 N false 0 0,V.bool ch,
 V.bool true,V.int u8 t1] 38 5,Blk.row (aa 5 cs) 72 4,Blk.row [V.str h,V.slice 9 0 N false 0 0,V.bool ch,V.bool true,V.int u8 t1] 38 5,Blk.row
 [V.str h,V.slice 5 0 N false 0 0,V.bool ch,V.bool true,V.int u8 t1] 38 5,Blk.row [V.str wh,V.slice 4 0 wn false 0 0,V.bool w1,V.bool w2,V.int u8
 w3] 43 5]else bif VO N (aa 5 cs)&&VO wn wk then bif !SB h (VW N (aa 5 cs)) ch true t1 wh (VW wn wk) w1 w2 w3 then R Exit.ret [some (V.ptr 0 0),some (V.ptr 1
 0),some (V.bool false),some (V.slice 2 0 on false 0 0),some (V.ptr 3 0),some (V.bool was),some (V.int i64 r)] [ae pl rq h mx co se x1 n1 c1 x2 n2 c2 x3
 n3 c3 ha mo x4 n4 c4 ag,Blk.row [V.str hb,V.lst xb nb cb,V.bool b1,V.bool b2,V.int u8 b3] 38 5,Blk.row oc 72 4,Blk.row [V.str wh,V.slice 4 0 wn false 0 0,
 V.bool w1,V.bool w2,V.int u8 w3] 43 5,Blk.row wk 72 4,Blk.row (aa 5 cs) 72 4,Blk.row [V.str h,V.slice 5 0 N false 0 0,V.bool ch,V.bool true,V.int
 u8 t1] 38 5,Blk.row [V.str h,V.slice 9 0 N false 0 0,V.bool ch,V.bool true,V.int u8 t1] 38 5,Blk.row [V.str h,V.slice 9 0 N false 0 0,V.bool ch,
 V.bool true,V.int u8 t1] 38 5,Blk.row (aa 5 cs) 72 4,Blk.row [V.str h,V.slice 9 0 N false 0 0,V.bool ch,V.bool true,V.int u8 t1] 38 5,Blk.row
 [V.str h,V.slice 5 0 N false 0 0,V.bool ch,V.bool true,V.int u8 t1] 38 5,Blk.row [V.str wh,V.slice 4 0 wn false 0 0,V.bool w1,V.bool w2,V.int u8
 w3] 43 5]else bif VO N (aa 5 cs)&&VO wn wk then bif !SB h (VW N (aa 5 cs)) ch true t1 wh (VW wn wk) w1 w2 w3 then R Exit.ret [some (V.ptr 0 0),some (V.ptr 1
 0),some (V.bool false),some (V.slice 2 0 on false 0 0),some (V.ptr 3 0),some (V.bool was),some (V.int i64 r)] [ae pl rq h mx co se x1 n1 c1 x2 n2 c2 x3
 n3 c3 ha mo x4 n4 c4 ag,Blk.row [V.str hb,V.lst xb nb cb,V.bool b1,V.bool b2,V.int u8 b3] 38 5,Blk.row oc 72 4,Blk.row [V.str wh,V.slice 4 0 wn false 0 0,
 V.bool w1,V.bool w2,V.int u8 w3] 43 5,Blk.row wk 72 4,Blk.row (aa 5 cs) 72 4,Blk.row [V.str h,V.slice 5 0 N false 0 0,V.bool ch,V.bool true,V.int
 u8 t1] 38 5,Blk.row [V.str h,V.slice 9 0 N false 0 0,V.bool ch,V.bool true,V.int u8 t1] 38 5,Blk.row [V.str h,V.slice 9 0 N false 0 0,V.bool ch,
 V.bool true,V.int u8 t1] 38 5,Blk.row (aa 5 cs) 72 4,Blk.row [V.str h,V.slice 9 0 N false 0 0,V.bool ch,V.bool true,V.int u8 t1] 38 5,Blk.row
 [V.str h,V.slice 5 0 N false 0 0,V.bool ch,V.bool true,V.int u8 t1] 38 5,Blk.row [V.str wh,V.slice 4 0 wn false 0 0,V.bool w1,V.bool w2,V.int u8
 w3] 43 5]else bif VO N (aa 5 cs)&&VO nb cb then bif VO wn wk&&VO nb cb then bif !SB h (VW N (aa 5 cs)) ch true t1 hb (VW nb cb) b1 b2 b3==SB wh (VW wn wk)
 w1 w2 w3 hb (VW nb cb) b1 b2 b3 then R Exit.ret [some (V.ptr 0 0),some (V.ptr 1 0),some (V.bool false),some (V.slice 2 0 on false 0 0),some (V.ptr 3 0),some (V.bool
 was),some (V.int i64 r)] [ae pl rq h mx co se x1 n1 c1 x2 n2 c2 x3 n3 c3 ha mo x4 n4 c4 ag,Blk.row [V.str hb,V.lst xb nb cb,V.bool b1,V.bool b2,V.int
 u8 b3] 38 5,Blk.row oc 72 4,Blk.row [V.str wh,V.slice 4 0 wn false 0 0,V.bool w1,V.bool w2,V.int u8 w3] 43 5,Blk.row wk 72 4,Blk.row (aa 5 cs)
 72 4,Blk.row [V.str h,V.slice 5 0 N false 0 0,V.bool ch,V.bool true,V.int u8 t1] 38 5,Blk.row [V.str h,V.slice 9 0 N false 0 0,V.bool ch,V.bool true,
 V.int u8 t1] 38 5,Blk.row [V.str h,V.slice 9 0 N false 0 0,V.bool ch,V.bool true,V.int u8 t1] 38 5,Blk.row (aa 5 cs) 72 4,Blk.row [V.str h,
 V.slice 9 0 N false 0 0,V.bool ch,V.bool true,V.int u8 t1] 38 5,Blk.row [V.str h,V.slice 5 0 N false 0 0,V.bool ch,V.bool true,V.int u8 t1] 38 5,
 Blk.row [V.str wh,V.slice 4 0 wn false 0 0,V.bool w1,V.bool w2,V.int u8 w3] 43 5]else bif VO N (aa 5 cs)&&VO N (aa 5 cs)then bif !SB h (VW N
 (aa 5 cs)) ch true t1 h (VW N (aa 5 cs)) ch true t1 then R Exit.ret [some (V.ptr 0 0),some (V.ptr 1 0),some (V.bool false),some (V.slice 2 0 on false 0 0),
 some (V.ptr 3 0),some (V.bool was),some (V.int i64 r)] [ae pl rq h mx co se x1 n1 c1 x2 n2 c2 x3 n3 c3 ha mo x4 n4 c4 ag,Blk.row [V.str hb,V.lst xb nb cb,
 V.bool b1,V.bool b2,V.int u8 b3] 38 5,Blk.row oc 72 4,Blk.row [V.str wh,V.slice 4 0 wn false 0 0,V.bool w1,V.bool w2,V.int u8 w3] 43 5,Blk.row wk
 72 4,Blk.row (aa 5 cs) 72 4,Blk.row [V.str h,V.slice 5 0 N false 0 0,V.bool ch,V.bool true,V.int u8 t1] 38 5,Blk.row [V.str h,V.slice 9 0 N false 0 0,
 V.bool ch,V.bool true,V.int u8 t1] 38 5,Blk.row [V.str h,V.slice 9 0 N false 0 0,V.bool ch,V.bool true,V.int u8 t1] 38 5,Blk.row (aa 5 cs) 72
 4,Blk.row [V.str h,V.slice 9 0 N false 0 0,V.bool ch,V.bool true,V.int u8 t1] 38 5,Blk.row [V.str h,V.slice 5 0 N false 0 0,V.bool ch,V.bool true,V.int
 u8 t1] 38 5,Blk.row [V.str wh,V.slice 4 0 wn false 0 0,V.bool w1,V.bool w2,V.int u8 w3] 43 5]else Fits 0 [V.ptr 0 0,V.ptr 1 0,V.bool false,
 V.slice 2 0 on false 0 0,V.ptr 3 0,V.bool was,V.int i64 r,V.ptr 5 0,V.ptr 7 0,V.int i64 0] [ae pl rq h mx co se x1 n1 c1 x2 n2 c2 x3 n3 c3 ha mo
 x4 n4 c4 ag,Blk.row [V.str hb,V.lst xb nb cb,V.bool b1,V.bool b2,V.int u8 b3] 38 5,Blk.row oc 72 4,Blk.row [V.str wh,V.slice 4 0 wn false 0 0,V.bool w1,
 V.bool w2,V.int u8 w3] 43 5,Blk.row wk 72 4,Blk.row [V.str h,V.slice 6 0 N false 0 0,V.bool ch,V.bool true,V.int u8 t1] 38 5,Blk.row (aa 5 cs)
 72 4,Blk.row [V.str h,V.slice 8 0 N false 0 0,V.bool ch,V.bool true,V.int u8 t1] 38 5,Blk.row (aa 5 cs) 72 4] [some (V.ptr 0 0),some (V.ptr 1 0),some
 (V.bool false),some (V.slice 2 0 on false 0 0),some (V.ptr 3 0),some (V.bool was),some (V.int i64 r),some (V.ptr 6 0),some (V.ptr 10 0),some (V.int
 i64 0)] [ae pl rq h mx co se x1 n1 c1 x2 n2 c2 x3 n3 c3 ha mo x4 n4 c4 ag,Blk.row [V.str hb,V.lst xb nb cb,V.bool b1,V.bool b2,V.int u8 b3] 38 5,
 Blk.row oc 72 4,Blk.row [V.str wh,V.slice 4 0 wn false 0 0,V.bool w1,V.bool w2,V.int u8 w3] 43 5,Blk.row wk 72 4,Blk.row (aa 5 cs) 72 4,Blk.row [V.str
 h,V.slice 5 0 N false 0 0,V.bool ch,V.bool true,V.int u8 t1] 38 5,Blk.row [V.str h,V.slice 9 0 N false 0 0,V.bool ch,V.bool true,V.int u8 t1] 38
 5,Blk.row [V.str h,V.slice 9 0 N false 0 0,V.bool ch,V.bool true,V.int u8 t1] 38 5,Blk.row (aa 5 cs) 72 4,Blk.row [V.str h,V.slice 9 0 N false 0 0,
 V.bool ch,V.bool true,V.int u8 t1] 38 5,Blk.row [V.str h,V.slice 5 0 N false 0 0,V.bool ch,V.bool true,V.int u8 t1] 38 5,Blk.row [V.str wh,
 V.slice 4 0 wn false 0 0,V.bool w1,V.bool w2,V.int u8 w3] 43 5]∧bif d7 {y:={pl:=pl,rq:=rq,h:=h,mx:=mx,co:=co,se:=se,x1:=x1,n1:=n1,c1:=c1,x2:=x2,n2:=n2,c2:=c2,x3:=x3,n3:=n3,c3:=c3,ha:=ha,mo:=mo,x4:=x4,n4:=n4,c4:=c4,ag:=ag,hb:=hb,xb:=xb,nb:=nb,cb:=cb,b1:=b1,b2:=b2,b3:=b3,on:=on,oc:=oc,wh:=wh,wn:=some wn,wk:=wk,w1:=w1,w2:=w2,w3:=w3,was:=was},r:=r,h:=h,a1:=ch,b1:=true,t1:=t1,N:=N,cs:=aa 5 cs,ds:=aa 5 cs,h':=h,a2:=ch,b2:=true,t2:=t1,i:=0}
 then ∀(j:Int),R Exit.normal [some (V.ptr 0 0),some (V.ptr 1 0),some (V.bool false),some (V.slice 2 0 on false 0 0),some (V.ptr 3 0),some (V.bool was),some
 (V.int i64 (i64.wrap (r+1)))] [ae pl rq h mx co se x1 n1 c1 x2 n2 c2 x3 n3 c3 ha mo x4 n4 c4 ag,Blk.row [V.str hb,V.lst xb nb cb,V.bool b1,
 V.bool b2,V.int u8 b3] 38 5,Blk.row oc 72 4,Blk.row [V.str wh,V.slice 4 0 wn false 0 0,V.bool w1,V.bool w2,V.int u8 w3] 43 5,Blk.row wk 72 4,
 Blk.dead,Blk.dead,Blk.dead,Blk.dead]else False else False else False else False else False else False else bif decide ((↑wn:Int)>0)then bif !true==was then R
 Exit.ret [some (V.ptr 0 0),some (V.ptr 1 0),some (V.bool false),some (V.slice 2 0 on false 0 0),some (V.ptr 3 0),some (V.bool was),some (V.int i64 r)]
 [ae pl rq h mx co se x1 n1 c1 x2 n2 c2 x3 n3 c3 ha mo x4 n4 c4 ag,Blk.row [V.str hb,V.lst xb nb cb,V.bool b1,V.bool b2,V.int u8 b3] 38 5,Blk.row oc 72
 4,Blk.row [V.str wh,V.slice 4 0 wn false 0 0,V.bool w1,V.bool w2,V.int u8 w3] 43 5,Blk.row wk 72 4,Blk.row (aa 5 cs) 72 4,Blk.row [V.str h,V.slice 5
 0 N false 0 0,V.bool ch,V.bool true,V.int u8 t1] 38 5,Blk.row [V.str h,V.slice 9 0 N false 0 0,V.bool ch,V.bool true,V.int u8 t1] 38 5,Blk.row
 [V.str h,V.slice 9 0 N false 0 0,V.bool ch,V.bool true,V.int u8 t1] 38 5,Blk.row (aa 5 cs) 72 4,Blk.row [V.str h,V.slice 9 0 N false 0 0,V.bool ch,
 V.bool true,V.int u8 t1] 38 5,Blk.row [V.str h,V.slice 5 0 N false 0 0,V.bool ch,V.bool true,V.int u8 t1] 38 5,Blk.row [V.str wh,V.slice 4 0 wn
 false 0 0,V.bool w1,V.bool w2,V.int u8 w3] 43 5]else bif VO N (aa 5 cs)&&VO wn wk then bif !SB h (VW N (aa 5 cs)) ch true t1 wh (VW wn wk) w1 w2 w3
 then R Exit.ret [some (V.ptr 0 0),some (V.ptr 1 0),some (V.bool false),some (V.slice 2 0 on false 0 0),some (V.ptr 3 0),some (V.bool was),some (V.int i64
 r)] [ae pl rq h mx co se x1 n1 c1 x2 n2 c2 x3 n3 c3 ha mo x4 n4 c4 ag,Blk.row [V.str hb,V.lst xb nb cb,V.bool b1,V.bool b2,V.int u8 b3] 38 5,Blk.row oc
 72 4,Blk.row [V.str wh,V.slice 4 0 wn false 0 0,V.bool w1,V.bool w2,V.int u8 w3] 43 5,Blk.row wk 72 4,Blk.row (aa 5 cs) 72 4,Blk.row [V.str h,V.slice
 5 0 N false 0 0,V.bool ch,V.bool true,V.int u8 t1] 38 5,Blk.row [V.str h,V.slice 9 0 N false 0 0,V.bool ch,V.bool true,V.int u8 t1] 38 5,Blk.row
 [V.str h,V.slice 9 0 N false 0 0,V.bool ch,V.bool true,V.int u8 t1] 38 5,Blk.row (aa 5 cs) 72 4,Blk.row [V.str h,V.slice 9 0 N false 0 0,V.bool ch,
 V.bool true,V.int u8 t1] 38 5,Blk.row [V.str h,V.slice 5 0 N false 0 0,V.bool ch,V.bool true,V.int u8 t1] 38 5,Blk.row [V.str wh,V.slice 4 0 wn
 false 0 0,V.bool w1,V.bool w2,V.int u8 w3] 43 5]else bif VO N (aa 5 cs)&&VO wn wk then bif !SB h (VW N (aa 5 cs)) ch true t1 wh (VW wn wk) w1 w2 w3
 then R Exit.ret [some (V.ptr 0 0),some (V.ptr 1 0),some (V.bool false),some (V.slice 2 0 on false 0 0),some (V.ptr 3 0),some (V.bool was),some (V.int i64
 r)] [ae pl rq h mx co se x1 n1 c1 x2 n2 c2 x3 n3 c3 ha mo x4 n4 c4 ag,Blk.row [V.str hb,V.lst xb nb cb,V.bool b1,V.bool b2,V.int u8 b3] 38 5,Blk.row oc
 72 4,Blk.row [V.str wh,V.slice 4 0 wn false 0 0,V.bool w1,V.bool w2,V.int u8 w3] 43 5,Blk.row wk 72 4,Blk.row (aa 5 cs) 72 4,Blk.row [V.str h,V.slice
 5 0 N false 0 0,V.bool ch,V.bool true,V.int u8 t1] 38 5,Blk.row [V.str h,V.slice 9 0 N false 0 0,V.bool ch,V.bool true,V.int u8 t1] 38 5,Blk.row
 [V.str h,V.slice 9 0 N false 0 0,V.bool ch,V.bool true,V.int u8 t1] 38 5,Blk.row (aa 5 cs) 72 4,Blk.row [V.str h,V.slice 9 0 N false 0 0,V.bool ch,
 V.bool true,V.int u8 t1] 38 5,Blk.row [V.str h,V.slice 5 0 N false 0 0,V.bool ch,V.bool true,V.int u8 t1] 38 5,Blk.row [V.str wh,V.slice 4 0 wn
 false 0 0,V.bool w1,V.bool w2,V.int u8 w3] 43 5]else bif VO N (aa 5 cs)&&VO nb cb then bif VO wn wk&&VO nb cb then bif !SB h (VW N (aa 5 cs)) ch
 true t1 hb (VW nb cb) b1 b2 b3==SB wh (VW wn wk) w1 w2 w3 hb (VW nb cb) b1 b2 b3 then R Exit.ret [some (V.ptr 0 0),some (V.ptr 1 0),some (V.bool false),some (V.slice
 2 0 on false 0 0),some (V.ptr 3 0),some (V.bool was),some (V.int i64 r)] [ae pl rq h mx co se x1 n1 c1 x2 n2 c2 x3 n3 c3 ha mo x4 n4 c4 ag,Blk.row [V.str
 hb,V.lst xb nb cb,V.bool b1,V.bool b2,V.int u8 b3] 38 5,Blk.row oc 72 4,Blk.row [V.str wh,V.slice 4 0 wn false 0 0,V.bool w1,V.bool w2,V.int u8
 w3] 43 5,Blk.row wk 72 4,Blk.row (aa 5 cs) 72 4,Blk.row [V.str h,V.slice 5 0 N false 0 0,V.bool ch,V.bool true,V.int u8 t1] 38 5,Blk.row [V.str h,
 V.slice 9 0 N false 0 0,V.bool ch,V.bool true,V.int u8 t1] 38 5,Blk.row [V.str h,V.slice 9 0 N false 0 0,V.bool ch,V.bool true,V.int u8 t1] 38 5,
 Blk.row (aa 5 cs) 72 4,Blk.row [V.str h,V.slice 9 0 N false 0 0,V.bool ch,V.bool true,V.int u8 t1] 38 5,Blk.row [V.str h,V.slice 5 0 N false 0 0,
 V.bool ch,V.bool true,V.int u8 t1] 38 5,Blk.row [V.str wh,V.slice 4 0 wn false 0 0,V.bool w1,V.bool w2,V.int u8 w3] 43 5]else bif VO N (aa 5
 cs)&&VO N (aa 5 cs)then bif !SB h (VW N (aa 5 cs)) ch true t1 h (VW N (aa 5 cs)) ch true t1 then R Exit.ret [some (V.ptr 0 0),some (V.ptr 1 0),some
 (V.bool false),some (V.slice 2 0 on false 0 0),some (V.ptr 3 0),some (V.bool was),some (V.int i64 r)] [ae pl rq h mx co se x1 n1 c1 x2 n2 c2 x3 n3 c3 ha
 mo x4 n4 c4 ag,Blk.row [V.str hb,V.lst xb nb cb,V.bool b1,V.bool b2,V.int u8 b3] 38 5,Blk.row oc 72 4,Blk.row [V.str wh,V.slice 4 0 wn false 0 0,V.bool
 w1,V.bool w2,V.int u8 w3] 43 5,Blk.row wk 72 4,Blk.row (aa 5 cs) 72 4,Blk.row [V.str h,V.slice 5 0 N false 0 0,V.bool ch,V.bool true,V.int u8
 t1] 38 5,Blk.row [V.str h,V.slice 9 0 N false 0 0,V.bool ch,V.bool true,V.int u8 t1] 38 5,Blk.row [V.str h,V.slice 9 0 N false 0 0,V.bool ch,V.bool true,
 V.int u8 t1] 38 5,Blk.row (aa 5 cs) 72 4,Blk.row [V.str h,V.slice 9 0 N false 0 0,V.bool ch,V.bool true,V.int u8 t1] 38 5,Blk.row [V.str h,
 V.slice 5 0 N false 0 0,V.bool ch,V.bool true,V.int u8 t1] 38 5,Blk.row [V.str wh,V.slice 4 0 wn false 0 0,V.bool w1,V.bool w2,V.int u8 w3] 43 5]
 else Fits 0 [V.ptr 0 0,V.ptr 1 0,V.bool false,V.slice 2 0 on false 0 0,V.ptr 3 0,V.bool was,V.int i64 r,V.ptr 5 0,V.ptr 7 0,V.int i64 0] [ae
 pl rq h mx co se x1 n1 c1 x2 n2 c2 x3 n3 c3 ha mo x4 n4 c4 ag,Blk.row [V.str hb,V.lst xb nb cb,V.bool b1,V.bool b2,V.int u8 b3] 38 5,Blk.row oc 72 4,
 Blk.row [V.str wh,V.slice 4 0 wn false 0 0,V.bool w1,V.bool w2,V.int u8 w3] 43 5,Blk.row wk 72 4,Blk.row [V.str h,V.slice 6 0 N false 0 0,V.bool ch,
 V.bool true,V.int u8 t1] 38 5,Blk.row (aa 5 cs) 72 4,Blk.row [V.str h,V.slice 8 0 N false 0 0,V.bool ch,V.bool true,V.int u8 t1] 38 5,Blk.row
 (aa 5 cs) 72 4] [some (V.ptr 0 0),some (V.ptr 1 0),some (V.bool false),some (V.slice 2 0 on false 0 0),some (V.ptr 3 0),some (V.bool was),some (V.int
 i64 r),some (V.ptr 6 0),some (V.ptr 10 0),some (V.int i64 0)] [ae pl rq h mx co se x1 n1 c1 x2 n2 c2 x3 n3 c3 ha mo x4 n4 c4 ag,Blk.row [V.str hb,
 V.lst xb nb cb,V.bool b1,V.bool b2,V.int u8 b3] 38 5,Blk.row oc 72 4,Blk.row [V.str wh,V.slice 4 0 wn false 0 0,V.bool w1,V.bool w2,V.int u8 w3]
 43 5,Blk.row wk 72 4,Blk.row (aa 5 cs) 72 4,Blk.row [V.str h,V.slice 5 0 N false 0 0,V.bool ch,V.bool true,V.int u8 t1] 38 5,Blk.row [V.str h,V.slice
 9 0 N false 0 0,V.bool ch,V.bool true,V.int u8 t1] 38 5,Blk.row [V.str h,V.slice 9 0 N false 0 0,V.bool ch,V.bool true,V.int u8 t1] 38 5,Blk.row
 (aa 5 cs) 72 4,Blk.row [V.str h,V.slice 9 0 N false 0 0,V.bool ch,V.bool true,V.int u8 t1] 38 5,Blk.row [V.str h,V.slice 5 0 N false 0 0,V.bool ch,
 V.bool true,V.int u8 t1] 38 5,Blk.row [V.str wh,V.slice 4 0 wn false 0 0,V.bool w1,V.bool w2,V.int u8 w3] 43 5]∧bif d7 {y:={pl:=pl,rq:=rq,h:=h,mx:=mx,co:=co,se:=se,x1:=x1,n1:=n1,c1:=c1,x2:=x2,n2:=n2,c2:=c2,x3:=x3,n3:=n3,c3:=c3,ha:=ha,mo:=mo,x4:=x4,n4:=n4,c4:=c4,ag:=ag,hb:=hb,xb:=xb,nb:=nb,cb:=cb,b1:=b1,b2:=b2,b3:=b3,on:=on,oc:=oc,wh:=wh,wn:=some wn,wk:=wk,w1:=w1,w2:=w2,w3:=w3,was:=was},r:=r,h:=h,a1:=ch,b1:=true,t1:=t1,N:=N,cs:=aa 5 cs,ds:=aa 5 cs,h':=h,a2:=ch,b2:=true,t2:=t1,i:=0}
 then ∀(j:Int),R Exit.normal [some (V.ptr 0 0),some (V.ptr 1 0),some (V.bool false),some (V.slice 2 0 on false 0 0),some (V.ptr 3 0),some (V.bool was),some
 (V.int i64 (i64.wrap (r+1)))] [ae pl rq h mx co se x1 n1 c1 x2 n2 c2 x3 n3 c3 ha mo x4 n4 c4 ag,Blk.row [V.str hb,V.lst xb nb cb,V.bool b1,
 V.bool b2,V.int u8 b3] 38 5,Blk.row oc 72 4,Blk.row [V.str wh,V.slice 4 0 wn false 0 0,V.bool w1,V.bool w2,V.int u8 w3] 43 5,Blk.row wk 72 4,
 Blk.dead,Blk.dead,Blk.dead,Blk.dead]else False else False else False else False else False else False else bif !true==was then R Exit.ret [some (V.ptr 0 0),some
 (V.ptr 1 0),some (V.bool false),some (V.slice 2 0 on false 0 0),some (V.ptr 3 0),some (V.bool was),some (V.int i64 r)] [ae pl rq h mx co se x1 n1 c1 x2
 n2 c2 x3 n3 c3 ha mo x4 n4 c4 ag,Blk.row [V.str hb,V.lst xb nb cb,V.bool b1,V.bool b2,V.int u8 b3] 38 5,Blk.row oc 72 4,Blk.row [V.str wh,V.slice 4 0 wn
 false 0 0,V.bool w1,V.bool w2,V.int u8 w3] 43 5,Blk.row wk 72 4,Blk.row (aa 5 cs) 72 4,Blk.row [V.str h,V.slice 5 0 N false 0 0,V.bool ch,V.bool
 true,V.int u8 t1] 38 5,Blk.row [V.str h,V.slice 9 0 N false 0 0,V.bool ch,V.bool true,V.int u8 t1] 38 5,Blk.row [V.str h,V.slice 9 0 N false 0 0,
 V.bool ch,V.bool true,V.int u8 t1] 38 5,Blk.row (aa 5 cs) 72 4,Blk.row [V.str h,V.slice 9 0 N false 0 0,V.bool ch,V.bool true,V.int u8 t1] 38
 5,Blk.row [V.str h,V.slice 5 0 N false 0 0,V.bool ch,V.bool true,V.int u8 t1] 38 5,Blk.row [V.str wh,V.slice 4 0 wn false 0 0,V.bool w1,V.bool w2,V.int
 u8 w3] 43 5]else bif VO N (aa 5 cs)&&VO wn wk then bif !SB h (VW N (aa 5 cs)) ch true t1 wh (VW wn wk) w1 w2 w3 then R Exit.ret [some (V.ptr 0 0),some
 (V.ptr 1 0),some (V.bool false),some (V.slice 2 0 on false 0 0),some (V.ptr 3 0),some (V.bool was),some (V.int i64 r)] [ae pl rq h mx co se x1 n1 c1 x2
 n2 c2 x3 n3 c3 ha mo x4 n4 c4 ag,Blk.row [V.str hb,V.lst xb nb cb,V.bool b1,V.bool b2,V.int u8 b3] 38 5,Blk.row oc 72 4,Blk.row [V.str wh,V.slice 4 0 wn
 false 0 0,V.bool w1,V.bool w2,V.int u8 w3] 43 5,Blk.row wk 72 4,Blk.row (aa 5 cs) 72 4,Blk.row [V.str h,V.slice 5 0 N false 0 0,V.bool ch,V.bool
 true,V.int u8 t1] 38 5,Blk.row [V.str h,V.slice 9 0 N false 0 0,V.bool ch,V.bool true,V.int u8 t1] 38 5,Blk.row [V.str h,V.slice 9 0 N false 0 0,
 V.bool ch,V.bool true,V.int u8 t1] 38 5,Blk.row (aa 5 cs) 72 4,Blk.row [V.str h,V.slice 9 0 N false 0 0,V.bool ch,V.bool true,V.int u8 t1] 38
 5,Blk.row [V.str h,V.slice 5 0 N false 0 0,V.bool ch,V.bool true,V.int u8 t1] 38 5,Blk.row [V.str wh,V.slice 4 0 wn false 0 0,V.bool w1,V.bool w2,V.int
 u8 w3] 43 5]else bif VO N (aa 5 cs)&&VO wn wk then bif !SB h (VW N (aa 5 cs)) ch true t1 wh (VW wn wk) w1 w2 w3 then R Exit.ret [some (V.ptr 0 0),some
 (V.ptr 1 0),some (V.bool false),some (V.slice 2 0 on false 0 0),some (V.ptr 3 0),some (V.bool was),some (V.int i64 r)] [ae pl rq h mx co se x1 n1 c1 x2
 n2 c2 x3 n3 c3 ha mo x4 n4 c4 ag,Blk.row [V.str hb,V.lst xb nb cb,V.bool b1,V.bool b2,V.int u8 b3] 38 5,Blk.row oc 72 4,Blk.row [V.str wh,V.slice 4 0 wn
 false 0 0,V.bool w1,V.bool w2,V.int u8 w3] 43 5,Blk.row wk 72 4,Blk.row (aa 5 cs) 72 4,Blk.row [V.str h,V.slice 5 0 N false 0 0,V.bool ch,V.bool
 true,V.int u8 t1] 38 5,Blk.row [V.str h,V.slice 9 0 N false 0 0,V.bool ch,V.bool true,V.int u8 t1] 38 5,Blk.row [V.str h,V.slice 9 0 N false 0 0,
 V.bool ch,V.bool true,V.int u8 t1] 38 5,Blk.row (aa 5 cs) 72 4,Blk.row [V.str h,V.slice 9 0 N false 0 0,V.bool ch,V.bool true,V.int u8 t1] 38
 5,Blk.row [V.str h,V.slice 5 0 N false 0 0,V.bool ch,V.bool true,V.int u8 t1] 38 5,Blk.row [V.str wh,V.slice 4 0 wn false 0 0,V.bool w1,V.bool w2,V.int
 u8 w3] 43 5]else bif VO N (aa 5 cs)&&VO nb cb then bif VO wn wk&&VO nb cb then bif !SB h (VW N (aa 5 cs)) ch true t1 hb (VW nb cb) b1 b2 b3==SB wh
 (VW wn wk) w1 w2 w3 hb (VW nb cb) b1 b2 b3 then R Exit.ret [some (V.ptr 0 0),some (V.ptr 1 0),some (V.bool false),some (V.slice 2 0 on false 0 0),some (V.ptr 3 0),
 some (V.bool was),some (V.int i64 r)] [ae pl rq h mx co se x1 n1 c1 x2 n2 c2 x3 n3 c3 ha mo x4 n4 c4 ag,Blk.row [V.str hb,V.lst xb nb cb,V.bool b1,V.bool
 b2,V.int u8 b3] 38 5,Blk.row oc 72 4,Blk.row [V.str wh,V.slice 4 0 wn false 0 0,V.bool w1,V.bool w2,V.int u8 w3] 43 5,Blk.row wk 72 4,Blk.row
 (aa 5 cs) 72 4,Blk.row [V.str h,V.slice 5 0 N false 0 0,V.bool ch,V.bool true,V.int u8 t1] 38 5,Blk.row [V.str h,V.slice 9 0 N false 0 0,V.bool ch,
 V.bool true,V.int u8 t1] 38 5,Blk.row [V.str h,V.slice 9 0 N false 0 0,V.bool ch,V.bool true,V.int u8 t1] 38 5,Blk.row (aa 5 cs) 72 4,Blk.row
 [V.str h,V.slice 9 0 N false 0 0,V.bool ch,V.bool true,V.int u8 t1] 38 5,Blk.row [V.str h,V.slice 5 0 N false 0 0,V.bool ch,V.bool true,V.int u8
 t1] 38 5,Blk.row [V.str wh,V.slice 4 0 wn false 0 0,V.bool w1,V.bool w2,V.int u8 w3] 43 5]else bif VO N (aa 5 cs)&&VO N (aa 5 cs)then bif !SB h
 (VW N (aa 5 cs)) ch true t1 h (VW N (aa 5 cs)) ch true t1 then R Exit.ret [some (V.ptr 0 0),some (V.ptr 1 0),some (V.bool false),some (V.slice 2 0 on false 0
 0),some (V.ptr 3 0),some (V.bool was),some (V.int i64 r)] [ae pl rq h mx co se x1 n1 c1 x2 n2 c2 x3 n3 c3 ha mo x4 n4 c4 ag,Blk.row [V.str hb,V.lst xb nb
 cb,V.bool b1,V.bool b2,V.int u8 b3] 38 5,Blk.row oc 72 4,Blk.row [V.str wh,V.slice 4 0 wn false 0 0,V.bool w1,V.bool w2,V.int u8 w3] 43 5,
 Blk.row wk 72 4,Blk.row (aa 5 cs) 72 4,Blk.row [V.str h,V.slice 5 0 N false 0 0,V.bool ch,V.bool true,V.int u8 t1] 38 5,Blk.row [V.str h,V.slice 9 0 N
 false 0 0,V.bool ch,V.bool true,V.int u8 t1] 38 5,Blk.row [V.str h,V.slice 9 0 N false 0 0,V.bool ch,V.bool true,V.int u8 t1] 38 5,Blk.row
 (aa 5 cs) 72 4,Blk.row [V.str h,V.slice 9 0 N false 0 0,V.bool ch,V.bool true,V.int u8 t1] 38 5,Blk.row [V.str h,V.slice 5 0 N false 0 0,V.bool ch,
 V.bool true,V.int u8 t1] 38 5,Blk.row [V.str wh,V.slice 4 0 wn false 0 0,V.bool w1,V.bool w2,V.int u8 w3] 43 5]else R Exit.ret [some (V.ptr 0 0),
 some (V.ptr 1 0),some (V.bool false),some (V.slice 2 0 on false 0 0),some (V.ptr 3 0),some (V.bool was),some (V.int i64 r)] [ae pl rq h mx co se x1 n1 c1
 x2 n2 c2 x3 n3 c3 ha mo x4 n4 c4 ag,Blk.row [V.str hb,V.lst xb nb cb,V.bool b1,V.bool b2,V.int u8 b3] 38 5,Blk.row oc 72 4,Blk.row [V.str wh,V.slice 4 0
 wn false 0 0,V.bool w1,V.bool w2,V.int u8 w3] 43 5,Blk.row wk 72 4,Blk.row (aa 5 cs) 72 4,Blk.row [V.str h,V.slice 5 0 N false 0 0,V.bool ch,V.bool
 true,V.int u8 t1] 38 5,Blk.row [V.str h,V.slice 9 0 N false 0 0,V.bool ch,V.bool true,V.int u8 t1] 38 5,Blk.row [V.str h,V.slice 9 0 N false 0 0,
 V.bool ch,V.bool true,V.int u8 t1] 38 5,Blk.row (aa 5 cs) 72 4,Blk.row [V.str h,V.slice 9 0 N false 0 0,V.bool ch,V.bool true,V.int u8 t1] 38
 5,Blk.row [V.str h,V.slice 5 0 N false 0 0,V.bool ch,V.bool true,V.int u8 t1] 38 5,Blk.row [V.str wh,V.slice 4 0 wn false 0 0,V.bool w1,V.bool w2,V.int
 u8 w3] 43 5]else False else False else False else False else False else False else bif C2 then bif t2==1 then bif w3 !=1 then bif !true==was then R Exit.ret
 [some (V.ptr 0 0),some (V.ptr 1 0),some (V.bool false),some (V.slice 2 0 on false 0 0),some (V.ptr 3 0),some (V.bool was),some (V.int i64 r)] [ae pl rq
 h mx co se x1 n1 c1 x2 n2 c2 x3 n3 c3 ha mo x4 n4 c4 ag,Blk.row [V.str hb,V.lst xb nb cb,V.bool b1,V.bool b2,V.int u8 b3] 38 5,Blk.row oc 72 4,Blk.row
 [V.str wh,V.slice 4 0 wn false 0 0,V.bool w1,V.bool w2,V.int u8 w3] 43 5,Blk.row wk 72 4,Blk.row [V.str h,V.nilSlice,V.bool cq,V.bool cq,V.int
 u8 t2] 38 5,Blk.row [V.str h,V.nilSlice,V.bool cq,V.bool cq,V.int u8 t2] 38 5,Blk.row [V.str wh,V.slice 4 0 wn false 0 0,V.bool w1,V.bool w2,
 V.int u8 w3] 43 5]else bif true&&VO wn wk then bif !SB h [] cq cq t2 wh (VW wn wk) w1 w2 w3 then R Exit.ret [some (V.ptr 0 0),some (V.ptr 1 0),some (V.bool
 false),some (V.slice 2 0 on false 0 0),some (V.ptr 3 0),some (V.bool was),some (V.int i64 r)] [ae pl rq h mx co se x1 n1 c1 x2 n2 c2 x3 n3 c3 ha mo x4 n4
 c4 ag,Blk.row [V.str hb,V.lst xb nb cb,V.bool b1,V.bool b2,V.int u8 b3] 38 5,Blk.row oc 72 4,Blk.row [V.str wh,V.slice 4 0 wn false 0 0,V.bool w1,V.bool
 w2,V.int u8 w3] 43 5,Blk.row wk 72 4,Blk.row [V.str h,V.nilSlice,V.bool cq,V.bool cq,V.int u8 t2] 38 5,Blk.row [V.str h,V.nilSlice,V.bool cq,
 V.bool cq,V.int u8 t2] 38 5,Blk.row [V.str wh,V.slice 4 0 wn false 0 0,V.bool w1,V.bool w2,V.int u8 w3] 43 5]else bif true&&VO wn wk then bif !SB
 h [] cq cq t2 wh (VW wn wk) w1 w2 w3 then R Exit.ret [some (V.ptr 0 0),some (V.ptr 1 0),some (V.bool false),some (V.slice 2 0 on false 0 0),some (V.ptr 3 0),some
 (V.bool was),some (V.int i64 r)] [ae pl rq h mx co se x1 n1 c1 x2 n2 c2 x3 n3 c3 ha mo x4 n4 c4 ag,Blk.row [V.str hb,V.lst xb nb cb,V.bool b1,V.bool b2,
 V.int u8 b3] 38 5,Blk.row oc 72 4,Blk.row [V.str wh,V.slice 4 0 wn false 0 0,V.bool w1,V.bool w2,V.int u8 w3] 43 5,Blk.row wk 72 4,Blk.row [V.str
 h,V.nilSlice,V.bool cq,V.bool cq,V.int u8 t2] 38 5,Blk.row [V.str h,V.nilSlice,V.bool cq,V.bool cq,V.int u8 t2] 38 5,Blk.row [V.str wh,V.slice
 4 0 wn false 0 0,V.bool w1,V.bool w2,V.int u8 w3] 43 5]else bif true&&VO nb cb then bif VO wn wk&&VO nb cb then bif !SB h [] cq cq t2 hb (VW nb cb) b1 b2
 b3==SB wh (VW wn wk) w1 w2 w3 hb (VW nb cb) b1 b2 b3 then R Exit.ret [some (V.ptr 0 0),some (V.ptr 1 0),some (V.bool false),some (V.slice 2 0 on false 0 0),some
 (V.ptr 3 0),some (V.bool was),some (V.int i64 r)] [ae pl rq h mx co se x1 n1 c1 x2 n2 c2 x3 n3 c3 ha mo x4 n4 c4 ag,Blk.row [V.str hb,V.lst xb nb cb,
 V.bool b1,V.bool b2,V.int u8 b3] 38 5,Blk.row oc 72 4,Blk.row [V.str wh,V.slice 4 0 wn false 0 0,V.bool w1,V.bool w2,V.int u8 w3] 43 5,Blk.row wk
 72 4,Blk.row [V.str h,V.nilSlice,V.bool cq,V.bool cq,V.int u8 t2] 38 5,Blk.row [V.str h,V.nilSlice,V.bool cq,V.bool cq,V.int u8 t2] 38 5,
 Blk.row [V.str wh,V.slice 4 0 wn false 0 0,V.bool w1,V.bool w2,V.int u8 w3] 43 5]else bif !SB h [] cq cq t2 h [] cq cq t2 then R Exit.ret [some (V.ptr 0 0),
 some (V.ptr 1 0),some (V.bool false),some (V.slice 2 0 on false 0 0),some (V.ptr 3 0),some (V.bool was),some (V.int i64 r)] [ae pl rq h mx co se x1 n1 c1
 x2 n2 c2 x3 n3 c3 ha mo x4 n4 c4 ag,Blk.row [V.str hb,V.lst xb nb cb,V.bool b1,V.bool b2,V.int u8 b3] 38 5,Blk.row oc 72 4,Blk.row [V.str wh,V.slice 4 0
 wn false 0 0,V.bool w1,V.bool w2,V.int u8 w3] 43 5,Blk.row wk 72 4,Blk.row [V.str h,V.nilSlice,V.bool cq,V.bool cq,V.int u8 t2] 38 5,Blk.row
 [V.str h,V.nilSlice,V.bool cq,V.bool cq,V.int u8 t2] 38 5,Blk.row [V.str wh,V.slice 4 0 wn false 0 0,V.bool w1,V.bool w2,V.int u8 w3] 43 5]else
 R Exit.ret [some (V.ptr 0 0),some (V.ptr 1 0),some (V.bool false),some (V.slice 2 0 on false 0 0),some (V.ptr 3 0),some (V.bool was),some (V.int i64 r)]
 [ae pl rq h mx co se x1 n1 c1 x2 n2 c2 x3 n3 c3 ha mo x4 n4 c4 ag,Blk.row [V.str hb,V.lst xb nb cb,V.bool b1,V.bool b2,V.int u8 b3] 38 5,Blk.row oc 72
 4,Blk.row [V.str wh,V.slice 4 0 wn false 0 0,V.bool w1,V.bool w2,V.int u8 w3] 43 5,Blk.row wk 72 4,Blk.row [V.str h,V.nilSlice,V.bool cq,V.bool cq,
 V.int u8 t2] 38 5,Blk.row [V.str h,V.nilSlice,V.bool cq,V.bool cq,V.int u8 t2] 38 5,Blk.row [V.str wh,V.slice 4 0 wn false 0 0,V.bool w1,V.bool
 w2,V.int u8 w3] 43 5]else False else False else False else False else bif decide ((↑wn:Int)>0)then bif !true==was then R Exit.ret [some (V.ptr 0 0),some
 (V.ptr 1 0),some (V.bool false),some (V.slice 2 0 on false 0 0),some (V.ptr 3 0),some (V.bool was),some (V.int i64 r)] [ae pl rq h mx co se x1 n1 c1 x2
 n2 c2 x3 n3 c3 ha mo x4 n4 c4 ag,Blk.row [V.str hb,V.lst xb nb cb,V.bool b1,V.bool b2,V.int u8 b3] 38 5,Blk.row oc 72 4,Blk.row [V.str wh,V.slice 4 0 wn
 false 0 0,V.bool w1,V.bool w2,V.int u8 w3] 43 5,Blk.row wk 72 4,Blk.row [V.str h,V.nilSlice,V.bool cq,V.bool cq,V.int u8 t2] 38 5,Blk.row [V.str
 h,V.nilSlice,V.bool cq,V.bool cq,V.int u8 t2] 38 5,Blk.row [V.str wh,V.slice 4 0 wn false 0 0,V.bool w1,V.bool w2,V.int u8 w3] 43 5]else bif
 true&&VO wn wk then bif !SB h [] cq cq t2 wh (VW wn wk) w1 w2 w3 then R Exit.ret [some (V.ptr 0 0),some (V.ptr 1 0),some (V.bool false),some (V.slice 2 0 on false 0
 0),some (V.ptr 3 0),some (V.bool was),some (V.int i64 r)] [ae pl rq h mx co se x1 n1 c1 x2 n2 c2 x3 n3 c3 ha mo x4 n4 c4 ag,Blk.row [V.str hb,V.lst xb nb
 cb,V.bool b1,V.bool b2,V.int u8 b3] 38 5,Blk.row oc 72 4,Blk.row [V.str wh,V.slice 4 0 wn false 0 0,V.bool w1,V.bool w2,V.int u8 w3] 43 5,
 Blk.row wk 72 4,Blk.row [V.str h,V.nilSlice,V.bool cq,V.bool cq,V.int u8 t2] 38 5,Blk.row [V.str h,V.nilSlice,V.bool cq,V.bool cq,V.int u8 t2]
 38 5,Blk.row [V.str wh,V.slice 4 0 wn false 0 0,V.bool w1,V.bool w2,V.int u8 w3] 43 5]else bif true&&VO wn wk then bif !SB h [] cq cq t2 wh (VW wn wk) w1
 w2 w3 then R Exit.ret [some (V.ptr 0 0),some (V.ptr 1 0),some (V.bool false),some (V.slice 2 0 on false 0 0),some (V.ptr 3 0),some (V.bool was),some (V.int
 i64 r)] [ae pl rq h mx co se x1 n1 c1 x2 n2 c2 x3 n3 c3 ha mo x4 n4 c4 ag,Blk.row [V.str hb,V.lst xb nb cb,V.bool b1,V.bool b2,V.int u8 b3] 38 5,
 Blk.row oc 72 4,Blk.row [V.str wh,V.slice 4 0 wn false 0 0,V.bool w1,V.bool w2,V.int u8 w3] 43 5,Blk.row wk 72 4,Blk.row [V.str h,V.nilSlice,V.bool cq,
 V.bool cq,V.int u8 t2] 38 5,Blk.row [V.str h,V.nilSlice,V.bool cq,V.bool cq,V.int u8 t2] 38 5,Blk.row [V.str wh,V.slice 4 0 wn false 0 0,V.bool
 w1,V.bool w2,V.int u8 w3] 43 5]else bif true&&VO nb cb then bif VO wn wk&&VO nb cb then bif !SB h [] cq cq t2 hb (VW nb cb) b1 b2 b3==SB wh (VW wn wk) w1
 w2 w3 hb (VW nb cb) b1 b2 b3 then R Exit.ret [some (V.ptr 0 0),some (V.ptr 1 0),some (V.bool false),some (V.slice 2 0 on false 0 0),some (V.ptr 3 0),some (V.bool
 was),some (V.int i64 r)] [ae pl rq h mx co se x1 n1 c1 x2 n2 c2 x3 n3 c3 ha mo x4 n4 c4 ag,Blk.row [V.str hb,V.lst xb nb cb,V.bool b1,V.bool b2,V.int
 u8 b3] 38 5,Blk.row oc 72 4,Blk.row [V.str wh,V.slice 4 0 wn false 0 0,V.bool w1,V.bool w2,V.int u8 w3] 43 5,Blk.row wk 72 4,Blk.row [V.str h,
 V.nilSlice,V.bool cq,V.bool cq,V.int u8 t2] 38 5,Blk.row [V.str h,V.nilSlice,V.bool cq,V.bool cq,V.int u8 t2] 38 5,Blk.row [V.str wh,V.slice 4 0
 wn false 0 0,V.bool w1,V.bool w2,V.int u8 w3] 43 5]else bif !SB h [] cq cq t2 h [] cq cq t2 then R Exit.ret [some (V.ptr 0 0),some (V.ptr 1 0),some (V.bool
 false),some (V.slice 2 0 on false 0 0),some (V.ptr 3 0),some (V.bool was),some (V.int i64 r)] [ae pl rq h mx co se x1 n1 c1 x2 n2 c2 x3 n3 c3 ha mo x4 n4
 c4 ag,Blk.row [V.str hb,V.lst xb nb cb,V.bool b1,V.bool b2,V.int u8 b3] 38 5,Blk.row oc 72 4,Blk.row [V.str wh,V.slice 4 0 wn false 0 0,V.bool w1,V.bool
 w2,V.int u8 w3] 43 5,Blk.row wk 72 4,Blk.row [V.str h,V.nilSlice,V.bool cq,V.bool cq,V.int u8 t2] 38 5,Blk.row [V.str h,V.nilSlice,V.bool cq,
 V.bool cq,V.int u8 t2] 38 5,Blk.row [V.str wh,V.slice 4 0 wn false 0 0,V.bool w1,V.bool w2,V.int u8 w3] 43 5]else R Exit.ret [some (V.ptr 0 0),
 some (V.ptr 1 0),some (V.bool false),some (V.slice 2 0 on false 0 0),some (V.ptr 3 0),some (V.bool was),some (V.int i64 r)] [ae pl rq h mx co se x1 n1 c1
 x2 n2 c2 x3 n3 c3 ha mo x4 n4 c4 ag,Blk.row [V.str hb,V.lst xb nb cb,V.bool b1,V.bool b2,V.int u8 b3] 38 5,Blk.row oc 72 4,Blk.row [V.str wh,V.slice 4 0
 wn false 0 0,V.bool w1,V.bool w2,V.int u8 w3] 43 5,Blk.row wk 72 4,Blk.row [V.str h,V.nilSlice,V.bool cq,V.bool cq,V.int u8 t2] 38 5,Blk.row
 [V.str h,V.nilSlice,V.bool cq,V.bool cq,V.int u8 t2] 38 5,Blk.row [V.str wh,V.slice 4 0 wn false 0 0,V.bool w1,V.bool w2,V.int u8 w3] 43 5]else
 False else False else False else False else bif !true==was then R Exit.ret [some (V.ptr 0 0),some (V.ptr 1 0),some (V.bool false),some (V.slice 2 0 on false 0 0),
 some (V.ptr 3 0),some (V.bool was),some (V.int i64 r)] [ae pl rq h mx co se x1 n1 c1 x2 n2 c2 x3 n3 c3 ha mo x4 n4 c4 ag,Blk.row [V.str hb,V.lst xb nb cb,
 V.bool b1,V.bool b2,V.int u8 b3] 38 5,Blk.row oc 72 4,Blk.row [V.str wh,V.slice 4 0 wn false 0 0,V.bool w1,V.bool w2,V.int u8 w3] 43 5,Blk.row wk
 72 4,Blk.row [V.str h,V.nilSlice,V.bool cq,V.bool cq,V.int u8 t2] 38 5,Blk.row [V.str h,V.nilSlice,V.bool cq,V.bool cq,V.int u8 t2] 38 5,
 Blk.row [V.str wh,V.slice 4 0 wn false 0 0,V.bool w1,V.bool w2,V.int u8 w3] 43 5]else bif true&&VO wn wk then bif !SB h [] cq cq t2 wh (VW wn wk) w1 w2 w3
 then R Exit.ret [some (V.ptr 0 0),some (V.ptr 1 0),some (V.bool false),some (V.slice 2 0 on false 0 0),some (V.ptr 3 0),some (V.bool was),some (V.int i64
 r)] [ae pl rq h mx co se x1 n1 c1 x2 n2 c2 x3 n3 c3 ha mo x4 n4 c4 ag,Blk.row [V.str hb,V.lst xb nb cb,V.bool b1,V.bool b2,V.int u8 b3] 38 5,Blk.row oc
 72 4,Blk.row [V.str wh,V.slice 4 0 wn false 0 0,V.bool w1,V.bool w2,V.int u8 w3] 43 5,Blk.row wk 72 4,Blk.row [V.str h,V.nilSlice,V.bool cq,V.bool cq,
 V.int u8 t2] 38 5,Blk.row [V.str h,V.nilSlice,V.bool cq,V.bool cq,V.int u8 t2] 38 5,Blk.row [V.str wh,V.slice 4 0 wn false 0 0,V.bool w1,V.bool
 w2,V.int u8 w3] 43 5]else bif true&&VO wn wk then bif !SB h [] cq cq t2 wh (VW wn wk) w1 w2 w3 then R Exit.ret [some (V.ptr 0 0),some (V.ptr 1 0),some
 (V.bool false),some (V.slice 2 0 on false 0 0),some (V.ptr 3 0),some (V.bool was),some (V.int i64 r)] [ae pl rq h mx co se x1 n1 c1 x2 n2 c2 x3 n3 c3 ha
 mo x4 n4 c4 ag,Blk.row [V.str hb,V.lst xb nb cb,V.bool b1,V.bool b2,V.int u8 b3] 38 5,Blk.row oc 72 4,Blk.row [V.str wh,V.slice 4 0 wn false 0 0,V.bool
 w1,V.bool w2,V.int u8 w3] 43 5,Blk.row wk 72 4,Blk.row [V.str h,V.nilSlice,V.bool cq,V.bool cq,V.int u8 t2] 38 5,Blk.row [V.str h,V.nilSlice,
 V.bool cq,V.bool cq,V.int u8 t2] 38 5,Blk.row [V.str wh,V.slice 4 0 wn false 0 0,V.bool w1,V.bool w2,V.int u8 w3] 43 5]else bif true&&VO nb cb
 then bif VO wn wk&&VO nb cb then bif !SB h [] cq cq t2 hb (VW nb cb) b1 b2 b3==SB wh (VW wn wk) w1 w2 w3 hb (VW nb cb) b1 b2 b3 then R Exit.ret [some (V.ptr 0 0),
 some (V.ptr 1 0),some (V.bool false),some (V.slice 2 0 on false 0 0),some (V.ptr 3 0),some (V.bool was),some (V.int i64 r)] [ae pl rq h mx co se x1 n1 c1
 x2 n2 c2 x3 n3 c3 ha mo x4 n4 c4 ag,Blk.row [V.str hb,V.lst xb nb cb,V.bool b1,V.bool b2,V.int u8 b3] 38 5,Blk.row oc 72 4,Blk.row [V.str wh,V.slice 4 0
 wn false 0 0,V.bool w1,V.bool w2,V.int u8 w3] 43 5,Blk.row wk 72 4,Blk.row [V.str h,V.nilSlice,V.bool cq,V.bool cq,V.int u8 t2] 38 5,Blk.row
 [V.str h,V.nilSlice,V.bool cq,V.bool cq,V.int u8 t2] 38 5,Blk.row [V.str wh,V.slice 4 0 wn false 0 0,V.bool w1,V.bool w2,V.int u8 w3] 43 5]else
 bif !SB h [] cq cq t2 h [] cq cq t2 then R Exit.ret [some (V.ptr 0 0),some (V.ptr 1 0),some (V.bool false),some (V.slice 2 0 on false 0 0),some (V.ptr 3 0),some
 (V.bool was),some (V.int i64 r)] [ae pl rq h mx co se x1 n1 c1 x2 n2 c2 x3 n3 c3 ha mo x4 n4 c4 ag,Blk.row [V.str hb,V.lst xb nb cb,V.bool b1,V.bool b2,
 V.int u8 b3] 38 5,Blk.row oc 72 4,Blk.row [V.str wh,V.slice 4 0 wn false 0 0,V.bool w1,V.bool w2,V.int u8 w3] 43 5,Blk.row wk 72 4,Blk.row [V.str
 h,V.nilSlice,V.bool cq,V.bool cq,V.int u8 t2] 38 5,Blk.row [V.str h,V.nilSlice,V.bool cq,V.bool cq,V.int u8 t2] 38 5,Blk.row [V.str wh,V.slice
 4 0 wn false 0 0,V.bool w1,V.bool w2,V.int u8 w3] 43 5]else R Exit.normal [some (V.ptr 0 0),some (V.ptr 1 0),some (V.bool false),some (V.slice 2 0 on false
 0 0),some (V.ptr 3 0),some (V.bool was),some (V.int i64 (i64.wrap (r+1)))] [ae pl rq h mx co se x1 n1 c1 x2 n2 c2 x3 n3 c3 ha mo x4 n4 c4 ag,
 Blk.row [V.str hb,V.lst xb nb cb,V.bool b1,V.bool b2,V.int u8 b3] 38 5,Blk.row oc 72 4,Blk.row [V.str wh,V.slice 4 0 wn false 0 0,V.bool w1,V.bool w2,
 V.int u8 w3] 43 5,Blk.row wk 72 4,Blk.row [V.str h,V.nilSlice,V.bool cq,V.bool cq,V.int u8 t2] 38 5,Blk.row [V.str h,V.nilSlice,V.bool cq,V.bool
 cq,V.int u8 t2] 38 5,Blk.row [V.str wh,V.slice 4 0 wn false 0 0,V.bool w1,V.bool w2,V.int u8 w3] 43 5]else False else False else False else False
 else bif w3 !=1 then bif !true==was then R Exit.ret [some (V.ptr 0 0),some (V.ptr 1 0),some (V.bool false),some (V.slice 2 0 on false 0 0),some (V.ptr 3 0),some
 (V.bool was),some (V.int i64 r)] [ae pl rq h mx co se x1 n1 c1 x2 n2 c2 x3 n3 c3 ha mo x4 n4 c4 ag,Blk.row [V.str hb,V.lst xb nb cb,V.bool b1,V.bool b2,
 V.int u8 b3] 38 5,Blk.row oc 72 4,Blk.row [V.str wh,V.slice 4 0 wn false 0 0,V.bool w1,V.bool w2,V.int u8 w3] 43 5,Blk.row wk 72 4,Blk.row [V.str
 h,V.nilSlice,V.bool cq,V.bool cq,V.int u8 t2] 38 5,Blk.row [V.str h,V.nilSlice,V.bool cq,V.bool cq,V.int u8 t2] 38 5,Blk.row [V.str wh,V.slice
 4 0 wn false 0 0,V.bool w1,V.bool w2,V.int u8 w3] 43 5]else bif true&&VO wn wk then bif !SB h [] cq cq t2 wh (VW wn wk) w1 w2 w3 then R Exit.ret [some
 (V.ptr 0 0),some (V.ptr 1 0),some (V.bool false),some (V.slice 2 0 on false 0 0),some (V.ptr 3 0),some (V.bool was),some (V.int i64 r)] [ae pl rq h mx
 co se x1 n1 c1 x2 n2 c2 x3 n3 c3 ha mo x4 n4 c4 ag,Blk.row [V.str hb,V.lst xb nb cb,V.bool b1,V.bool b2,V.int u8 b3] 38 5,Blk.row oc 72 4,Blk.row [V.str
 wh,V.slice 4 0 wn false 0 0,V.bool w1,V.bool w2,V.int u8 w3] 43 5,Blk.row wk 72 4,Blk.row [V.str h,V.nilSlice,V.bool cq,V.bool cq,V.int u8 t2]
 38 5,Blk.row [V.str h,V.nilSlice,V.bool cq,V.bool cq,V.int u8 t2] 38 5,Blk.row [V.str wh,V.slice 4 0 wn false 0 0,V.bool w1,V.bool w2,V.int u8
 w3] 43 5]else bif true&&VO wn wk then bif !SB h [] cq cq t2 wh (VW wn wk) w1 w2 w3 then R Exit.ret [some (V.ptr 0 0),some (V.ptr 1 0),some (V.bool false),some
 (V.slice 2 0 on false 0 0),some (V.ptr 3 0),some (V.bool was),some (V.int i64 r)] [ae pl rq h mx co se x1 n1 c1 x2 n2 c2 x3 n3 c3 ha mo x4 n4 c4 ag,
 Blk.row [V.str hb,V.lst xb nb cb,V.bool b1,V.bool b2,V.int u8 b3] 38 5,Blk.row oc 72 4,Blk.row [V.str wh,V.slice 4 0 wn false 0 0,V.bool w1,V.bool w2,
 V.int u8 w3] 43 5,Blk.row wk 72 4,Blk.row [V.str h,V.nilSlice,V.bool cq,V.bool cq,V.int u8 t2] 38 5,Blk.row [V.str h,V.nilSlice,V.bool cq,V.bool
 cq,V.int u8 t2] 38 5,Blk.row [V.str wh,V.slice 4 0 wn false 0 0,V.bool w1,V.bool w2,V.int u8 w3] 43 5]else bif true&&VO nb cb then bif VO wn wk
 &&VO nb cb then bif !SB h [] cq cq t2 hb (VW nb cb) b1 b2 b3==SB wh (VW wn wk) w1 w2 w3 hb (VW nb cb) b1 b2 b3 then R Exit.ret [some (V.ptr 0 0),some (V.ptr 1 0),
 some (V.bool false),some (V.slice 2 0 on false 0 0),some (V.ptr 3 0),some (V.bool was),some (V.int i64 r)] [ae pl rq h mx co se x1 n1 c1 x2 n2 c2 x3 n3 c3
 ha mo x4 n4 c4 ag,Blk.row [V.str hb,V.lst xb nb cb,V.bool b1,V.bool b2,V.int u8 b3] 38 5,Blk.row oc 72 4,Blk.row [V.str wh,V.slice 4 0 wn false 0 0,
 V.bool w1,V.bool w2,V.int u8 w3] 43 5,Blk.row wk 72 4,Blk.row [V.str h,V.nilSlice,V.bool cq,V.bool cq,V.int u8 t2] 38 5,Blk.row [V.str h,
 V.nilSlice,V.bool cq,V.bool cq,V.int u8 t2] 38 5,Blk.row [V.str wh,V.slice 4 0 wn false 0 0,V.bool w1,V.bool w2,V.int u8 w3] 43 5]else bif !SB h
 [] cq cq t2 h [] cq cq t2 then R Exit.ret [some (V.ptr 0 0),some (V.ptr 1 0),some (V.bool false),some (V.slice 2 0 on false 0 0),some (V.ptr 3 0),some (V.bool was),
 some (V.int i64 r)] [ae pl rq h mx co se x1 n1 c1 x2 n2 c2 x3 n3 c3 ha mo x4 n4 c4 ag,Blk.row [V.str hb,V.lst xb nb cb,V.bool b1,V.bool b2,V.int
 u8 b3] 38 5,Blk.row oc 72 4,Blk.row [V.str wh,V.slice 4 0 wn false 0 0,V.bool w1,V.bool w2,V.int u8 w3] 43 5,Blk.row wk 72 4,Blk.row [V.str h,
 V.nilSlice,V.bool cq,V.bool cq,V.int u8 t2] 38 5,Blk.row [V.str h,V.nilSlice,V.bool cq,V.bool cq,V.int u8 t2] 38 5,Blk.row [V.str wh,V.slice 4 0
 wn false 0 0,V.bool w1,V.bool w2,V.int u8 w3] 43 5]else R Exit.normal [some (V.ptr 0 0),some (V.ptr 1 0),some (V.bool false),some (V.slice 2 0 on false 0
 0),some (V.ptr 3 0),some (V.bool was),some (V.int i64 (i64.wrap (r+1)))] [ae pl rq h mx co se x1 n1 c1 x2 n2 c2 x3 n3 c3 ha mo x4 n4 c4 ag,
 Blk.row [V.str hb,V.lst xb nb cb,V.bool b1,V.bool b2,V.int u8 b3] 38 5,Blk.row oc 72 4,Blk.row [V.str wh,V.slice 4 0 wn false 0 0,V.bool w1,V.bool w2,
 V.int u8 w3] 43 5,Blk.row wk 72 4,Blk.row [V.str h,V.nilSlice,V.bool cq,V.bool cq,V.int u8 t2] 38 5,Blk.row [V.str h,V.nilSlice,V.bool cq,V.bool
 cq,V.int u8 t2] 38 5,Blk.row [V.str wh,V.slice 4 0 wn false 0 0,V.bool w1,V.bool w2,V.int u8 w3] 43 5]else False else False else False else False
 else bif decide ((↑wn:Int)>0)then bif !true==was then R Exit.ret [some (V.ptr 0 0),some (V.ptr 1 0),some (V.bool false),some (V.slice 2 0 on false 0 0),some
 (V.ptr 3 0),some (V.bool was),some (V.int i64 r)] [ae pl rq h mx co se x1 n1 c1 x2 n2 c2 x3 n3 c3 ha mo x4 n4 c4 ag,Blk.row [V.str hb,V.lst xb nb cb,
 V.bool b1,V.bool b2,V.int u8 b3] 38 5,Blk.row oc 72 4,Blk.row [V.str wh,V.slice 4 0 wn false 0 0,V.bool w1,V.bool w2,V.int u8 w3] 43 5,Blk.row wk
 72 4,Blk.row [V.str h,V.nilSlice,V.bool cq,V.bool cq,V.int u8 t2] 38 5,Blk.row [V.str h,V.nilSlice,V.bool cq,V.bool cq,V.int u8 t2] 38 5,
 Blk.row [V.str wh,V.slice 4 0 wn false 0 0,V.bool w1,V.bool w2,V.int u8 w3] 43 5]else bif true&&VO wn wk then bif !SB h [] cq cq t2 wh (VW wn wk) w1 w2 w3
 then R Exit.ret [some (V.ptr 0 0),some (V.ptr 1 0),some (V.bool false),some (V.slice 2 0 on false 0 0),some (V.ptr 3 0),some (V.bool was),some (V.int i64
 r)] [ae pl rq h mx co se x1 n1 c1 x2 n2 c2 x3 n3 c3 ha mo x4 n4 c4 ag,Blk.row [V.str hb,V.lst xb nb cb,V.bool b1,V.bool b2,V.int u8 b3] 38 5,Blk.row oc
 72 4,Blk.row [V.str wh,V.slice 4 0 wn false 0 0,V.bool w1,V.bool w2,V.int u8 w3] 43 5,Blk.row wk 72 4,Blk.row [V.str h,V.nilSlice,V.bool cq,V.bool cq,
 V.int u8 t2] 38 5,Blk.row [V.str h,V.nilSlice,V.bool cq,V.bool cq,V.int u8 t2] 38 5,Blk.row [V.str wh,V.slice 4 0 wn false 0 0,V.bool w1,V.bool
 w2,V.int u8 w3] 43 5]else bif true&&VO wn wk then bif !SB h [] cq cq t2 wh (VW wn wk) w1 w2 w3 then R Exit.ret [some (V.ptr 0 0),some (V.ptr 1 0),some
 (V.bool false),some (V.slice 2 0 on false 0 0),some (V.ptr 3 0),some (V.bool was),some (V.int i64 r)] [ae pl rq h mx co se x1 n1 c1 x2 n2 c2 x3 n3 c3 ha
 mo x4 n4 c4 ag,Blk.row [V.str hb,V.lst xb nb cb,V.bool b1,V.bool b2,V.int u8 b3] 38 5,Blk.row oc 72 4,Blk.row [V.str wh,V.slice 4 0 wn false 0 0,V.bool
 w1,V.bool w2,V.int u8 w3] 43 5,Blk.row wk 72 4,Blk.row [V.str h,V.nilSlice,V.bool cq,V.bool cq,V.int u8 t2] 38 5,Blk.row [V.str h,V.nilSlice,
 V.bool cq,V.bool cq,V.int u8 t2] 38 5,Blk.row [V.str wh,V.slice 4 0 wn false 0 0,V.bool w1,V.bool w2,V.int u8 w3] 43 5]else bif true&&VO nb cb
 then bif VO wn wk&&VO nb cb then bif !SB h [] cq cq t2 hb (VW nb cb) b1 b2 b3==SB wh (VW wn wk) w1 w2 w3 hb (VW nb cb) b1 b2 b3 then R Exit.ret [some (V.ptr 0 0),
 some (V.ptr 1 0),some (V.bool false),some (V.slice 2 0 on false 0 0),some (V.ptr 3 0),some (V.bool was),some (V.int i64 r)] [ae pl rq h mx co se x1 n1 c1
 x2 n2 c2 x3 n3 c3 ha mo x4 n4 c4 ag,Blk.row [V.str hb,V.lst xb nb cb,V.bool b1,V.bool b2,V.int u8 b3] 38 5,Blk.row oc 72 4,Blk.row [V.str wh,V.slice 4 0
 wn false 0 0,V.bool w1,V.bool w2,V.int u8 w3] 43 5,Blk.row wk 72 4,Blk.row [V.str h,V.nilSlice,V.bool cq,V.bool cq,V.int u8 t2] 38 5,Blk.row
 [V.str h,V.nilSlice,V.bool cq,V.bool cq,V.int u8 t2] 38 5,Blk.row [V.str wh,V.slice 4 0 wn false 0 0,V.bool w1,V.bool w2,V.int u8 w3] 43 5]else
 bif !SB h [] cq cq t2 h [] cq cq t2 then R Exit.ret [some (V.ptr 0 0),some (V.ptr 1 0),some (V.bool false),some (V.slice 2 0 on false 0 0),some (V.ptr 3 0),some
 (V.bool was),some (V.int i64 r)] [ae pl rq h mx co se x1 n1 c1 x2 n2 c2 x3 n3 c3 ha mo x4 n4 c4 ag,Blk.row [V.str hb,V.lst xb nb cb,V.bool b1,V.bool b2,
 V.int u8 b3] 38 5,Blk.row oc 72 4,Blk.row [V.str wh,V.slice 4 0 wn false 0 0,V.bool w1,V.bool w2,V.int u8 w3] 43 5,Blk.row wk 72 4,Blk.row [V.str
 h,V.nilSlice,V.bool cq,V.bool cq,V.int u8 t2] 38 5,Blk.row [V.str h,V.nilSlice,V.bool cq,V.bool cq,V.int u8 t2] 38 5,Blk.row [V.str wh,V.slice
 4 0 wn false 0 0,V.bool w1,V.bool w2,V.int u8 w3] 43 5]else R Exit.normal [some (V.ptr 0 0),some (V.ptr 1 0),some (V.bool false),some (V.slice 2 0 on false
 0 0),some (V.ptr 3 0),some (V.bool was),some (V.int i64 (i64.wrap (r+1)))] [ae pl rq h mx co se x1 n1 c1 x2 n2 c2 x3 n3 c3 ha mo x4 n4 c4 ag,
 Blk.row [V.str hb,V.lst xb nb cb,V.bool b1,V.bool b2,V.int u8 b3] 38 5,Blk.row oc 72 4,Blk.row [V.str wh,V.slice 4 0 wn false 0 0,V.bool w1,V.bool w2,
 V.int u8 w3] 43 5,Blk.row wk 72 4,Blk.row [V.str h,V.nilSlice,V.bool cq,V.bool cq,V.int u8 t2] 38 5,Blk.row [V.str h,V.nilSlice,V.bool cq,V.bool
 cq,V.int u8 t2] 38 5,Blk.row [V.str wh,V.slice 4 0 wn false 0 0,V.bool w1,V.bool w2,V.int u8 w3] 43 5]else False else False else False else False
 else bif !true==was then R Exit.ret [some (V.ptr 0 0),some (V.ptr 1 0),some (V.bool false),some (V.slice 2 0 on false 0 0),some (V.ptr 3 0),some (V.bool was),some
 (V.int i64 r)] [ae pl rq h mx co se x1 n1 c1 x2 n2 c2 x3 n3 c3 ha mo x4 n4 c4 ag,Blk.row [V.str hb,V.lst xb nb cb,V.bool b1,V.bool b2,V.int u8
 b3] 38 5,Blk.row oc 72 4,Blk.row [V.str wh,V.slice 4 0 wn false 0 0,V.bool w1,V.bool w2,V.int u8 w3] 43 5,Blk.row wk 72 4,Blk.row [V.str h,V.nilSlice,
 V.bool cq,V.bool cq,V.int u8 t2] 38 5,Blk.row [V.str h,V.nilSlice,V.bool cq,V.bool cq,V.int u8 t2] 38 5,Blk.row [V.str wh,V.slice 4 0 wn false 0
 0,V.bool w1,V.bool w2,V.int u8 w3] 43 5]else bif true&&VO wn wk then bif !SB h [] cq cq t2 wh (VW wn wk) w1 w2 w3 then R Exit.ret [some (V.ptr 0 0),some
 (V.ptr 1 0),some (V.bool false),some (V.slice 2 0 on false 0 0),some (V.ptr 3 0),some (V.bool was),some (V.int i64 r)] [ae pl rq h mx co se x1 n1 c1 x2
 n2 c2 x3 n3 c3 ha mo x4 n4 c4 ag,Blk.row [V.str hb,V.lst xb nb cb,V.bool b1,V.bool b2,V.int u8 b3] 38 5,Blk.row oc 72 4,Blk.row [V.str wh,V.slice 4 0 wn
 false 0 0,V.bool w1,V.bool w2,V.int u8 w3] 43 5,Blk.row wk 72 4,Blk.row [V.str h,V.nilSlice,V.bool cq,V.bool cq,V.int u8 t2] 38 5,Blk.row [V.str
 h,V.nilSlice,V.bool cq,V.bool cq,V.int u8 t2] 38 5,Blk.row [V.str wh,V.slice 4 0 wn false 0 0,V.bool w1,V.bool w2,V.int u8 w3] 43 5]else bif
 true&&VO wn wk then bif !SB h [] cq cq t2 wh (VW wn wk) w1 w2 w3 then R Exit.ret [some (V.ptr 0 0),some (V.ptr 1 0),some (V.bool false),some (V.slice 2 0 on false 0
 0),some (V.ptr 3 0),some (V.bool was),some (V.int i64 r)] [ae pl rq h mx co se x1 n1 c1 x2 n2 c2 x3 n3 c3 ha mo x4 n4 c4 ag,Blk.row [V.str hb,V.lst xb nb
 cb,V.bool b1,V.bool b2,V.int u8 b3] 38 5,Blk.row oc 72 4,Blk.row [V.str wh,V.slice 4 0 wn false 0 0,V.bool w1,V.bool w2,V.int u8 w3] 43 5,
 Blk.row wk 72 4,Blk.row [V.str h,V.nilSlice,V.bool cq,V.bool cq,V.int u8 t2] 38 5,Blk.row [V.str h,V.nilSlice,V.bool cq,V.bool cq,V.int u8 t2]
 38 5,Blk.row [V.str wh,V.slice 4 0 wn false 0 0,V.bool w1,V.bool w2,V.int u8 w3] 43 5]else bif true&&VO nb cb then bif VO wn wk&&VO nb cb then bif !SB h
 [] cq cq t2 hb (VW nb cb) b1 b2 b3==SB wh (VW wn wk) w1 w2 w3 hb (VW nb cb) b1 b2 b3 then R Exit.ret [some (V.ptr 0 0),some (V.ptr 1 0),some (V.bool false),some
 (V.slice 2 0 on false 0 0),some (V.ptr 3 0),some (V.bool was),some (V.int i64 r)] [ae pl rq h mx co se x1 n1 c1 x2 n2 c2 x3 n3 c3 ha mo x4 n4 c4 ag,
 Blk.row [V.str hb,V.lst xb nb cb,V.bool b1,V.bool b2,V.int u8 b3] 38 5,Blk.row oc 72 4,Blk.row [V.str wh,V.slice 4 0 wn false 0 0,V.bool w1,V.bool w2,
 V.int u8 w3] 43 5,Blk.row wk 72 4,Blk.row [V.str h,V.nilSlice,V.bool cq,V.bool cq,V.int u8 t2] 38 5,Blk.row [V.str h,V.nilSlice,V.bool cq,V.bool
 cq,V.int u8 t2] 38 5,Blk.row [V.str wh,V.slice 4 0 wn false 0 0,V.bool w1,V.bool w2,V.int u8 w3] 43 5]else bif !SB h [] cq cq t2 h [] cq cq t2 then
 R Exit.ret [some (V.ptr 0 0),some (V.ptr 1 0),some (V.bool false),some (V.slice 2 0 on false 0 0),some (V.ptr 3 0),some (V.bool was),some (V.int i64 r)]
 [ae pl rq h mx co se x1 n1 c1 x2 n2 c2 x3 n3 c3 ha mo x4 n4 c4 ag,Blk.row [V.str hb,V.lst xb nb cb,V.bool b1,V.bool b2,V.int u8 b3] 38 5,Blk.row oc 72
 4,Blk.row [V.str wh,V.slice 4 0 wn false 0 0,V.bool w1,V.bool w2,V.int u8 w3] 43 5,Blk.row wk 72 4,Blk.row [V.str h,V.nilSlice,V.bool cq,V.bool cq,
 V.int u8 t2] 38 5,Blk.row [V.str h,V.nilSlice,V.bool cq,V.bool cq,V.int u8 t2] 38 5,Blk.row [V.str wh,V.slice 4 0 wn false 0 0,V.bool w1,V.bool
 w2,V.int u8 w3] 43 5]else R Exit.ret [some (V.ptr 0 0),some (V.ptr 1 0),some (V.bool false),some (V.slice 2 0 on false 0 0),some (V.ptr 3 0),some (V.bool
 was),some (V.int i64 r)] [ae pl rq h mx co se x1 n1 c1 x2 n2 c2 x3 n3 c3 ha mo x4 n4 c4 ag,Blk.row [V.str hb,V.lst xb nb cb,V.bool b1,V.bool b2,V.int
 u8 b3] 38 5,Blk.row oc 72 4,Blk.row [V.str wh,V.slice 4 0 wn false 0 0,V.bool w1,V.bool w2,V.int u8 w3] 43 5,Blk.row wk 72 4,Blk.row [V.str h,
 V.nilSlice,V.bool cq,V.bool cq,V.int u8 t2] 38 5,Blk.row [V.str h,V.nilSlice,V.bool cq,V.bool cq,V.int u8 t2] 38 5,Blk.row [V.str wh,V.slice 4 0
 wn false 0 0,V.bool w1,V.bool w2,V.int u8 w3] 43 5]else False else False else False else False else False else R (Exit.exit 0) [some (V.ptr 0 0),some (V.ptr
 1 0),some (V.bool false),some (V.slice 2 0 on false 0 0),some (V.ptr 3 0),some (V.bool was),some (V.int i64 r)] [ae pl rq h mx co se x1 n1 c1 x2 n2 c2 x3
 n3 c3 ha mo x4 n4 c4 ag,Blk.row [V.str hb,V.lst xb nb cb,V.bool b1,V.bool b2,V.int u8 b3] 38 5,Blk.row oc 72 4,Blk.row [V.str wh,V.slice 4 0 wn false 0 0,
 V.bool w1,V.bool w2,V.int u8 w3] 43 5,Blk.row wk 72 4])
theorem nt_real1(VO:Nat→List V→Bool)(VW:Nat→List V→List TL)(SB:List UInt8→List TL→Bool→Bool→Int→List UInt8→List TL→Bool→Bool→Int→Bool)(pl rq:Bool)(h:List UInt8)(mx:Bool)(co:Int)(se:Bool)(x1:Value)(n1:Nat)(c1:List V)(x2:Value)(n2:Nat)(c2:List V)(x3:Value)(n3:Nat)(c3:List V)(ha:Bool)(mo:Int)(x4:Value)(n4:Nat)(c4:List V)(ag:Int)(hb:List UInt8)(xb:Value)(nb:Nat)(cb:List V)(b1 b2:Bool)(b3:Int)(on:Nat)(oc:List V)(wh:List UInt8)(wn:Nat)(wk:List V)(w1 w2:Bool)(w3:Int)(was:Bool)(r:Int)(R:Qz):aJ Qq (NTV gw VO VW SB) 9 10 lkSP 5 250 [2,3,4,5,6,7,8] [.ptr 0 0,.ptr 1 0,.bool false,.slice 2 0 on false 0 0,.ptr 3 0,.bool was,.int .i64 r] [.row [.bool pl,.bool rq,.str h,.bool mx,.int .u8 co,.bool se,.lst x1 n1 c1,.lst x2 n2 c2,.lst x3 n3 c3,.bool ha,.int .u8 mo,.lst x4 n4 c4,.int .i64 ag] 58 13,.row [.str hb,.lst xb nb cb,.bool b1,.bool b2,.int .u8 b3] 38 5,.row oc 72 4,.row [.str wh,.slice 4 0 wn false 0 0,.bool w1,.bool w2,.int .u8 w3] 43 5,.row wk 72 4] R=ntTree1 VO VW SB ((okT n3 c3&&okS n4 c4)&&notB pl rq mx co se n3 c3 ha mo c4 h) ((okT n3 c3&&okS n4 c4)&&secB pl rq co se n3) (okT n3 c3&&okS n4 c4) (dZ pl rq co se n3 c3).length (tls (dZ pl rq co se n3 c3)) (chB pl rq co se n3 c3 ha mo) (kdI pl rq true ha mo) (rq||efB pl rq ha mo) (kdI pl rq false ha mo) pl rq h mx co se x1 n1 c1 x2 n2 c2 x3 n3 c3 ha mo x4 n4 c4 ag hb xb nb cb b1 b2 b3 on oc wh wn wk w1 w2 w3 was r R:=by kernel_rfl
theorem ow:∀{l k:List TL},eqsB l k=true→l=k
 |[],[],_=>rfl
 |[],_::_,h=>by cases h
 |_::_,[],h=>by cases h
 |a::l,b::k,h=>by
  simp only[eqsB,eqB,af,beq_iff_eq]at h;obtain⟨⟨h1,h2,h3,h4⟩,h5⟩:=h;obtain⟨u,s,m,d⟩:=a;obtain⟨u',s',m',d'⟩:=b;simp only at h1 h2 h3 h4;subst h1 h2 h3 h4;rw[ow h5]
theorem jH{h:List UInt8}{l:List TL}{a b:Bool}{t:Int}{h':List UInt8}{k:List TL}{a' b':Bool}{t':Int}(e:nsB h l a b t h' k a' b' t'=true):h=h'∧l=k∧a=a'∧b=b'∧t=t':=by
 unfold nsB at e;simp only[af,beq_iff_eq]at e;exact⟨e.1,ow e.2.2.2.2,e.2.1,e.2.2.1,e.2.2.2.1⟩
theorem dV(h:List UInt8)(l:List TL)(a b:Bool)(t:Int):nsB h l a b t h l a b t=true:=by
 unfold nsB;simp[ic]
def tC0(y:NTS):Bool:=notB y.pl y.rq y.mx y.co y.se y.n3 y.c3 y.ha y.mo y.c4 y.h
def tC1(y:NTS):Bool:=secB y.pl y.rq y.co y.se y.n3
def tK(y:NTS):List TL:=dZ y.pl y.rq y.co y.se y.n3 y.c3
def wL(y:NTS):List TL:=match y.wn with
 |none=>[]
 |some _=>tlD y.wk
def wOk(y:NTS):Bool:=match y.wn with
 |none=>y.wk.isEmpty
 |some n=>okT n y.wk
def gq(y:NTS):Bool:=bif tC0 y then nsB [] [] false false 0 y.wh (wL y) y.w1 y.w2 y.w3 else bif tC1 y then nsB y.h (tK y) (chB y.pl y.rq y.co y.se y.n3 y.c3 y.ha y.mo) true (kdI y.pl y.rq true y.ha y.mo) y.wh (wL y) y.w1 y.w2 y.w3 else nsB y.h [] (y.rq||efB y.pl y.rq y.ha y.mo) (y.rq||efB y.pl y.rq y.ha y.mo) (kdI y.pl y.rq false y.ha y.mo) y.wh (wL y) y.w1 y.w2 y.w3
def ntOk(y:NTS):Bool:=iq y&&((okT y.n3 y.c3&&okS y.n4 y.c4)&&(okT y.nb y.cb&&(wOk y&&((y.was==!tC0 y)&&gq y))))
structure NTO where
 y:NTS
 r:Nat
def noV(x:NTO):List V:=[.ptr 0 0,.ptr 1 0,.bool false,.slice 2 0 x.y.on false 0 0,.ptr 3 0,.bool x.y.was,.int .i64 x.r]
def noJ(x:NTO):St:=ntJ x.y
def cT(x:NTO):Bool:=ntOk x.y&&Nat.ble x.r 2
def noMu(x:NTO):Nat:=2-x.r
def noOutG(y:NTS)(K:Exit→List V→St→Prop):Prop:=∀j:Int,K (.exit 0) [.ptr 0 0,.ptr 1 0,.bool false,.slice 2 0 y.on false 0 0,.ptr 3 0,.bool y.was,.int .i64 j] (ntJ y)
def noOut:Asks NTO:=fun x K=>noOutG x.y K
theorem n6{y:NTS}(h0:iq y=true)(r:Int){st:St}(h:∀i,i<5→st[i]?=(ntJ y)[i]?):Fits 0 [.ptr 0 0,.ptr 1 0,.bool false,.slice 2 0 y.on false 0 0,.ptr 3 0,.bool y.was,.int .i64 r] (ntJ y) [some (.ptr 0 0),some (.ptr 1 0),some (.bool false),some (.slice 2 0 y.on false 0 0),some (.ptr 3 0),some (.bool y.was),some (.int .i64 r)] st:=
 ⟨[0,1,2,3,4],[.ptr 0 0,.ptr 1 0,.bool false,.slice 2 0 y.on false 0 0,.ptr 3 0,.bool y.was,.int .i64 r],rfl,rfl,FitsM.of (kz h0 h rfl),by decide,fun i hi=>by omega⟩
theorem fv{y:NTS}(hy:ntOk y=true){r:Nat}(hr:r<2){st:St}(h:∀i,i<5→st[i]?=(ntJ y)[i]?):aQ 0 cT noV noJ noMu noOut ⟨y,r⟩ .normal [some (.ptr 0 0),some (.ptr 1 0),some (.bool false),some (.slice 2 0 y.on false 0 0),some (.ptr 3 0),some (.bool y.was),some (.int .i64 (i64.wrap ((r:Int)+1)))] st:=by
 have h0:iq y=true:=by unfold ntOk at hy;rw[af]at hy;exact hy.1
 rw[show i64.wrap ((r:Int)+1)=((r+1:Nat):Int) by rw[IntWalk.i64_in _ ⟨by omega,by omega⟩];omega];refine⟨⟨y,r+1⟩,?_,n6 h0 _ h,by simp only[noMu];omega,fun K hK=>hK⟩;unfold cT;rw[af];exact⟨hy,ap (show r+1≤2 by omega)⟩
theorem m7(pl rq:Bool)(co:Int)(se:Bool)(n3:Nat)(c3:List V):(dZ pl rq co se n3 c3).length≤4:=by
 unfold dZ;cases secB pl rq co se n3 with
 |false=>simp
 |true=>
  have:=jo (usaL c3);have h4:(usaL c3).length≤4:=by unfold usaL;rw[List.length_take];omega
  rw[ac];omega
theorem no_sp{y:NTS}(h0:iq y=true)(r:Int)(h:List UInt8)(a b:Bool)(t:Int)(K:List TL){st:St}(hst:∀i,i<5→st[i]?=(ntJ y)[i]?)(h5:st[5]?=some (.row (tls K) 72 4))(h6:st[6]?=some (.row [.str h,.slice 5 0 K.length false 0 0,.bool a,.bool b,.int .u8 t] 38 5))(h9:st[9]?=some (.row (tls K) 72 4))(h10:st[10]?=some (.row [.str h,.slice 9 0 K.length false 0 0,.bool a,.bool b,.int .u8 t] 38 5)):
  Fits 0 [.ptr 0 0,.ptr 1 0,.bool false,.slice 2 0 y.on false 0 0,.ptr 3 0,.bool y.was,.int .i64 r,.ptr 5 0,.ptr 7 0,.int .i64 0] (ntJ y++[.row [.str h,.slice 6 0 K.length false 0 0,.bool a,.bool b,.int .u8 t] 38 5,.row (tls K) 72 4,.row [.str h,.slice 8 0 K.length false 0 0,.bool a,.bool b,.int .u8 t] 38 5,.row (tls K) 72 4])
   [some (.ptr 0 0),some (.ptr 1 0),some (.bool false),some (.slice 2 0 y.on false 0 0),some (.ptr 3 0),some (.bool y.was),some (.int .i64 r),some (.ptr 6 0),some (.ptr 10 0),some (.int .i64 0)] st:=by
 refine⟨[0,1,2,3,4,6,5,10,9],[.ptr 0 0,.ptr 1 0,.bool false,.slice 2 0 y.on false 0 0,.ptr 3 0,.bool y.was,.int .i64 r,.ptr 6 0,.ptr 10 0,.int .i64 0],rfl,rfl,FitsM.of ?_,by decide,fun i hi=>by omega⟩;obtain⟨q0,q1,q2,q3,q4,_⟩:=kz h0 (σ:=[0,1,2,3,4,6,5,10,9]) (st:=st) hst rfl;exact⟨q0,q1,q2,q3,q4,.inr ⟨_,.inl rfl,h6⟩,fb (bR K) h5,.inr ⟨_,.inl rfl,h10⟩,fb (bR K) h9,trivial⟩
theorem lp{y:NTS}(h0:iq y=true)(r:Int)(h:List UInt8)(a b:Bool)(t:Int)(K:List TL)(hK:K.length≤4):d7 ⟨y,r,h,a,b,t,K.length,tls K,tls K,h,a,b,t,0⟩=true:=by
 unfold d7;simp only[af];refine⟨h0,⟨bR K,bR K⟩,⟨?_,?_⟩,ap (Nat.zero_le _),ap (by omega)⟩
 ·show Nat.beq (tls K).length (K.length*4)=true;rw[ci,Nat.mul_comm];exact Nat.beq_refl _
 ·show Nat.beq (tls K).length (K.length*4)=true;rw[ci,Nat.mul_comm];exact Nat.beq_refl _
theorem no_round0(pl rq:Bool)(h:List UInt8)(mx:Bool)(co:Int)(se:Bool)(x1:Value)(n1:Nat)(c1:List V)(x2:Value)(n2:Nat)(c2:List V)(x3:Value)(n3:Nat)(c3:List V)(ha:Bool)(mo:Int)(x4:Value)(n4:Nat)(c4:List V)(ag:Int)(hb:List UInt8)(xb:Value)(nb:Nat)(cb:List V)(b1 b2:Bool)(b3:Int)(on:Nat)(oc:List V)(wh:List UInt8)(w1 w2:Bool)(w3:Int)(was:Bool)(r:Nat)(hp:cT ⟨⟨pl,rq,h,mx,co,se,x1,n1,c1,x2,n2,c2,x3,n3,c3,ha,mo,x4,n4,c4,ag,hb,xb,nb,cb,b1,b2,b3,on,oc,wh,none,[],w1,w2,w3,was⟩,r⟩=true):aJ Qq (NTV gw okT vwR nsB) 9 10 lkSP 5 250 [2,3,4,5,6,7,8] (noV ⟨⟨pl,rq,h,mx,co,se,x1,n1,c1,x2,n2,c2,x3,n3,c3,ha,mo,x4,n4,c4,ag,hb,xb,nb,cb,b1,b2,b3,on,oc,wh,none,[],w1,w2,w3,was⟩,r⟩) (noJ ⟨⟨pl,rq,h,mx,co,se,x1,n1,c1,x2,n2,c2,x3,n3,c3,ha,mo,x4,n4,c4,ag,hb,xb,nb,cb,b1,b2,b3,on,oc,wh,none,[],w1,w2,w3,was⟩,r⟩) (aQ 0 cT noV noJ noMu noOut ⟨⟨pl,rq,h,mx,co,se,x1,n1,c1,x2,n2,c2,x3,n3,c3,ha,mo,x4,n4,c4,ag,hb,xb,nb,cb,b1,b2,b3,on,oc,wh,none,[],w1,w2,w3,was⟩,r⟩):=by
 have hp':=hp;unfold cT ntOk at hp';simp only[af]at hp';obtain⟨⟨h0,e1,e2,_,e3,e4⟩,e5⟩:=hp';have hy:ntOk ⟨pl,rq,h,mx,co,se,x1,n1,c1,x2,n2,c2,x3,n3,c3,ha,mo,x4,n4,c4,ag,hb,xb,nb,cb,b1,b2,b3,on,oc,wh,none,[],w1,w2,w3,was⟩=true:=by unfold cT at hp;rw[af]at hp;exact hp.1
 have e1:(okT n3 c3&&okS n4 c4)=true:=by rw[af];exact e1
 have e2:okT nb cb=true:=e2;show aJ Qq (NTV gw okT vwR nsB) 9 10 lkSP 5 250 [2,3,4,5,6,7,8] [.ptr 0 0,.ptr 1 0,.bool false,.slice 2 0 on false 0 0,.ptr 3 0,.bool was,.int .i64 r] [.row [.bool pl,.bool rq,.str h,.bool mx,.int .u8 co,.bool se,.lst x1 n1 c1,.lst x2 n2 c2,.lst x3 n3 c3,.bool ha,.int .u8 mo,.lst x4 n4 c4,.int .i64 ag] 58 13,.row [.str hb,.lst xb nb cb,.bool b1,.bool b2,.int .u8 b3] 38 5,.row oc 72 4,.row [.str wh,.nilSlice,.bool w1,.bool w2,.int .u8 w3] 43 5,.dead] _;rw[nt_real0];unfold ntTree0;have k4:=m7 pl rq co se n3 c3;unfold gq tC0 tC1 tK wL at e4;unfold tC0 at e3;simp only[e1,e2,ay,Bool.and_true,Bool.and_self,ac]at e3 e4 ⊢;by_cases hr:(r:Int)<2
 ·rw[az hr,ac];have hr:r<2:=by omega
  cases hC0:notB pl rq mx co se n3 c3 ha mo c4 h with
  |true=>
   rw[hC0]at e3 e4;have e3:was=false:=by simpa using e3
   obtain⟨q1,_,q2,q3,q4⟩:=jH e4;subst e3 q1 q2 q3 q4;simp only[dV,beq_self_eq_true,Bool.not_true,ac,ai,show((0:Int)!=1)=true from rfl];exact fv hy hr (fun i hi=>by
    match i,hi with
    |0,_|1,_|2,_|3,_|4,_=>rfl)
  |false=>
   rw[hC0]at e3 e4;have e3:was=true:=by simpa using e3
   rw[ai]at e4 ⊢;cases hC1:secB pl rq co se n3 with
   |true=>
    rw[hC1,ac]at e4;rw[ac];obtain⟨q1,q5,q2,q3,q4⟩:=jH e4;clear e4;generalize hK:dZ pl rq co se n3 c3=K at*
    have hs:aa 5 (tls K)=tls K:=shT 5 K;have hk:okT K.length (tls K)=true:=dT (by omega);have hv:vwR K.length (tls K)=K:=bf K;have hb:K.length.ble 4=true:=ap k4;subst e3 q1 q2 q3 q4;have q5:K=[]:=q5;subst q5;simp only[hs,hk,hv,hb,dV,beq_self_eq_true,Bool.not_true,Bool.and_self,Bool.and_true,ac,ai,bne,e2];cases hT:(kdI pl rq true ha mo==1)with
    |true=>
     simp only[hT,Bool.not_true,Bool.not_false,ac,ai,show(((([]:List TL).length:Nat):Int)==0)=true from rfl,bne]
     first
      |exact⟨no_sp h0 r h _ _ _ [] (fun i hi=>by
     match i,hi with
     |0,_|1,_|2,_|3,_|4,_=>rfl) rfl rfl rfl rfl,ah (lp h0 r h _ _ _ [] (by simp)) (fun j=>fv hy hr (fun i hi=>by
     match i,hi with
     |0,_|1,_|2,_|3,_|4,_=>rfl))⟩
    |false=>
     simp only[hT,Bool.not_true,Bool.not_false,ac,ai,bne]
     first
      |exact⟨no_sp h0 r h _ _ _ [] (fun i hi=>by
     match i,hi with
     |0,_|1,_|2,_|3,_|4,_=>rfl) rfl rfl rfl rfl,ah (lp h0 r h _ _ _ [] (by simp)) (fun j=>fv hy hr (fun i hi=>by
     match i,hi with
     |0,_|1,_|2,_|3,_|4,_=>rfl))⟩
   |false=>
    rw[hC1,ai]at e4;rw[ai];obtain⟨q1,_,q2,q3,q4⟩:=jH e4;clear e4;subst e3 q1 q2 q3 q4;simp only[dV,beq_self_eq_true,Bool.not_true,Bool.and_self,Bool.and_true,ac,ai,bne,e2];cases hT:(kdI pl rq false ha mo==1)with
    |true=>
     simp only[hT,Bool.not_true,Bool.not_false,ac,ai];exact fv hy hr (fun i hi=>by
     match i,hi with
     |0,_|1,_|2,_|3,_|4,_=>rfl)
    |false=>
     simp only[hT,Bool.not_true,Bool.not_false,ac,ai];exact fv hy hr (fun i hi=>by
     match i,hi with
     |0,_|1,_|2,_|3,_|4,_=>rfl)
 ·rw[decide_eq_false hr,ai];exact⟨_,_,fun K hK=>hK r,n6 h0 r (fun i hi=>by
   match i,hi with
   |0,_|1,_|2,_|3,_|4,_=>rfl)⟩
theorem no_round1(pl rq:Bool)(h:List UInt8)(mx:Bool)(co:Int)(se:Bool)(x1:Value)(n1:Nat)(c1:List V)(x2:Value)(n2:Nat)(c2:List V)(x3:Value)(n3:Nat)(c3:List V)(ha:Bool)(mo:Int)(x4:Value)(n4:Nat)(c4:List V)(ag:Int)(hb:List UInt8)(xb:Value)(nb:Nat)(cb:List V)(b1 b2:Bool)(b3:Int)(on:Nat)(oc:List V)(wh:List UInt8)(wn:Nat)(wk:List V)(w1 w2:Bool)(w3:Int)(was:Bool)(r:Nat)(hp:cT ⟨⟨pl,rq,h,mx,co,se,x1,n1,c1,x2,n2,c2,x3,n3,c3,ha,mo,x4,n4,c4,ag,hb,xb,nb,cb,b1,b2,b3,on,oc,wh,some wn,wk,w1,w2,w3,was⟩,r⟩=true):aJ Qq (NTV gw okT vwR nsB) 9 10 lkSP 5 250 [2,3,4,5,6,7,8] (noV ⟨⟨pl,rq,h,mx,co,se,x1,n1,c1,x2,n2,c2,x3,n3,c3,ha,mo,x4,n4,c4,ag,hb,xb,nb,cb,b1,b2,b3,on,oc,wh,some wn,wk,w1,w2,w3,was⟩,r⟩) (noJ ⟨⟨pl,rq,h,mx,co,se,x1,n1,c1,x2,n2,c2,x3,n3,c3,ha,mo,x4,n4,c4,ag,hb,xb,nb,cb,b1,b2,b3,on,oc,wh,some wn,wk,w1,w2,w3,was⟩,r⟩) (aQ 0 cT noV noJ noMu noOut ⟨⟨pl,rq,h,mx,co,se,x1,n1,c1,x2,n2,c2,x3,n3,c3,ha,mo,x4,n4,c4,ag,hb,xb,nb,cb,b1,b2,b3,on,oc,wh,some wn,wk,w1,w2,w3,was⟩,r⟩):=by
 have hp':=hp;unfold cT ntOk at hp';simp only[af]at hp';obtain⟨⟨h0,e1,e2,ew,e3,e4⟩,e5⟩:=hp';have hy:ntOk ⟨pl,rq,h,mx,co,se,x1,n1,c1,x2,n2,c2,x3,n3,c3,ha,mo,x4,n4,c4,ag,hb,xb,nb,cb,b1,b2,b3,on,oc,wh,some wn,wk,w1,w2,w3,was⟩=true:=by unfold cT at hp;rw[af]at hp;exact hp.1
 have e1:(okT n3 c3&&okS n4 c4)=true:=by rw[af];exact e1
 have e2:okT nb cb=true:=e2;show aJ Qq (NTV gw okT vwR nsB) 9 10 lkSP 5 250 [2,3,4,5,6,7,8] [.ptr 0 0,.ptr 1 0,.bool false,.slice 2 0 on false 0 0,.ptr 3 0,.bool was,.int .i64 r] [.row [.bool pl,.bool rq,.str h,.bool mx,.int .u8 co,.bool se,.lst x1 n1 c1,.lst x2 n2 c2,.lst x3 n3 c3,.bool ha,.int .u8 mo,.lst x4 n4 c4,.int .i64 ag] 58 13,.row [.str hb,.lst xb nb cb,.bool b1,.bool b2,.int .u8 b3] 38 5,.row oc 72 4,.row [.str wh,.slice 4 0 wn false 0 0,.bool w1,.bool w2,.int .u8 w3] 43 5,.row wk 72 4] _;rw[nt_real1];unfold ntTree1;have k4:=m7 pl rq co se n3 c3;have hw:okT wn wk=true:=ew;obtain⟨l,rfl,rfl,l1,l2⟩:=bN hw;unfold gq tC0 tC1 tK wL at e4;unfold tC0 at e3;have hvl:∀q:List TL,vwR q.length (tls q)=q:=fun q=>bf q;have hI:∀q:List TL,decide ((q.length:Int)>0)=!((q.length:Int)==0):=fun q=>by cases q<;>simp<;>omega
 simp only[e1,e2,hw,hvl,bf,ay,Bool.and_true,Bool.and_self,ac]at e3 e4 ⊢;by_cases hr:(r:Int)<2
 ·rw[az hr,ac];have hr:r<2:=by omega
  cases hC0:notB pl rq mx co se n3 c3 ha mo c4 h with
  |true=>
   rw[hC0]at e3 e4;have e3:was=false:=by simpa using e3
   obtain⟨q1,q5,q2,q3,q4⟩:=jH e4;clear e4;subst e3 q1 q5 q2 q3 q4;simp only[hw,dV,beq_self_eq_true,Bool.not_true,Bool.and_self,ac,ai,show((0:Int)!=1)=true from rfl];exact fv hy hr (fun i hi=>by
    match i,hi with
    |0,_|1,_|2,_|3,_|4,_=>rfl)
  |false=>
   rw[hC0]at e3 e4;have e3:was=true:=by simpa using e3
   rw[ai]at e4 ⊢;cases hC1:secB pl rq co se n3 with
   |true=>
    rw[hC1,ac]at e4;rw[ac];obtain⟨q1,q5,q2,q3,q4⟩:=jH e4;clear e4;generalize hK:dZ pl rq co se n3 c3=K at*
    have hs:aa 5 (tls K)=tls K:=shT 5 K;have hk:okT K.length (tls K)=true:=dT (by omega);have hb:K.length.ble 4=true:=ap k4;subst e3 q1 q2 q3 q4;subst q5;have hIK:=hI K;simp only[hs,hk,hvl,hb,hIK,dV,beq_self_eq_true,Bool.not_true,Bool.and_self,Bool.and_true,ac,ai,bne,e2];cases hT:(kdI pl rq true ha mo==1)<;>cases hZ:((K.length:Int)==0)<;>(
     simp only[Bool.not_true,Bool.not_false,ac,ai]
     first
      |exact⟨no_sp h0 r h _ _ _ K (fun i hi=>by
     match i,hi with
     |0,_|1,_|2,_|3,_|4,_=>rfl) rfl rfl rfl rfl,ah (lp h0 r h _ _ _ K k4) (fun j=>fv hy hr (fun i hi=>by
     match i,hi with
     |0,_|1,_|2,_|3,_|4,_=>rfl))⟩)
   |false=>
    rw[hC1,ai]at e4;rw[ai];obtain⟨q1,q5,q2,q3,q4⟩:=jH e4;clear e4;subst e3 q1 q5 q2 q3 q4;simp only[hw,dV,beq_self_eq_true,Bool.not_true,Bool.and_self,Bool.and_true,ac,ai,bne,e2];cases hT:(kdI pl rq false ha mo==1)<;>(
     simp only[Bool.not_true,Bool.not_false,ac,ai]
     first
      |exact fv hy hr (fun i hi=>by
     match i,hi with
     |0,_|1,_|2,_|3,_|4,_=>rfl))
 ·rw[decide_eq_false hr,ai];exact⟨_,_,fun K hK=>hK r,n6 h0 r (fun i hi=>by
   match i,hi with
   |0,_|1,_|2,_|3,_|4,_=>rfl)⟩
theorem no_roundOk(x:NTO)(hp:cT x=true):aJ Qq (NTV gw okT vwR nsB) 9 10 lkSP 5 250 [2,3,4,5,6,7,8] (noV x) (noJ x) (aQ 0 cT noV noJ noMu noOut x):=by
 obtain⟨⟨pl,rq,h,mx,co,se,x1,n1,c1,x2,n2,c2,x3,n3,c3,ha,mo,x4,n4,c4,ag,hb,xb,nb,cb,b1,b2,b3,on,oc,wh,wn,wk,w1,w2,w3,was⟩,r⟩:=x;cases wn with
 |none=>
  have hw:wk.isEmpty=true:=by
   unfold cT ntOk at hp;simp only[af]at hp;exact hp.1.2.2.2.1
  obtain rfl:wk=[]:=List.isEmpty_iff.1 hw;exact no_round0 pl rq h mx co se x1 n1 c1 x2 n2 c2 x3 n3 c3 ha mo x4 n4 c4 ag hb xb nb cb b1 b2 b3 on oc wh w1 w2 w3 was r hp
 |some wn=>exact no_round1 pl rq h mx co se x1 n1 c1 x2 n2 c2 x3 n3 c3 ha mo x4 n4 c4 ag hb xb nb cb b1 b2 b3 on oc wh wn wk w1 w2 w3 was r hp
theorem NTV_ok:TabOk3 Qq (NTV gw okT vwR nsB):=⟨bg aW tellT_ok,fx (fx (fx aX cloneX_ok) nsX_ok) rnsX_ok,aE 9⟩
def noDec:List (Option V)→St→Option NTO
 |[some (.ptr a 0),some (.ptr b 0),some (.bool false),some (.slice o 0 on false 0 0),some (.ptr w 0),some (.bool was),some (.int .i64 0)],st=>match ntI a b o on w was st with
  |some y=>some ⟨y,0⟩
  |none=>none
 |_,_=>none
def kE(pl rq mx se ha:Bool)(h:List UInt8)(co mo ag:Int)(x1 x2 x3 x4:Value)(n1 n2 n3 n4:Nat)(c1 c2 c3 c4 oc:List V):=[Blk.row [V.bool pl,V.bool rq,V.str h,V.bool mx,V.int u8 co,V.bool se,V.lst x1 n1 c1,V.lst x2 n2 c2,V.lst x3 n3 c3,V.bool ha,V.int u8 mo,V.lst x4 n4 c4,V.int i64 ag] 58 13,Blk.row oc 72 4]
def mg(on:Nat)(i:Int):=[some (V.ptr 0 0),some (V.bool false),some (V.slice 1 0 on false 0 0),some (V.int i64 i)]
theorem la_round(pl rq:Bool)(h:List UInt8)(mx:Bool)(co:Int)(se:Bool)(x1:Value)(n1:Nat)(c1:List V)(x2:Value)(n2:Nat)(c2:List V)(x3:Value)(n3:Nat)(c3:List V)(ha:Bool)(mo:Int)(x4:Value)(n4:Nat)(c4:List V)(ag:Int)(on:Nat)(oc:List V)(i:Int)(R:Qz):aJ Qq G0 9 10 (ar 9) 5 506 [2,4,5,17] [.ptr 0 0,.bool false,.slice 1 0 on false 0 0,.int .i64 i] [.row [.bool pl,.bool rq,.str h,.bool mx,.int .u8 co,.bool se,.lst x1 n1 c1,.lst x2 n2 c2,.lst x3 n3 c3,.bool ha,.int .u8 mo,.lst x4 n4 c4,.int .i64 ag] 58 13,.row oc 72 4] R=
 (
 bif decide (i<(↑on:Int))then bif decide (0≤i)&&decide (i<(↑on:Int))then bif (0+i.toNat*4+4).ble oc.length then bif aj u8 (oc.getD
 (0+i.toNat*4+0) (.bool false))then bif aj u8 (oc.getD (0+i.toNat*4+1) (.bool false))then bif aj u8 (oc.getD (0+i.toNat
 *4+2) (.bool false))then bif aw (oc.getD (0+i.toNat*4+3) (.bool false))then bif decide (0≤i)&&decide (i<(↑n3:Int))then bif (i.toNat*4
 +4).ble c3.length then bif aj u8 (c3.getD (i.toNat*4+0) (.bool false))then bif aj u8 (c3.getD (i.toNat*4+1) (.bool false))
 then bif aj u8 (c3.getD (i.toNat*4+2) (.bool false))then bif aw (c3.getD (i.toNat*4+3) (.bool false))then bif au (oc.getD (0+
 i.toNat*4+0) (.bool false))==au (c3.getD (i.toNat*4+0) (.bool false))then bif au (oc.getD (0+i.toNat*4+1) (.bool false))==au
 (c3.getD (i.toNat*4+1) (.bool false))then bif au (oc.getD (0+i.toNat*4+2) (.bool false))==au (c3.getD (i.toNat*4+2) (.bool false))
 then bif al (oc.getD (0+i.toNat*4+3) (.bool false))==al (c3.getD (i.toNat*4+3) (.bool false))then R .normal [some (.ptr 0 0),some
 (.bool false),some (.slice 1 0 on false 0 0),some (.int i64 (i64.wrap (i+1)))] (kE pl rq mx se ha h co mo ag x1 x2 x3 x4 n1 n2 n3 n4 c1
 c2 c3 c4 oc)else R .ret (mg on i) (kE pl rq mx se ha h co mo ag x1 x2 x3 x4 n1 n2 n3 n4 c1 c2 c3 c4 oc)else R .ret (mg on i) (kE pl rq mx
 se ha h co mo ag x1 x2 x3 x4 n1 n2 n3 n4 c1 c2 c3 c4 oc)else R .ret (mg on i) (kE pl rq mx se ha h co mo ag x1 x2 x3 x4 n1 n2 n3 n4 c1 c2 c3 c4 oc)
 else R .ret (mg on i) (kE pl rq mx se ha h co mo ag x1 x2 x3 x4 n1 n2 n3 n4 c1 c2 c3 c4 oc)else False else False else False else False else False else
 False else False else False else False else False else False else False else R (.exit 4) (mg on i) (kE pl rq mx se ha h co mo ag x1 x2 x3 x4 n1 n2 n3
 n4 c1 c2 c3 c4 oc)):=by kernel_rfl
structure LAX where
 y:NTS
 i:Nat
def laV(x:LAX):List V:=[.ptr 0 0,.bool false,.slice 1 0 x.y.on false 0 0,.int .i64 x.i]
def laJ(x:LAX):St:=[ntA x.y,ntO x.y]
def fc(x:LAX):Bool:=(okT x.y.on x.y.oc&&(okT x.y.n3 x.y.c3&&eqsB (tlD x.y.oc) (tlD x.y.c3)))&&Nat.ble x.i x.y.on
def laMu(x:LAX):Nat:=x.y.on-x.i
def laOutG(y:NTS)(K:Exit→List V→St→Prop):Prop:=∀j:Int,K (.exit 4) [.ptr 0 0,.bool false,.slice 1 0 y.on false 0 0,.int .i64 j] [ntA y,.dead]
def laOut:Asks LAX:=fun x K=>laOutG x.y K
theorem la_fits(y:NTS)(hf:ax y.oc=true)(i:Int):Fits 0 [.ptr 0 0,.bool false,.slice 1 0 y.on false 0 0,.int .i64 i] [ntA y,ntO y] [some (.ptr 0 0),some (.bool false),some (.slice 1 0 y.on false 0 0),some (.int .i64 i)] [ntA y,ntO y]:=
 ⟨[0,1],[.ptr 0 0,.bool false,.slice 1 0 y.on false 0 0,.int .i64 i],rfl,rfl,FitsM.of ⟨.inr ⟨_,.inl rfl,rfl⟩,fb hf rfl,trivial⟩,by decide,fun i hi=>by omega⟩
theorem la_out(y:NTS)(i:Int)(b:Blk):Fits 0 [.ptr 0 0,.bool false,.slice 1 0 y.on false 0 0,.int .i64 i] [ntA y,.dead] [some (.ptr 0 0),some (.bool false),some (.slice 1 0 y.on false 0 0),some (.int .i64 i)] [ntA y,b]:=
 ⟨[0,1],[.ptr 0 0,.bool false,.slice 1 0 y.on false 0 0,.int .i64 i],rfl,rfl,FitsM.of ⟨.inr ⟨_,.inl rfl,rfl⟩,.inl rfl,trivial⟩,by decide,fun i hi=>by omega⟩
theorem la_roundOk(x:LAX)(hp:fc x=true):aJ Qq G0 9 10 (ar 9) 5 506 [2,4,5,17] (laV x) (laJ x) (aQ 0 fc laV laJ laMu laOut x):=by
 obtain⟨⟨pl,rq,h,mx,co,se,x1,n1,c1,x2,n2,c2,x3,n3,c3,ha,mo,x4,n4,c4,ag,hb,xb,nb,cb,b1,b2,b3,on,oc,wh,wn,wk,w1,w2,w3,was⟩,i⟩:=x;have hp':=hp;unfold fc at hp';simp only[af]at hp';obtain⟨⟨h1,h2,h3⟩,h4⟩:=hp';have h1:okT on oc=true:=h1;have h2:okT n3 c3=true:=h2;have h3:eqsB (tlD oc) (tlD c3)=true:=h3;have h4:i≤on:=aD h4;obtain⟨q,rfl,rfl,p1,p2⟩:=bN h1;obtain⟨l,rfl,rfl,p3,p4⟩:=bN h2;rw[p2,p4]at h3;obtain rfl:=ow h3;show aJ Qq G0 9 10 (ar 9) 5 506 [2,4,5,17] [.ptr 0 0,.bool false,.slice 1 0 q.length false 0 0,.int .i64 i] [.row [.bool pl,.bool rq,.str h,.bool mx,.int .u8 co,.bool se,.lst x1 n1 c1,.lst x2 n2 c2,.lst x3 q.length (tls q),.bool ha,.int .u8 mo,.lst x4 n4 c4,.int .i64 ag] 58 13,.row (tls q) 72 4] _;rw[la_round];unfold mg kE;by_cases hi:(i:Int)<(q.length:Int)
 ·obtain⟨c,r,hd⟩:∃c r,q.drop i=c::r:=by
   cases hd:q.drop i with
   |nil=>have:=congrArg List.length hd;rw[List.length_drop]at this;simp at this;omega
   |cons c r=>exact⟨c,r,rfl⟩
  obtain⟨a0,a1,a2,a3,a4⟩:=i4 hd;have d0:decide ((i:Int)<(q.length:Int))=true:=az hi;have d1:decide ((0:Int)≤(i:Int))=true:=az (by omega);have z:∀k,0+i*4+k=i*4+k:=fun k=>by omega
  simp only[d0,d1,bK,z,a0,a1,a2,a3,a4,aw,aj,al,au,decide_true,beq_self_eq_true,Bool.and_self,ac,show i64.wrap ((i:Int)+1)=((i+1:Nat):Int) by rw[IntWalk.i64_in _ ⟨by omega,by omega⟩];omega];refine⟨⟨⟨pl,rq,h,mx,co,se,x1,n1,c1,x2,n2,c2,x3,q.length,tls q,ha,mo,x4,n4,c4,ag,hb,xb,nb,cb,b1,b2,b3,q.length,tls q,wh,wn,wk,w1,w2,w3,was⟩,i+1⟩,?_,la_fits _ (bR q) _,by simp only[laMu];omega,fun K hK=>hK⟩;unfold fc;simp only[af];exact⟨⟨h1,h2,by rw[p2];exact ic q⟩,ap (show i+1≤q.length by omega)⟩
 ·rw[decide_eq_false hi,ai];exact⟨_,_,fun K hK=>hK i,la_out _ i _⟩
def laDec:List (Option V)→St→Option LAX
 |[some (.ptr a 0),some (.bool false),some (.slice o 0 on false 0 0),some (.int .i64 0)],st=>match rowI st a with
  |some [.bool pl,.bool rq,.str h,.bool mx,.int .u8 co,.bool se,.lst x1 n1 c1,.lst x2 n2 c2,.lst x3 n3 c3,.bool ha,.int .u8 mo,.lst x4 n4 c4,.int .i64 ag]=>match rowI st o with
   |some oc=>some ⟨⟨pl,rq,h,mx,co,se,x1,n1,c1,x2,n2,c2,x3,n3,c3,ha,mo,x4,n4,c4,ag,[],x3,0,[],false,false,0,on,oc,[],none,[],false,false,0,false⟩,0⟩
   |none=>none
  |_=>none
 |_,_=>none
def lkNT:Nat→Trans→Trans:=bq 506 (dc 0 (szOf Qq 5) [2,4,5,17] laDec fc laV laJ laOut) (bq 250 (dc 0 (szOf Qq 5) [2,3,4,5,6,7,8] noDec cT noV noJ noOut) (ar 9))
theorem lkNT_ok:ba Qq 0 lkNT 5:=by
 unfold lkNT;refine cx (cx (bJ 9 0 _) (by kernel_rfl) fun f st Q h=>?_) (by kernel_rfl) fun f st Q h=>?_
 ·exact bO (P:=Qq) (T:=NTV gw okT vwR nsB) (k:=0) (lim:=9) (n:=10) (g:=5) (p0:=250) (lk:=lkSP) aI NTV_ok lkSP_ok noMu no_roundOk h
 ·exact bO (P:=Qq) (T:=G0) (k:=0) (lim:=9) (n:=10) (g:=5) (p0:=506) (lk:=ar 9) aI G0_ok (bt 9 _ _) laMu la_roundOk h
def FI0:Tab:=⟨addT (addP noT 63 efT) 36 polT,noL,bk 9⟩
theorem FI0_ok:TabOk3 Qq FI0:=⟨bg (bh aW ef_ok) polT_ok,aX,aE 9⟩
def FI1:Tab:=⟨addT noT 56 rpolT,noL,bk 9⟩
theorem FI1_ok:TabOk3 Qq FI1:=⟨bg aW rpolT_ok,aX,aE 9⟩
theorem fit_tree(pl rq:Bool)(h:List UInt8)(mx:Bool)(co:Int)(se:Bool)(x1:Value)(n1:Nat)(c1:List V)(x2:Value)(n2:Nat)(c2:List V)(x3:Value)(n3:Nat)(c3:List V)(ha:Bool)(mo:Int)(x4:Value)(n4:Nat)(c4:List V)(ag:Int)(R:V→Prop):runW Qq FI0 9 10 31 [.agg [.bool pl,.bool rq,.str h,.bool mx,.int .u8 co,.bool se,.lst x1 n1 c1,.lst x2 n2 c2,.lst x3 n3 c3,.bool ha,.int .u8 mo,.lst x4 n4 c4,.int .i64 ag]] R=
  (
 bif !efB pl rq ha mo then R (.bool true)else bif okS n4 c4 then R (.bool (polM (List.map al c4) h))else False):=by kernel_rfl
theorem rfit_tree(pl rq:Bool)(h:List UInt8)(mx:Bool)(co:Int)(se:Bool)(x1:Value)(n1:Nat)(c1:List V)(x2:Value)(n2:Nat)(c2:List V)(x3:Value)(n3:Nat)(c3:List V)(ha:Bool)(mo:Int)(x4:Value)(n4:Nat)(c4:List V)(ag:Int)(R:V→Prop):runW Qq FI1 9 10 32 [.agg [.bool pl,.bool rq,.str h,.bool mx,.int .u8 co,.bool se,.lst x1 n1 c1,.lst x2 n2 c2,.lst x3 n3 c3,.bool ha,.int .u8 mo,.lst x4 n4 c4,.int .i64 ag]] R=
  (
 bif pl then bif !rq then R (.bool true)else bif !ha then R (.bool true)else bif mo !=3 then R (.bool true)else bif okS n4 c4&&(lenA c4&&aF h)then R (.bool
 (polM (List.map al c4) h))else False else bif !ha then R (.bool true)else bif mo !=3 then R (.bool true)else bif okS n4 c4&&(lenA c4&&aF h)then R
 (.bool (polM (List.map al c4) h))else False):=by kernel_rfl
def fitB(pl rq:Bool)(h:List UInt8)(ha:Bool)(mo:Int)(c4:List V):Bool:=!efB pl rq ha mo||polM (c4.map al) h
def fitT:List V→Option (Qx)
 |[.agg [.bool pl,.bool rq,.str h,.bool _,.int .u8 _,.bool _,.lst _ _ _,.lst _ _ _,.lst _ _ _,.bool ha,.int .u8 mo,.lst _ n4 c4,.int .i64 _]]=>some [(okS n4 c4&&(lenA c4&&aF h),(.bool (fitB pl rq h ha mo c4),[]))]
 |_=>none
theorem fitT_ok(args:List V)(L:Qx)(o:V×St)(h:fitT args=some L)(ho:aO L=some o):FnSat Qq 31 args [] (Is o):=by
 unfold fitT at h;split at h
 ·rename_i pl rq hh mx co se x1 n1 c1 x2 n2 c2 x3 n3 c3 ha mo x4 n4 c4 ag;cases h;obtain⟨hk,rfl⟩:=a7 ho;rw[af]at hk;refine aP (lim:=9) (n:=10) aI FI0_ok rfl rfl ?_;rw[fit_tree];rw[hk.1];unfold fitB;generalize polM (c4.map al) hh=P;generalize efB pl rq ha mo=E;cases E<;>cases P<;>rfl
 ·cases h
theorem rfitT_ok(args:List V)(L:Qx)(o:V×St)(h:fitT args=some L)(ho:aO L=some o):FnSat Qq 32 args [] (Is o):=by
 unfold fitT at h;split at h
 ·rename_i pl rq hh mx co se x1 n1 c1 x2 n2 c2 x3 n3 c3 ha mo x4 n4 c4 ag;cases h;obtain⟨hk,rfl⟩:=a7 ho;refine aP (lim:=9) (n:=10) aI FI1_ok rfl rfl ?_;rw[rfit_tree];simp only[hk,ac,bne];unfold fitB efB;generalize polM (c4.map al) hh=P;generalize (mo==3)=M;cases pl<;>cases rq<;>cases ha<;>cases M<;>cases P<;>rfl
 ·cases h
def LG0:Tab:=⟨noT,noL,bk 9⟩
theorem LG0_ok:TabOk3 Qq LG0:=⟨aW,aX,aE 9⟩
theorem hY(vs:List V)(h:ax vs=true)(l:List (Option V))(hl:l=vs.map some)(st:St):Fits 0 vs [] l st:=⟨[],vs,hl,bu vs h,FitsM.of trivial,by simp,fun i hi=>by omega⟩
theorem l1_round(x y:Value)(n m:Nat)(cs ds:List V)(a i:Int)(R:Qz):aJ Qq LG0 9 10 (ar 9) 16 58 [0,1,4,5,6] [.lst x n cs,.lst y m ds,.bool false,.int .i64 a,.int .i64 i] [] R=
  (
 bif decide (i<(↑n:Int))then bif decide (a<6000)then bif decide (0≤i)&&decide (i<(↑n:Int))then bif (i.toNat*1).blt cs.length then bif aw (cs.getD
 (i.toNat*1) (.bool false))then R .normal [some (.lst x n cs),some (.lst y m ds),some (.bool false),some (.int i64 (i64.wrap
 (i64.wrap (a+5)+if(↑(al (cs.getD (i.toNat*1) (.bool false))).length:Int)<6000 then(↑(al (cs.getD (i.toNat*1) (.bool false))).length:Int)
 else 6000))),some (.int i64 (i64.wrap (i+1)))] []else False else False else False else R (.exit 0) [some (.lst x n cs),some (.lst y m ds),
 some (.bool false),some (.int i64 a),some (.int i64 i)] []else R (.exit 0) [some (.lst x n cs),some (.lst y m ds),some (.bool false),some
 (.int i64 a),some (.int i64 i)] []):=by kernel_rfl
theorem l2_round(x y:Value)(n m:Nat)(cs ds:List V)(a i:Int)(R:Qz):aJ Qq LG0 9 10 (ar 9) 16 122 [1,4,5,7] [.lst y m ds,.bool false,.int .i64 a,.int .i64 i] [] R=
  (
 bif decide (i<(↑m:Int))then bif decide (a<6000)then bif decide (0≤i)&&decide (i<(↑m:Int))then bif (i.toNat*4+3).blt ds.length then bif aw
 (ds.getD (i.toNat*4+3) (.bool false))then R .normal [some (.lst y m ds),some (.bool false),some (.int i64 (i64.wrap (i64.wrap (a+
 20)+if(↑(al (ds.getD (i.toNat*4+3) (.bool false))).length:Int)<6000 then(↑(al (ds.getD (i.toNat*4+3) (.bool false))).length:Int)else 6000))),
 some (.int i64 (i64.wrap (i+1)))] []else False else False else False else R (.exit 2) [some (.lst y m ds),some (.bool false),some (.int
 i64 a),some (.int i64 i)] []else R (.exit 2) [some (.lst y m ds),some (.bool false),some (.int i64 a),some (.int i64 i)] []):=by kernel_rfl
def l1N:Nat→List (List UInt8)→Nat
 |n,[]=>n
 |n,s::r=>if n<6000 then l1N (n+5+min 6000 s.length) r else n
def l2N:Nat→List TL→Nat
 |n,[]=>n
 |n,s::r=>if n<6000 then l2N (n+20+min 6000 s.d.length) r else n
theorem l1N_le:∀(l:List (List UInt8)) (n:Nat),n≤20000→l1N n l≤20000
 |[],n,h=>h
 |s::r,n,h=>by
  unfold l1N;split
  ·exact l1N_le r _ (by omega)
  ·exact h
structure L1 where
 x:Value
 y:Value
 n:Nat
 m:Nat
 cs:List V
 ds:List V
 a:Nat
 i:Nat
def l1V(q:L1):List V:=[.lst q.x q.n q.cs,.lst q.y q.m q.ds,.bool false,.int .i64 q.a,.int .i64 q.i]
def l1J(_:L1):St:=[]
def jl(q:L1):Bool:=okS q.n q.cs&&(Nat.ble q.i q.n&&Nat.ble q.a 20000)
def l1Mu(q:L1):Nat:=q.n-q.i
def l1Dec:List (Option V)→St→Option L1
 |[some (.lst x n cs),some (.lst y m ds),some (.bool false),some (.int .i64 a),some (.int .i64 0)],_=>some ⟨x,y,n,m,cs,ds,a.toNat,0⟩
 |_,_=>none
def l1S(a:Nat)(cs:List V):Nat:=l1N a (cs.map al)
def oi(x y:Value)(n m:Nat)(cs ds:List V)(a:Nat)(K:Exit→List V→St→Prop):Prop:=∀j:Nat,K (.exit 0) [.lst x n cs,.lst y m ds,.bool false,.int .i64 a,.int .i64 j] []
def l1Out:Asks L1:=fun q K=>oi q.x q.y q.n q.m q.cs q.ds (l1S q.a (q.cs.drop q.i)) K
theorem l1_roundOk(q:L1)(hx:jl q=true):aJ Qq LG0 9 10 (ar 9) 16 58 [0,1,4,5,6] (l1V q) (l1J q) (aQ 0 jl l1V l1J l1Mu l1Out q):=by
 obtain⟨x,y,n,m,cs,ds,a,i⟩:=q;unfold jl at hx;simp only[af]at hx;have hx1:okS n cs=true:=hx.1;have p1:i≤n:=aD hx.2.1;have p0:a≤20000:=aD hx.2.2;obtain⟨l,rfl,rfl,p2,p3⟩:=gF hx1;show aJ Qq LG0 9 10 (ar 9) 16 58 [0,1,4,5,6] [.lst x l.length (strs l),.lst y m ds,.bool false,.int .i64 a,.int .i64 i] [] _;rw[l1_round];have ha:∀b j,l1S b ((strs l).drop j)=l1N b (l.drop j):=fun b j=>by
  unfold l1S;rw[List.map_drop,bV]
 have out:∀K,l1Out ⟨x,y,l.length,m,strs l,ds,a,i⟩ K→oi x y l.length m (strs l) ds (l1N a (l.drop i)) K:=fun K hK=>by
  have hK:oi x y l.length m (strs l) ds (l1S a ((strs l).drop i)) K:=hK;rw[ha]at hK;exact hK
 have fin:l1N a (l.drop i)=a→aQ 0 jl l1V l1J l1Mu l1Out ⟨x,y,l.length,m,strs l,ds,a,i⟩ (.exit 0) [some (.lst x l.length (strs l)),some (.lst y m ds),some (.bool false),some (.int .i64 a),some (.int .i64 i)] []:=fun h=>by
  refine⟨[.lst x l.length (strs l),.lst y m ds,.bool false,.int .i64 a,.int .i64 i],_,fun K hK=>?_,hY _ rfl _ rfl _⟩;have hK:=out K hK;rw[h]at hK;exact hK i
 cases hd:l.drop i with
 |nil=>
  have hi:=fR hd p1;rw[decide_eq_false (show ¬((i:Int)<(l.length:Int)) by omega),ai];exact fin (by rw[hd];rfl)
 |cons c r=>
  obtain⟨e1,e2,e3⟩:=ef hd;obtain⟨e4,e5⟩:=kp hd;rw[az (show((i:Int)<(l.length:Int)) by omega),ac];refine ao (fun h=>?_) (fun h=>?_)
  ·have h:=a8 h;have q1:decide ((i:Int)<(l.length:Int))=true:=az (by omega);have q2:decide ((0:Int)≤(i:Int))=true:=az (by omega);simp only[q1,q2,bK,e4,e5,aw,al,ac,Bool.and_true,show i64.wrap ((i:Int)+1)=((i+1:Nat):Int) by rw[IntWalk.i64_in _ ⟨by omega,by omega⟩];omega];have q3:i64.wrap (i64.wrap ((a:Int)+5)+if(c.length:Int)<6000 then(c.length:Int)else 6000)=((a+5+min 6000 c.length:Nat):Int):=by
    rw[IntWalk.i64_in ((a:Int)+5) ⟨by omega,by omega⟩];split
    ·rw[IntWalk.i64_in _ ⟨by omega,by omega⟩];omega
    ·rw[IntWalk.i64_in _ ⟨by omega,by omega⟩];omega
   rw[q3];refine⟨⟨x,y,l.length,m,strs l,ds,a+5+min 6000 c.length,i+1⟩,?_,hY _ rfl _ rfl _,by simp only[l1Mu];omega,fun K hK=>?_⟩
   ·unfold jl;simp only[af];exact⟨hx1,ap (show i+1≤l.length by omega),ap (show a+5+min 6000 c.length≤20000 by omega)⟩
   ·have hK:=out K hK;show oi x y l.length m (strs l) ds (l1S (a+5+min 6000 c.length) ((strs l).drop (i+1))) K;rw[ha,e2];rw[hd,l1N,if_pos (by omega)]at hK;exact hK
  ·have h:=of_decide_eq_false h;exact fin (by rw[hd,l1N,if_neg (by omega)])
structure L2 where
 y:Value
 m:Nat
 ds:List V
 a:Nat
 i:Nat
def l2V(q:L2):List V:=[.lst q.y q.m q.ds,.bool false,.int .i64 q.a,.int .i64 q.i]
def l2J(_:L2):St:=[]
def jk(q:L2):Bool:=okT q.m q.ds&&(Nat.ble q.i q.m&&Nat.ble q.a 40000)
def l2Mu(q:L2):Nat:=q.m-q.i
def l2Dec:List (Option V)→St→Option L2
 |[some (.lst y m ds),some (.bool false),some (.int .i64 a),some (.int .i64 0)],_=>some ⟨y,m,ds,a.toNat,0⟩
 |_,_=>none
def l2S(a:Nat)(ds:List V)(i:Nat):Nat:=l2N a ((tlD ds).drop i)
def oh(y:Value)(m:Nat)(ds:List V)(a:Nat)(K:Exit→List V→St→Prop):Prop:=∀j:Nat,K (.exit 2) [.lst y m ds,.bool false,.int .i64 a,.int .i64 j] []
def l2Out:Asks L2:=fun q K=>oh q.y q.m q.ds (l2S q.a q.ds q.i) K
theorem l2_roundOk(q:L2)(hx:jk q=true):aJ Qq LG0 9 10 (ar 9) 16 122 [1,4,5,7] (l2V q) (l2J q) (aQ 0 jk l2V l2J l2Mu l2Out q):=by
 obtain⟨y,m,ds,a,i⟩:=q;unfold jk at hx;simp only[af]at hx;have hx1:okT m ds=true:=hx.1;have p1:i≤m:=aD hx.2.1;have p0:a≤40000:=aD hx.2.2;obtain⟨l,rfl,rfl,p2,p3⟩:=bN hx1;show aJ Qq LG0 9 10 (ar 9) 16 122 [1,4,5,7] [.lst y l.length (tls l),.bool false,.int .i64 a,.int .i64 i] [] _;rw[l2_round (.slice none 0 0) y 0 l.length [] (tls l)];have out:∀K,l2Out ⟨y,l.length,tls l,a,i⟩ K→oh y l.length (tls l) (l2N a (l.drop i)) K:=fun K hK=>by
  have hK:oh y l.length (tls l) (l2S a (tls l) i) K:=hK;unfold l2S at hK;rw[p3]at hK;exact hK
 have fin:l2N a (l.drop i)=a→aQ 0 jk l2V l2J l2Mu l2Out ⟨y,l.length,tls l,a,i⟩ (.exit 2) [some (.lst y l.length (tls l)),some (.bool false),some (.int .i64 a),some (.int .i64 i)] []:=fun h=>by
  refine⟨[.lst y l.length (tls l),.bool false,.int .i64 a,.int .i64 i],_,fun K hK=>?_,hY _ rfl _ rfl _⟩;have hK:=out K hK;rw[h]at hK;exact hK i
 cases hd:l.drop i with
 |nil=>
  have hi:=fR hd p1;rw[decide_eq_false (show ¬((i:Int)<(l.length:Int)) by omega),ai];exact fin (by rw[hd];rfl)
 |cons c r=>
  obtain⟨e1,e2,e3⟩:=ef hd;obtain⟨f4,f5⟩:=tls_at (j:=3) hd (by omega);have e5:(i*4+3).blt (tls l).length=true:=ap (by rw[Nat.mul_comm i 4];exact f5);have e4:(tls l).getD (i*4+3) (V.bool false)=.str c.d:=by
   rw[List.getD_eq_getElem?_getD,Nat.mul_comm i 4,f4];rfl
  rw[az (show((i:Int)<(l.length:Int)) by omega),ac];refine ao (fun h=>?_) (fun h=>?_)
  ·have h:=a8 h;have q1:decide ((i:Int)<(l.length:Int))=true:=az (by omega);have q2:decide ((0:Int)≤(i:Int))=true:=az (by omega);simp only[q1,q2,bK,e4,e5,aw,al,ac,Bool.and_true,show i64.wrap ((i:Int)+1)=((i+1:Nat):Int) by rw[IntWalk.i64_in _ ⟨by omega,by omega⟩];omega];have q3:i64.wrap (i64.wrap ((a:Int)+20)+if(c.d.length:Int)<6000 then(c.d.length:Int)else 6000)=((a+20+min 6000 c.d.length:Nat):Int):=by
    rw[IntWalk.i64_in ((a:Int)+20) ⟨by omega,by omega⟩];split
    ·rw[IntWalk.i64_in _ ⟨by omega,by omega⟩];omega
    ·rw[IntWalk.i64_in _ ⟨by omega,by omega⟩];omega
   rw[q3];refine⟨⟨y,l.length,tls l,a+20+min 6000 c.d.length,i+1⟩,?_,hY _ rfl _ rfl _,by simp only[l2Mu];omega,fun K hK=>?_⟩
   ·unfold jk;simp only[af];exact⟨hx1,ap (show i+1≤l.length by omega),ap (show a+20+min 6000 c.d.length≤40000 by omega)⟩
   ·have hK:=out K hK;show oh y l.length (tls l) (l2S (a+20+min 6000 c.d.length) (tls l) (i+1)) K;unfold l2S;rw[p3,e2];rw[hd,l2N,if_pos (by omega)]at hK;exact hK
  ·have h:=of_decide_eq_false h;exact fin (by rw[hd,l2N,if_neg (by omega)])
def lkLa:Nat→Trans→Trans:=bq 58 (dc 0 (szOf Qq 16) [0,1,4,5,6] l1Dec jl l1V l1J l1Out) (ar 9)
theorem lkLa_ok:ba Qq 0 lkLa 16:=by
 unfold lkLa;exact cx (bJ 9 0 16) (by kernel_rfl) fun f st Q h=>bO (P:=Qq) (T:=LG0) (k:=0) (lim:=9) (n:=10) (g:=16) (p0:=58) (lk:=ar 9) aI LG0_ok (bt 9 _ _) l1Mu l1_roundOk h
def lkLb:Nat→Trans→Trans:=bq 122 (dc 0 (szOf Qq 16) [1,4,5,7] l2Dec jk l2V l2J l2Out) lkLa
theorem lkLb_ok:ba Qq 0 lkLb 16:=by
 unfold lkLb;exact cx lkLa_ok (by kernel_rfl) fun f st Q h=>bO (P:=Qq) (T:=LG0) (k:=0) (lim:=9) (n:=10) (g:=16) (p0:=122) (lk:=ar 9) aI LG0_ok (bt 9 _ _) l2Mu l2_roundOk h
def LG1:Tab:=⟨noT,noL,er (bk 9) 16 0 lkLb⟩
theorem LG1_ok:TabOk3 Qq LG1:=⟨aW,aX,cD (aE 9) lkLb_ok⟩
theorem long_tree(x y:Value)(n m:Nat)(cs ds:List V)(R:V→Prop):runW Qq LG1 9 10 16 [.lst x n cs,.lst y m ds] R=
  (
 Fits 0 [.lst x n cs,.lst y m ds,.bool false,.int i64 0,.int i64 0] [] [some (.lst x n cs),some (.lst y m ds),some (.bool false),some (.int
 i64 0),some (.int i64 0)] []∧bif jl {x:=x,y:=y,n:=n,m:=m,cs:=cs,ds:=ds,a:=0,i:=0}then ∀(j:Nat),Fits 0 [.lst y m ds,
 .bool false,.int i64 (↑(↑(l1S 0 cs):Int).toNat:Int),.int i64 0] [] [some (.lst y m ds),some (.bool false),some (.int i64 (↑(l1S 0
 cs):Int)),some (.int i64 0)] []∧bif jk {y:=y,m:=m,ds:=ds,a:=(↑(l1S 0 cs):Int).toNat,i:=0}then ∀(j:Nat),R (.bool (decide ((↑(l2S
 (↑(l1S 0 cs):Int).toNat ds 0):Int)≥6000)))else False else False):=by kernel_rfl
def longN(l:List (List UInt8))(r:List TL):Nat:=l2N (l1N 0 l) r
def iw(l:List (List UInt8))(r:List TL):Bool:=decide (6000≤(longN l r:Int))
theorem long_sat(x y:Value)(l:List (List UInt8))(r:List TL)(h1:l.length≤9223372036854775807)(h2:r.length≤9223372036854775807):FnSat Qq 16 [lstS x l,lstT y r] [] (Is (.bool (iw l r),[])):=by
 refine aP (lim:=9) (n:=10) aI LG1_ok rfl rfl ?_;unfold lstS lstT;rw[long_tree];have hs:l1S 0 (strs l)=l1N 0 l:=by unfold l1S;rw[bV]
 have ho:okS l.length (strs l)=true:=by
  unfold okS;rw[fU,bF,Nat.beq_refl,ap h1];rfl
 have hl:=l1N_le l 0 (by omega);rw[hs,bK];refine⟨hY _ rfl _ rfl _,?_⟩;have e1:jl ⟨x,y,l.length,r.length,strs l,tls r,0,0⟩=true:=by
  unfold jl;show(okS l.length (strs l)&&(Nat.ble 0 l.length&&Nat.ble 0 20000))=true;rw[ho];rfl
 rw[e1,ac];intro j;refine⟨hY _ rfl _ rfl _,?_⟩;have e2:jk ⟨y,r.length,tls r,l1N 0 l,0⟩=true:=by
  unfold jk;show(okT r.length (tls r)&&(Nat.ble 0 r.length&&Nat.ble (l1N 0 l) 40000))=true;rw[dT h2,ap (show l1N 0 l≤40000 by omega)];rfl
 rw[e2,ac];intro j';have e3:l2S (l1N 0 l) (tls r) 0=longN l r:=by unfold l2S longN;rw[bf];rfl
 rw[e3];rfl
def gH(p q:V)(st:St):Bool:=match i0 st p,dy st q with
 |some (b,l),some (c,r)=>b&&(c&&(Nat.ble l.length 9223372036854775807&&Nat.ble r.length 9223372036854775807))
 |_,_=>false
def j7(p q:V)(st:St):Bool:=match i0 st p,dy st q with
 |some (_,l),some (_,r)=>iw l r
 |_,_=>false
def og(OK LB:V→V→St→Bool):List V→St→Option (Qx)
 |[p,q],st=>some [(OK p q st,(.bool (LB p q st),st))]
 |_,_=>none
theorem longG_ok(args:List V)(s:St)(l:Qx)(o:V×St)(h:og gH j7 args s=some l)(ho:aO l=some o):FnSat Qq 16 args s (Is o):=by
 unfold og at h;split at h
 ·rename_i p q;cases h;obtain⟨hb,rfl⟩:=a7 ho;unfold gH at hb;split at hb
  ·rename_i b ls c rs hv hw;simp only[af]at hb;obtain⟨rfl,rfl,h1,h2⟩:=hb;have hL:j7 p q s=iw ls rs:=by unfold j7;rw[hv,hw]
   rw[hL];refine jp rfl fun B W0 w m rargs hr ha=>?_;obtain⟨x,r,q1,q2,rfl⟩:=aq ha;obtain⟨y,r',q3,q4,rfl⟩:=aq q2;simp only[ak,ad]at q4;subst q4;have g1:=viewS_ok hr hv q1;have g2:=fG hr hw q3;exact⟨[lstS x ls,lstT y rs],by simp only[ak,g1,g2],@long_sat (Frz.of w) x y ls rs (aD h1) (aD h2)⟩
  ·cases hb
 ·cases h
structure AK where
 plain:Bool
 req:Bool
 host:List UInt8
 mx:Bool
 code:Int
 sec:Bool
 x1:Value
 n1:Nat
 c1:List V
 x2:Value
 n2:Nat
 c2:List V
 x3:Value
 n3:Nat
 c3:List V
 has:Bool
 mode:Int
 x4:Value
 n4:Nat
 c4:List V
 age:Int
def AK.v(a:AK):V:=.agg [.bool a.plain,.bool a.req,.str a.host,.bool a.mx,.int .u8 a.code,.bool a.sec,.lst a.x1 a.n1 a.c1,.lst a.x2 a.n2 a.c2,.lst a.x3 a.n3 a.c3,.bool a.has,.int .u8 a.mode,.lst a.x4 a.n4 a.c4,.int .i64 a.age]
def NP(OK LB:V→V→St→Bool):Tab:=⟨noT,addS noL 16 (og OK LB),bk 9⟩
theorem NP_ok:TabOk3 Qq (NP gH j7):=⟨aW,fx aX longG_ok,aE 9⟩
theorem large_tree(OK LB:V→V→St→Bool)(pl rq:Bool)(h:List UInt8)(mx:Bool)(co:Int)(se:Bool)(x1:Value)(n1:Nat)(c1:List V)(x2:Value)(n2:Nat)(c2:List V)(x3:Value)(n3:Nat)(c3:List V)(ha:Bool)(mo:Int)(x4:Value)(n4:Nat)(c4:List V)(ag:Int)(R:V→Prop):runW Qq (NP OK LB) 9 10 24 [.agg [.bool pl,.bool rq,.str h,.bool mx,.int .u8 co,.bool se,.lst x1 n1 c1,.lst x2 n2 c2,.lst x3 n3 c3,.bool ha,.int .u8 mo,.lst x4 n4 c4,.int .i64 ag]] R=
  (
 bif decide (0≤if 2000<(↑n4:Int)then 2000 else(↑n4:Int))then bif true&&(if 2000<(↑n4:Int)then 2000 else(↑n4:Int)).toNat.ble n4 then bif ((if 2000<
 (↑n4:Int)then 2000 else(↑n4:Int)).toNat-0).beq 0 then bif OK (.slice 1 0 1 true 1 0) (.lst x3 n3 c3) [.ro false [.bool pl,.bool rq,.str h,.bool mx,
 .int u8 co,.bool se,.lst x1 n1 c1,.lst x2 n2 c2,.lst x3 n3 c3,.bool ha,.int u8 mo,.lst x4 n4 c4,.int i64 ag],.ro false [.str
 h]]then bif LB (.slice 1 0 1 true 1 0) (.lst x3 n3 c3) [.ro false [.bool pl,.bool rq,.str h,.bool mx,.int u8 co,.bool se,.lst x1 n1 c1,.lst
 x2 n2 c2,.lst x3 n3 c3,.bool ha,.int u8 mo,.lst x4 n4 c4,.int i64 ag],.ro false [.str h]]then R (.bool true)else R (.bool (decide ((↑n4
 :Int)>1000)))else False else bif (List.take (((if 2000<(↑n4:Int)then 2000 else(↑n4:Int)).toNat-0)*1) c4).length.beq (((if 2000<(↑n4:Int)then 2000
 else(↑n4:Int)).toNat-0)*1)&&(List.take (((if 2000<(↑n4:Int)then 2000 else(↑n4:Int)).toNat-0)*1) c4).all V.one then bif (1+((if 2000<(↑n4:Int)
 then 2000 else(↑n4:Int)).toNat-0)).ble 9223372036854775807&&((1+((if 2000<(↑n4:Int)then 2000 else(↑n4:Int)).toNat-0))*16).ble 140737488355328 then
 bif OK (.slice 2 0 (1+((if 2000<(↑n4:Int)then 2000 else(↑n4:Int)).toNat-0)) false 0 0) (.lst x3 n3 c3) [.ro false [.bool pl,.bool rq,.str h,.bool
 mx,.int u8 co,.bool se,.lst x1 n1 c1,.lst x2 n2 c2,.lst x3 n3 c3,.bool ha,.int u8 mo,.lst x4 n4 c4,.int i64 ag],.ro false
 [.str h],.ro false (.str h::List.append [] (List.take (((if 2000<(↑n4:Int)then 2000 else(↑n4:Int)).toNat-0)*Nat.succ 0) (List.drop (0*Nat.succ 0)
 c4)))]then bif LB (.slice 2 0 (1+((if 2000<(↑n4:Int)then 2000 else(↑n4:Int)).toNat-0)) false 0 0) (.lst x3 n3 c3) [.ro false [.bool pl,.bool rq,
 .str h,.bool mx,.int u8 co,.bool se,.lst x1 n1 c1,.lst x2 n2 c2,.lst x3 n3 c3,.bool ha,.int u8 mo,.lst x4 n4 c4,.int i64 ag],
 .ro false [.str h],.ro false (.str h::List.append [] (List.take (((if 2000<(↑n4:Int)then 2000 else(↑n4:Int)).toNat-0)*Nat.succ 0) (List.drop (0*
 Nat.succ 0) c4)))]then R (.bool true)else R (.bool (decide ((↑n4:Int)>1000)))else False else False else False else False else False):=by kernel_rfl
theorem long_at(st:St)(b n:Nat)(ex:Bool)(c z:Nat)(cs:List V)(l:List (List UInt8))(hb:st[b]?=some (.ro false cs))(hc:cs=strs l)(hn:n=l.length)(x:Value)(rs:List TL)(h1:l.length≤9223372036854775807)(h2:rs.length≤9223372036854775807):
  gH (.slice b 0 n ex c z) (.lst x rs.length (tls rs)) st=true∧j7 (.slice b 0 n ex c z) (.lst x rs.length (tls rs)) st=iw l rs:=by
 subst hc hn;have e1:i0 st (.slice b 0 l.length ex c z)=some (true,l):=by
  simp only[i0,fo,hb,Nat.mul_one,Nat.zero_add,List.drop_zero,bF];rw[List.take_of_length_le (by rw[bF];omega),bV,fU,bF,Nat.beq_refl,ap (Nat.le_refl _)];rfl
 have e2:dy st (.lst x rs.length (tls rs))=some (true,rs):=by
  simp only[dy,fo,bf,fO,ci,Nat.beq_refl,Bool.and_true];rw[Nat.mul_comm,Nat.beq_refl]
 unfold gH j7;rw[e1,e2];exact⟨by simp only[ay,af];exact⟨ap h1,ap h2⟩,rfl⟩
def gK(h:List UInt8)(ms:List (List UInt8))(rs:List TL):Bool:=iw (h::ms.take (min 2000 ms.length)) rs||decide ((ms.length:Int)>1000)
theorem m6(pl rq:Bool)(h:List UInt8)(mx:Bool)(co:Int)(se:Bool)(x1:Value)(n1:Nat)(c1:List V)(x2:Value)(n2:Nat)(c2:List V)(x3:Value)(rs:List TL)(ha:Bool)(mo:Int)(x4:Value)(ms:List (List UInt8))(ag:Int)(h1:ms.length≤9223372036854775807)(h2:rs.length≤9223372036854775807):
  FnSat Qq 24 [.agg [.bool pl,.bool rq,.str h,.bool mx,.int .u8 co,.bool se,.lst x1 n1 c1,.lst x2 n2 c2,.lst x3 rs.length (tls rs),.bool ha,.int .u8 mo,.lst x4 ms.length (strs ms),.int .i64 ag]] [] (Is (.bool (gK h ms rs),[])):=by
 refine aP (lim:=9) (n:=10) aI NP_ok rfl rfl ?_;rw[large_tree];have hq:(if 2000<(ms.length:Int)then(2000:Int)else(ms.length:Int))=((min 2000 ms.length:Nat):Int):=by
  split<;>omega
 simp only[hq,bK,ay,Nat.sub_zero,Nat.mul_one];unfold gK;rw[az (show(0:Int)≤((min 2000 ms.length:Nat):Int) by omega),ac,ap (show min 2000 ms.length≤ms.length by omega),ac];cases hk:(min 2000 ms.length).beq 0 with
 |true=>
  have hk:=aC hk;have hms:ms=[]:=List.eq_nil_of_length_eq_zero (by omega);subst hms;rw[ac];obtain⟨e1,e2⟩:=long_at [Blk.ro false [V.bool pl,V.bool rq,V.str h,V.bool mx,V.int u8 co,V.bool se,V.lst x1 n1 c1,V.lst x2 n2 c2,V.lst x3 rs.length (tls rs),V.bool ha,V.int u8 mo,V.lst x4 ([]:List (List UInt8)).length (strs []),V.int i64 ag],Blk.ro false [V.str h]] 1 1 true 1 0 [V.str h] [h] rfl rfl rfl x3 rs (by simp) h2;rw[e1,ac,e2];rw[show(h::([]:List (List UInt8)).take (min 2000 ([]:List (List UInt8)).length))=[h]from rfl];cases iw [h] rs<;>rfl
 |false=>
  rw[ai];have hl:(List.take (min 2000 ms.length) (strs ms)).length=min 2000 ms.length:=by rw[List.length_take,bF];omega
  have hone:(List.take (min 2000 ms.length) (strs ms)).all V.one=true:=by
   unfold strs;rw[←List.map_take,List.all_eq_true];intro v hv;obtain⟨a,_,rfl⟩:=List.mem_map.1 hv;rfl
  rw[hl,Nat.beq_refl,hone,Bool.and_self,ac];rw[ap (show 1+min 2000 ms.length≤9223372036854775807 by omega),ap (show(1+min 2000 ms.length)*16≤140737488355328 by omega),Bool.and_self,ac];obtain⟨e1,e2⟩:=long_at [Blk.ro false [V.bool pl,V.bool rq,V.str h,V.bool mx,V.int u8 co,V.bool se,V.lst x1 n1 c1,V.lst x2 n2 c2,V.lst x3 rs.length (tls rs),V.bool ha,V.int u8 mo,V.lst x4 ms.length (strs ms),V.int i64 ag],Blk.ro false [V.str h],Blk.ro false (V.str h::List.append [] (List.take (min 2000 ms.length) (List.drop 0 (strs ms))))] 2 (1+min 2000 ms.length) false 0 0 _ (h::ms.take (min 2000 ms.length)) rfl (by
   show V.str h::List.take (min 2000 ms.length) (List.drop 0 (strs ms))=V.str h::strs (ms.take (min 2000 ms.length));rw[List.drop_zero];unfold strs;rw[List.map_take]) (by rw[List.length_cons,List.length_take];omega) x3 rs (by rw[List.length_cons,List.length_take];omega) h2
  rw[e1,ac,e2];cases iw (h::ms.take (min 2000 ms.length)) rs<;>rfl
def largeT(LG:List UInt8→List V→List V→Bool):List V→Option (Qx)
 |[.agg [.bool _,.bool _,.str h,.bool _,.int .u8 _,.bool _,.lst _ _ _,.lst _ _ _,.lst _ n3 c3,.bool _,.int .u8 _,.lst _ n4 c4,.int .i64 _]]=>some [(okT n3 c3&&okS n4 c4,(.bool (LG h c4 c3),[]))]
 |_=>none
def ga(h:List UInt8)(c4 c3:List V):Bool:=gK h (c4.map al) (tlD c3)
theorem largeT_ok(args:List V)(l:Qx)(o:V×St)(h:largeT ga args=some l)(ho:aO l=some o):FnSat Qq 24 args [] (Is o):=by
 unfold largeT at h;split at h
 ·rename_i pl rq hh mx co se x1 n1 c1 x2 n2 c2 x3 n3 c3 ha mo x4 n4 c4 ag;cases h;obtain⟨hb,rfl⟩:=a7 ho;rw[af]at hb;obtain⟨rs,rfl,rfl,g1,g2⟩:=bN hb.1;obtain⟨ms,rfl,rfl,g3,g4⟩:=gF hb.2;unfold ga;rw[g2,g4];exact m6 pl rq hh mx co se x1 n1 c1 x2 n2 c2 x3 rs ha mo x4 ms ag g3 g1
 ·cases h
theorem real_nilS(m:List MB):real m .nilSlice=some (.slice none 0 0):=by simp[real]
theorem real_lst0(m:List MB):real m (.lst (.slice none 0 0) 0 [])=some (.slice none 0 0):=dC (xs:=[]) rfl (by simp[LstOk])
theorem real_aggE(m:List MB)(l:List V):real m (.agg l)=(ak m l).map fun xs=>.agg xs.toArray:=by
 simp only[real];cases ak m l<;>rfl
theorem fnSat_congr{P:Program}{g:FuncId}{args args':List V}{st:St}{Q:V→St→Prop}(he:∀m:List MB,ak m args=ak m args')(h:FnSat P g args' st Q):FnSat P g args st Q:=fun B W0 m w rargs ha hr=>h B W0 m w rargs (by rw[←he m];exact ha) hr
def largeU(LG:List UInt8→List V→List V→Bool):List V→Option (Qx)
 |[.agg [.bool _,.bool _,.str h,.bool _,.int .u8 _,.bool _,.lst _ _ _,.lst _ _ _,.lst _ n3 c3,.bool _,.int .u8 _,.lst _ n4 c4,.int .i64 _]]=>some [(okT n3 c3&&okS n4 c4,(.bool (LG h c4 c3),[]))]
 |[.agg [.bool _,.bool _,.str h,.bool _,.int .u8 _,.bool _,.nilSlice,.nilSlice,.nilSlice,.bool _,.int .u8 _,.lst _ n4 c4,.int .i64 _]]=>some [(okS n4 c4,(.bool (LG h c4 []),[]))]
 |_=>none
theorem largeU_ok(args:List V)(l:Qx)(o:V×St)(h:largeU ga args=some l)(ho:aO l=some o):FnSat Qq 24 args [] (Is o):=by
 unfold largeU at h;split at h
 ·exact largeT_ok _ _ _ h ho
 ·rename_i pl rq hh mx co se ha mo x4 n4 c4 ag;cases h;obtain⟨hb,rfl⟩:=a7 ho;obtain⟨ms,rfl,rfl,g3,g4⟩:=gF hb;unfold ga;rw[g4];refine fnSat_congr (args':=[.agg [.bool pl,.bool rq,.str hh,.bool mx,.int .u8 co,.bool se,.lst (.slice none 0 0) 0 [],.lst (.slice none 0 0) 0 [],.lst (.slice none 0 0) ([]:List TL).length (tls []),.bool ha,.int .u8 mo,.lst x4 ms.length (strs ms),.int .i64 ag]]) (fun m=>?_) (m6 pl rq hh mx co se _ 0 [] _ 0 [] _ [] ha mo x4 ms ag g3 (by simp));show ak m _=ak m [.agg [.bool pl,.bool rq,.str hh,.bool mx,.int .u8 co,.bool se,.lst (.slice none 0 0) 0 [],.lst (.slice none 0 0) 0 [],.lst (.slice none 0 0) 0 [],.bool ha,.int .u8 mo,.lst x4 ms.length (strs ms),.int .i64 ag]];simp only[ak,real_aggE,real_nilS,real_lst0]
 ·cases h
end Go.Proofs.YtebkeppoicllmaaGreatDoor
end
