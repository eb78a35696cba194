/- The program's digest of bytes: what it comes to. -/
import Derived.Test.YtebkeppoicllmaaDoorBys
namespace Go.Proofs.YtebkeppoicllmaaDoor
open Go.IntKind (u8 u16 u32 u64 i8 i16 i32 i64)
open Go Go.Vm Go.RowKit
set_option linter.unusedVariables false
set_option maxRecDepth 100000
set_option linter.unusedSectionVars false
variable [Φ:Frz]
def mixTG(OK:List V→Bool)(M:W8→List V→W8):List V→Option (List (Bool×(V×St)))
 |[.agg [.int .u32 a,.int .u32 b,.int .u32 c,.int .u32 d,.int .u32 e,.int .u32 f,.int .u32 g,.int .u32 h],.agg ws]=>some [(OK ws,(.agg (M ⟨a,b,c,d,e,f,g,h⟩ ws).cells,[]))]
 |_=>none
def blkTG(OB:List V→Nat→Bool)(BL:List V→Nat→Nat→Int):List V→St→Option (List (Bool×(V×St)))
 |[.slice 0 off 64 false c z],[.ro false la]=>some [(OB la off,(.agg (de (BL la off)),[]))]
 |_,_=>none
noncomputable def TD(OK:List V→Bool)(M:W8→List V→W8)(OB:List V→Nat→Bool)(BL:List V→Nat→Nat→Int):Tab:=⟨addT noT 25 (mixTG OK M),addM noL 26 (blkTG OB BL),bf 10⟩
theorem d1_round(s:List UInt8)(cs v:List V)(k:Nat)(R:Exit→List (Option V)→St→Prop):ao Tryd.prog T3 9 10 (ah 9) 13 60 [0,3,4] [.str s,.ptr 0 0,.slice 1 0 k false 0 0] [.row v 53 8,.row cs 5 1] R=
  (
 bif (↑k:Int).tmod 64!=56 then bif cs.length.beq (k*1)then bif (k+1).ble 9223372036854775807&&((k+1)*1).ble 140737488355328 then R .normal [some (.str
 s),some (.ptr 0 0),some (.slice 3 0 (k+1) false 0 0)] [.row v 53 8,.dead,.row [.int u8 0] 5 1,.row (cs++[V.int u8 0]) 5 1]else
 False else False else R (.exit 0) [some (.str s),some (.ptr 0 0),some (.slice 1 0 k false 0 0)] [.row v 53 8,.row cs 5 1]):=by kernel_rfl
theorem d3_round(OK:List V→Bool)(M:W8→List V→W8)(OB:List V→Nat→Bool)(BL:List V→Nat→Nat→Int)(a b c d e f g h:Int)(la:List V)(off len cc z:Nat)(R:Exit→List (Option V)→St→Prop):ao Tryd.prog (TD OK M OB BL) 10 10 (ah 10) 13 508 [3,4] [.ptr 0 0,.slice 1 off len false cc z] [.row [.int .u32 a,.int .u32 b,.int .u32 c,.int .u32 d,.int .u32 e,.int .u32 f,.int .u32 g,.int .u32 h] 53 8,.row la 5 1] R=
  (
 bif decide ((↑len:Int)>0)then bif true&&Nat.ble 64 len then bif OB la (off+0)then bif OK [.int u32 (BL la (off+0) 0),.int u32 (BL la (off+
 0) 1),.int u32 (BL la (off+0) 2),.int u32 (BL la (off+0) 3),.int u32 (BL la (off+0) 4),.int u32 (BL la (off+0) 5),.int
 u32 (BL la (off+0) 6),.int u32 (BL la (off+0) 7),.int u32 (BL la (off+0) 8),.int u32 (BL la (off+0) 9),.int u32
 (BL la (off+0) 10),.int u32 (BL la (off+0) 11),.int u32 (BL la (off+0) 12),.int u32 (BL la (off+0) 13),.int u32 (BL la
 (off+0) 14),.int u32 (BL la (off+0) 15),.int u32 (BL la (off+0) 16),.int u32 (BL la (off+0) 17),.int u32 (BL la (off+0)
 18),.int u32 (BL la (off+0) 19),.int u32 (BL la (off+0) 20),.int u32 (BL la (off+0) 21),.int u32 (BL la (off+0) 22),.int
 u32 (BL la (off+0) 23),.int u32 (BL la (off+0) 24),.int u32 (BL la (off+0) 25),.int u32 (BL la (off+0) 26),.int
 u32 (BL la (off+0) 27),.int u32 (BL la (off+0) 28),.int u32 (BL la (off+0) 29),.int u32 (BL la (off+0) 30),.int
 u32 (BL la (off+0) 31),.int u32 (BL la (off+0) 32),.int u32 (BL la (off+0) 33),.int u32 (BL la (off+0) 34),.int
 u32 (BL la (off+0) 35),.int u32 (BL la (off+0) 36),.int u32 (BL la (off+0) 37),.int u32 (BL la (off+0) 38),.int
 u32 (BL la (off+0) 39),.int u32 (BL la (off+0) 40),.int u32 (BL la (off+0) 41),.int u32 (BL la (off+0) 42),.int
 u32 (BL la (off+0) 43),.int u32 (BL la (off+0) 44),.int u32 (BL la (off+0) 45),.int u32 (BL la (off+0) 46),.int
 u32 (BL la (off+0) 47),.int u32 (BL la (off+0) 48),.int u32 (BL la (off+0) 49),.int u32 (BL la (off+0) 50),.int
 u32 (BL la (off+0) 51),.int u32 (BL la (off+0) 52),.int u32 (BL la (off+0) 53),.int u32 (BL la (off+0) 54),.int
 u32 (BL la (off+0) 55),.int u32 (BL la (off+0) 56),.int u32 (BL la (off+0) 57),.int u32 (BL la (off+0) 58),.int
 u32 (BL la (off+0) 59),.int u32 (BL la (off+0) 60),.int u32 (BL la (off+0) 61),.int u32 (BL la (off+0) 62),.int
 u32 (BL la (off+0) 63)]then bif Nat.ble 64 len&&len.ble len then R .normal [some (.ptr 0 0),some (.slice 1 (off+64) (len-64) false (if false=
 true then cc-64 else cc+64) (if 64=0 then z else off))] [.row [.int u32 (M {a:=a,b:=b,c:=c,d:=d,e:=e,f:=f,g:=g,h:=h} [.int
 u32 (BL la (off+0) 0),.int u32 (BL la (off+0) 1),.int u32 (BL la (off+0) 2),.int u32 (BL la (off+0) 3),.int u32
 (BL la (off+0) 4),.int u32 (BL la (off+0) 5),.int u32 (BL la (off+0) 6),.int u32 (BL la (off+0) 7),.int u32 (BL la (off+
 0) 8),.int u32 (BL la (off+0) 9),.int u32 (BL la (off+0) 10),.int u32 (BL la (off+0) 11),.int u32 (BL la (off+0) 12),
 .int u32 (BL la (off+0) 13),.int u32 (BL la (off+0) 14),.int u32 (BL la (off+0) 15),.int u32 (BL la (off+0) 16),.int
 u32 (BL la (off+0) 17),.int u32 (BL la (off+0) 18),.int u32 (BL la (off+0) 19),.int u32 (BL la (off+0) 20),.int
 u32 (BL la (off+0) 21),.int u32 (BL la (off+0) 22),.int u32 (BL la (off+0) 23),.int u32 (BL la (off+0) 24),.int
 u32 (BL la (off+0) 25),.int u32 (BL la (off+0) 26),.int u32 (BL la (off+0) 27),.int u32 (BL la (off+0) 28),.int
 u32 (BL la (off+0) 29),.int u32 (BL la (off+0) 30),.int u32 (BL la (off+0) 31),.int u32 (BL la (off+0) 32),.int
 u32 (BL la (off+0) 33),.int u32 (BL la (off+0) 34),.int u32 (BL la (off+0) 35),.int u32 (BL la (off+0) 36),.int
 u32 (BL la (off+0) 37),.int u32 (BL la (off+0) 38),.int u32 (BL la (off+0) 39),.int u32 (BL la (off+0) 40),.int
 u32 (BL la (off+0) 41),.int u32 (BL la (off+0) 42),.int u32 (BL la (off+0) 43),.int u32 (BL la (off+0) 44),.int
 u32 (BL la (off+0) 45),.int u32 (BL la (off+0) 46),.int u32 (BL la (off+0) 47),.int u32 (BL la (off+0) 48),.int
 u32 (BL la (off+0) 49),.int u32 (BL la (off+0) 50),.int u32 (BL la (off+0) 51),.int u32 (BL la (off+0) 52),.int
 u32 (BL la (off+0) 53),.int u32 (BL la (off+0) 54),.int u32 (BL la (off+0) 55),.int u32 (BL la (off+0) 56),.int
 u32 (BL la (off+0) 57),.int u32 (BL la (off+0) 58),.int u32 (BL la (off+0) 59),.int u32 (BL la (off+0) 60),.int
 u32 (BL la (off+0) 61),.int u32 (BL la (off+0) 62),.int u32 (BL la (off+0) 63)]).a,.int u32 (M {a:=a,b:=b,c:=c,d:=d,e:=e,f:=f,g:=g,h:=h}
 [.int u32 (BL la (off+0) 0),.int u32 (BL la (off+0) 1),.int u32 (BL la (off+0) 2),.int u32 (BL la (off+0) 3),.int
 u32 (BL la (off+0) 4),.int u32 (BL la (off+0) 5),.int u32 (BL la (off+0) 6),.int u32 (BL la (off+0) 7),.int u32
 (BL la (off+0) 8),.int u32 (BL la (off+0) 9),.int u32 (BL la (off+0) 10),.int u32 (BL la (off+0) 11),.int u32 (BL la (off
 +0) 12),.int u32 (BL la (off+0) 13),.int u32 (BL la (off+0) 14),.int u32 (BL la (off+0) 15),.int u32 (BL la (off+0) 16),
 .int u32 (BL la (off+0) 17),.int u32 (BL la (off+0) 18),.int u32 (BL la (off+0) 19),.int u32 (BL la (off+0) 20),.int
 u32 (BL la (off+0) 21),.int u32 (BL la (off+0) 22),.int u32 (BL la (off+0) 23),.int u32 (BL la (off+0) 24),.int
 u32 (BL la (off+0) 25),.int u32 (BL la (off+0) 26),.int u32 (BL la (off+0) 27),.int u32 (BL la (off+0) 28),.int
 u32 (BL la (off+0) 29),.int u32 (BL la (off+0) 30),.int u32 (BL la (off+0) 31),.int u32 (BL la (off+0) 32),.int
 u32 (BL la (off+0) 33),.int u32 (BL la (off+0) 34),.int u32 (BL la (off+0) 35),.int u32 (BL la (off+0) 36),.int
 u32 (BL la (off+0) 37),.int u32 (BL la (off+0) 38),.int u32 (BL la (off+0) 39),.int u32 (BL la (off+0) 40),.int
 u32 (BL la (off+0) 41),.int u32 (BL la (off+0) 42),.int u32 (BL la (off+0) 43),.int u32 (BL la (off+0) 44),.int
 u32 (BL la (off+0) 45),.int u32 (BL la (off+0) 46),.int u32 (BL la (off+0) 47),.int u32 (BL la (off+0) 48),.int
 u32 (BL la (off+0) 49),.int u32 (BL la (off+0) 50),.int u32 (BL la (off+0) 51),.int u32 (BL la (off+0) 52),.int
 u32 (BL la (off+0) 53),.int u32 (BL la (off+0) 54),.int u32 (BL la (off+0) 55),.int u32 (BL la (off+0) 56),.int
 u32 (BL la (off+0) 57),.int u32 (BL la (off+0) 58),.int u32 (BL la (off+0) 59),.int u32 (BL la (off+0) 60),.int
 u32 (BL la (off+0) 61),.int u32 (BL la (off+0) 62),.int u32 (BL la (off+0) 63)]).b,.int u32 (M {a:=a,b:=b,c:=c,d:=d,e:=e,f:=f,g:=g,h:=h}
 [.int u32 (BL la (off+0) 0),.int u32 (BL la (off+0) 1),.int u32 (BL la (off+0) 2),.int u32 (BL la (off+0) 3),.int
 u32 (BL la (off+0) 4),.int u32 (BL la (off+0) 5),.int u32 (BL la (off+0) 6),.int u32 (BL la (off+0) 7),.int u32
 (BL la (off+0) 8),.int u32 (BL la (off+0) 9),.int u32 (BL la (off+0) 10),.int u32 (BL la (off+0) 11),.int u32 (BL la (off
 +0) 12),.int u32 (BL la (off+0) 13),.int u32 (BL la (off+0) 14),.int u32 (BL la (off+0) 15),.int u32 (BL la (off+0) 16),
 .int u32 (BL la (off+0) 17),.int u32 (BL la (off+0) 18),.int u32 (BL la (off+0) 19),.int u32 (BL la (off+0) 20),.int
 u32 (BL la (off+0) 21),.int u32 (BL la (off+0) 22),.int u32 (BL la (off+0) 23),.int u32 (BL la (off+0) 24),.int
 u32 (BL la (off+0) 25),.int u32 (BL la (off+0) 26),.int u32 (BL la (off+0) 27),.int u32 (BL la (off+0) 28),.int
 u32 (BL la (off+0) 29),.int u32 (BL la (off+0) 30),.int u32 (BL la (off+0) 31),.int u32 (BL la (off+0) 32),.int
 u32 (BL la (off+0) 33),.int u32 (BL la (off+0) 34),.int u32 (BL la (off+0) 35),.int u32 (BL la (off+0) 36),.int
 u32 (BL la (off+0) 37),.int u32 (BL la (off+0) 38),.int u32 (BL la (off+0) 39),.int u32 (BL la (off+0) 40),.int
 u32 (BL la (off+0) 41),.int u32 (BL la (off+0) 42),.int u32 (BL la (off+0) 43),.int u32 (BL la (off+0) 44),.int
 u32 (BL la (off+0) 45),.int u32 (BL la (off+0) 46),.int u32 (BL la (off+0) 47),.int u32 (BL la (off+0) 48),.int
 u32 (BL la (off+0) 49),.int u32 (BL la (off+0) 50),.int u32 (BL la (off+0) 51),.int u32 (BL la (off+0) 52),.int
 u32 (BL la (off+0) 53),.int u32 (BL la (off+0) 54),.int u32 (BL la (off+0) 55),.int u32 (BL la (off+0) 56),.int
 u32 (BL la (off+0) 57),.int u32 (BL la (off+0) 58),.int u32 (BL la (off+0) 59),.int u32 (BL la (off+0) 60),.int
 u32 (BL la (off+0) 61),.int u32 (BL la (off+0) 62),.int u32 (BL la (off+0) 63)]).c,.int u32 (M {a:=a,b:=b,c:=c,d:=d,e:=e,f:=f,g:=g,h:=h}
 [.int u32 (BL la (off+0) 0),.int u32 (BL la (off+0) 1),.int u32 (BL la (off+0) 2),.int u32 (BL la (off+0) 3),.int
 u32 (BL la (off+0) 4),.int u32 (BL la (off+0) 5),.int u32 (BL la (off+0) 6),.int u32 (BL la (off+0) 7),.int u32
 (BL la (off+0) 8),.int u32 (BL la (off+0) 9),.int u32 (BL la (off+0) 10),.int u32 (BL la (off+0) 11),.int u32 (BL la (off
 +0) 12),.int u32 (BL la (off+0) 13),.int u32 (BL la (off+0) 14),.int u32 (BL la (off+0) 15),.int u32 (BL la (off+0) 16),
 .int u32 (BL la (off+0) 17),.int u32 (BL la (off+0) 18),.int u32 (BL la (off+0) 19),.int u32 (BL la (off+0) 20),.int
 u32 (BL la (off+0) 21),.int u32 (BL la (off+0) 22),.int u32 (BL la (off+0) 23),.int u32 (BL la (off+0) 24),.int
 u32 (BL la (off+0) 25),.int u32 (BL la (off+0) 26),.int u32 (BL la (off+0) 27),.int u32 (BL la (off+0) 28),.int
 u32 (BL la (off+0) 29),.int u32 (BL la (off+0) 30),.int u32 (BL la (off+0) 31),.int u32 (BL la (off+0) 32),.int
 u32 (BL la (off+0) 33),.int u32 (BL la (off+0) 34),.int u32 (BL la (off+0) 35),.int u32 (BL la (off+0) 36),.int
 u32 (BL la (off+0) 37),.int u32 (BL la (off+0) 38),.int u32 (BL la (off+0) 39),.int u32 (BL la (off+0) 40),.int
 u32 (BL la (off+0) 41),.int u32 (BL la (off+0) 42),.int u32 (BL la (off+0) 43),.int u32 (BL la (off+0) 44),.int
 u32 (BL la (off+0) 45),.int u32 (BL la (off+0) 46),.int u32 (BL la (off+0) 47),.int u32 (BL la (off+0) 48),.int
 u32 (BL la (off+0) 49),.int u32 (BL la (off+0) 50),.int u32 (BL la (off+0) 51),.int u32 (BL la (off+0) 52),.int
 u32 (BL la (off+0) 53),.int u32 (BL la (off+0) 54),.int u32 (BL la (off+0) 55),.int u32 (BL la (off+0) 56),.int
 u32 (BL la (off+0) 57),.int u32 (BL la (off+0) 58),.int u32 (BL la (off+0) 59),.int u32 (BL la (off+0) 60),.int
 u32 (BL la (off+0) 61),.int u32 (BL la (off+0) 62),.int u32 (BL la (off+0) 63)]).d,.int u32 (M {a:=a,b:=b,c:=c,d:=d,e:=e,f:=f,g:=g,h:=h}
 [.int u32 (BL la (off+0) 0),.int u32 (BL la (off+0) 1),.int u32 (BL la (off+0) 2),.int u32 (BL la (off+0) 3),.int
 u32 (BL la (off+0) 4),.int u32 (BL la (off+0) 5),.int u32 (BL la (off+0) 6),.int u32 (BL la (off+0) 7),.int u32
 (BL la (off+0) 8),.int u32 (BL la (off+0) 9),.int u32 (BL la (off+0) 10),.int u32 (BL la (off+0) 11),.int u32 (BL la (off
 +0) 12),.int u32 (BL la (off+0) 13),.int u32 (BL la (off+0) 14),.int u32 (BL la (off+0) 15),.int u32 (BL la (off+0) 16),
 .int u32 (BL la (off+0) 17),.int u32 (BL la (off+0) 18),.int u32 (BL la (off+0) 19),.int u32 (BL la (off+0) 20),.int
 u32 (BL la (off+0) 21),.int u32 (BL la (off+0) 22),.int u32 (BL la (off+0) 23),.int u32 (BL la (off+0) 24),.int
 u32 (BL la (off+0) 25),.int u32 (BL la (off+0) 26),.int u32 (BL la (off+0) 27),.int u32 (BL la (off+0) 28),.int
 u32 (BL la (off+0) 29),.int u32 (BL la (off+0) 30),.int u32 (BL la (off+0) 31),.int u32 (BL la (off+0) 32),.int
 u32 (BL la (off+0) 33),.int u32 (BL la (off+0) 34),.int u32 (BL la (off+0) 35),.int u32 (BL la (off+0) 36),.int
 u32 (BL la (off+0) 37),.int u32 (BL la (off+0) 38),.int u32 (BL la (off+0) 39),.int u32 (BL la (off+0) 40),.int
 u32 (BL la (off+0) 41),.int u32 (BL la (off+0) 42),.int u32 (BL la (off+0) 43),.int u32 (BL la (off+0) 44),.int
 u32 (BL la (off+0) 45),.int u32 (BL la (off+0) 46),.int u32 (BL la (off+0) 47),.int u32 (BL la (off+0) 48),.int
 u32 (BL la (off+0) 49),.int u32 (BL la (off+0) 50),.int u32 (BL la (off+0) 51),.int u32 (BL la (off+0) 52),.int
 u32 (BL la (off+0) 53),.int u32 (BL la (off+0) 54),.int u32 (BL la (off+0) 55),.int u32 (BL la (off+0) 56),.int
 u32 (BL la (off+0) 57),.int u32 (BL la (off+0) 58),.int u32 (BL la (off+0) 59),.int u32 (BL la (off+0) 60),.int
 u32 (BL la (off+0) 61),.int u32 (BL la (off+0) 62),.int u32 (BL la (off+0) 63)]).e,.int u32 (M {a:=a,b:=b,c:=c,d:=d,e:=e,f:=f,g:=g,h:=h}
 [.int u32 (BL la (off+0) 0),.int u32 (BL la (off+0) 1),.int u32 (BL la (off+0) 2),.int u32 (BL la (off+0) 3),.int
 u32 (BL la (off+0) 4),.int u32 (BL la (off+0) 5),.int u32 (BL la (off+0) 6),.int u32 (BL la (off+0) 7),.int u32
 (BL la (off+0) 8),.int u32 (BL la (off+0) 9),.int u32 (BL la (off+0) 10),.int u32 (BL la (off+0) 11),.int u32 (BL la (off
 +0) 12),.int u32 (BL la (off+0) 13),.int u32 (BL la (off+0) 14),.int u32 (BL la (off+0) 15),.int u32 (BL la (off+0) 16),
 .int u32 (BL la (off+0) 17),.int u32 (BL la (off+0) 18),.int u32 (BL la (off+0) 19),.int u32 (BL la (off+0) 20),.int
 u32 (BL la (off+0) 21),.int u32 (BL la (off+0) 22),.int u32 (BL la (off+0) 23),.int u32 (BL la (off+0) 24),.int
 u32 (BL la (off+0) 25),.int u32 (BL la (off+0) 26),.int u32 (BL la (off+0) 27),.int u32 (BL la (off+0) 28),.int
 u32 (BL la (off+0) 29),.int u32 (BL la (off+0) 30),.int u32 (BL la (off+0) 31),.int u32 (BL la (off+0) 32),.int
 u32 (BL la (off+0) 33),.int u32 (BL la (off+0) 34),.int u32 (BL la (off+0) 35),.int u32 (BL la (off+0) 36),.int
 u32 (BL la (off+0) 37),.int u32 (BL la (off+0) 38),.int u32 (BL la (off+0) 39),.int u32 (BL la (off+0) 40),.int
 u32 (BL la (off+0) 41),.int u32 (BL la (off+0) 42),.int u32 (BL la (off+0) 43),.int u32 (BL la (off+0) 44),.int
 u32 (BL la (off+0) 45),.int u32 (BL la (off+0) 46),.int u32 (BL la (off+0) 47),.int u32 (BL la (off+0) 48),.int
 u32 (BL la (off+0) 49),.int u32 (BL la (off+0) 50),.int u32 (BL la (off+0) 51),.int u32 (BL la (off+0) 52),.int
 u32 (BL la (off+0) 53),.int u32 (BL la (off+0) 54),.int u32 (BL la (off+0) 55),.int u32 (BL la (off+0) 56),.int
 u32 (BL la (off+0) 57),.int u32 (BL la (off+0) 58),.int u32 (BL la (off+0) 59),.int u32 (BL la (off+0) 60),.int
 u32 (BL la (off+0) 61),.int u32 (BL la (off+0) 62),.int u32 (BL la (off+0) 63)]).f,.int u32 (M {a:=a,b:=b,c:=c,d:=d,e:=e,f:=f,g:=g,h:=h}
 [.int u32 (BL la (off+0) 0),.int u32 (BL la (off+0) 1),.int u32 (BL la (off+0) 2),.int u32 (BL la (off+0) 3),.int
 u32 (BL la (off+0) 4),.int u32 (BL la (off+0) 5),.int u32 (BL la (off+0) 6),.int u32 (BL la (off+0) 7),.int u32
 (BL la (off+0) 8),.int u32 (BL la (off+0) 9),.int u32 (BL la (off+0) 10),.int u32 (BL la (off+0) 11),.int u32 (BL la (off
 +0) 12),.int u32 (BL la (off+0) 13),.int u32 (BL la (off+0) 14),.int u32 (BL la (off+0) 15),.int u32 (BL la (off+0) 16),
 .int u32 (BL la (off+0) 17),.int u32 (BL la (off+0) 18),.int u32 (BL la (off+0) 19),.int u32 (BL la (off+0) 20),.int
 u32 (BL la (off+0) 21),.int u32 (BL la (off+0) 22),.int u32 (BL la (off+0) 23),.int u32 (BL la (off+0) 24),.int
 u32 (BL la (off+0) 25),.int u32 (BL la (off+0) 26),.int u32 (BL la (off+0) 27),.int u32 (BL la (off+0) 28),.int
 u32 (BL la (off+0) 29),.int u32 (BL la (off+0) 30),.int u32 (BL la (off+0) 31),.int u32 (BL la (off+0) 32),.int
 u32 (BL la (off+0) 33),.int u32 (BL la (off+0) 34),.int u32 (BL la (off+0) 35),.int u32 (BL la (off+0) 36),.int
 u32 (BL la (off+0) 37),.int u32 (BL la (off+0) 38),.int u32 (BL la (off+0) 39),.int u32 (BL la (off+0) 40),.int
 u32 (BL la (off+0) 41),.int u32 (BL la (off+0) 42),.int u32 (BL la (off+0) 43),.int u32 (BL la (off+0) 44),.int
 u32 (BL la (off+0) 45),.int u32 (BL la (off+0) 46),.int u32 (BL la (off+0) 47),.int u32 (BL la (off+0) 48),.int
 u32 (BL la (off+0) 49),.int u32 (BL la (off+0) 50),.int u32 (BL la (off+0) 51),.int u32 (BL la (off+0) 52),.int
 u32 (BL la (off+0) 53),.int u32 (BL la (off+0) 54),.int u32 (BL la (off+0) 55),.int u32 (BL la (off+0) 56),.int
 u32 (BL la (off+0) 57),.int u32 (BL la (off+0) 58),.int u32 (BL la (off+0) 59),.int u32 (BL la (off+0) 60),.int
 u32 (BL la (off+0) 61),.int u32 (BL la (off+0) 62),.int u32 (BL la (off+0) 63)]).g,.int u32 (M {a:=a,b:=b,c:=c,d:=d,e:=e,f:=f,g:=g,h:=h}
 [.int u32 (BL la (off+0) 0),.int u32 (BL la (off+0) 1),.int u32 (BL la (off+0) 2),.int u32 (BL la (off+0) 3),.int
 u32 (BL la (off+0) 4),.int u32 (BL la (off+0) 5),.int u32 (BL la (off+0) 6),.int u32 (BL la (off+0) 7),.int u32
 (BL la (off+0) 8),.int u32 (BL la (off+0) 9),.int u32 (BL la (off+0) 10),.int u32 (BL la (off+0) 11),.int u32 (BL la (off
 +0) 12),.int u32 (BL la (off+0) 13),.int u32 (BL la (off+0) 14),.int u32 (BL la (off+0) 15),.int u32 (BL la (off+0) 16),
 .int u32 (BL la (off+0) 17),.int u32 (BL la (off+0) 18),.int u32 (BL la (off+0) 19),.int u32 (BL la (off+0) 20),.int
 u32 (BL la (off+0) 21),.int u32 (BL la (off+0) 22),.int u32 (BL la (off+0) 23),.int u32 (BL la (off+0) 24),.int
 u32 (BL la (off+0) 25),.int u32 (BL la (off+0) 26),.int u32 (BL la (off+0) 27),.int u32 (BL la (off+0) 28),.int
 u32 (BL la (off+0) 29),.int u32 (BL la (off+0) 30),.int u32 (BL la (off+0) 31),.int u32 (BL la (off+0) 32),.int
 u32 (BL la (off+0) 33),.int u32 (BL la (off+0) 34),.int u32 (BL la (off+0) 35),.int u32 (BL la (off+0) 36),.int
 u32 (BL la (off+0) 37),.int u32 (BL la (off+0) 38),.int u32 (BL la (off+0) 39),.int u32 (BL la (off+0) 40),.int
 u32 (BL la (off+0) 41),.int u32 (BL la (off+0) 42),.int u32 (BL la (off+0) 43),.int u32 (BL la (off+0) 44),.int
 u32 (BL la (off+0) 45),.int u32 (BL la (off+0) 46),.int u32 (BL la (off+0) 47),.int u32 (BL la (off+0) 48),.int
 u32 (BL la (off+0) 49),.int u32 (BL la (off+0) 50),.int u32 (BL la (off+0) 51),.int u32 (BL la (off+0) 52),.int
 u32 (BL la (off+0) 53),.int u32 (BL la (off+0) 54),.int u32 (BL la (off+0) 55),.int u32 (BL la (off+0) 56),.int
 u32 (BL la (off+0) 57),.int u32 (BL la (off+0) 58),.int u32 (BL la (off+0) 59),.int u32 (BL la (off+0) 60),.int
 u32 (BL la (off+0) 61),.int u32 (BL la (off+0) 62),.int u32 (BL la (off+0) 63)]).h] 53 8,.row la 5 1]else False else False else
 False else False else R (.exit 4) [some (.ptr 0 0),some (.slice 1 off len false cc z)] [.row [.int u32 a,.int u32 b,.int u32 c,
 .int u32 d,.int u32 e,.int u32 f,.int u32 g,.int u32 h] 53 8,.row la 5 1]):=by kernel_rfl
theorem j0:∀{l r:List V},ax l=true→ax r=true→ax (l++r)=true
 |[],r,_,h=>h
 |v::l,r,h1,h2=>by
  rw[ax,Bool.and_eq_true]at h1;rw[List.cons_append,ax,Bool.and_eq_true];exact⟨h1.1,j0 h1.2 h2⟩
def ivW:W8:=⟨1779033703,3144134277,1013904242,2773480762,1359893119,2600822924,528734635,1541459225⟩
structure DX where
 s:List UInt8
 cs:List V
def dxV(x:DX):List V:=[.str x.s,.ptr 0 0,.slice 1 0 x.cs.length false 0 0]
def dxJ(x:DX):St:=[.row ivW.cells 53 8,.row x.cs 5 1]
def dxN(n:Nat):Nat:=(120-n%64)%64
def kD(x:DX):Bool:=ax x.cs&&Nat.ble (x.cs.length+dxN x.cs.length) 1000000
def dxMu(x:DX):Nat:=dxN x.cs.length
def dxP(cs:List V):List V:=cs++List.replicate (dxN cs.length) (.int .u8 0)
def dxDec:List (Option V)→St→Option DX
 |[some (.str s),some (.ptr 0 0),some (.slice 3 0 _ false 0 0)],[_,_,_,.row cs _ _]=>some ⟨s,cs⟩
 |_,_=>none
def dxOutG(FP:List V→List V):Asks DX:=fun x K=>∀p:List V,p=FP x.cs→K (.exit 0) [.str x.s,.ptr 0 0,.slice 1 0 p.length false 0 0] [.row ivW.cells 53 8,.row p 5 1]
theorem oU(s:List UInt8)(cs:List V)(hf:ax cs=true)(k c:Nat)(st:St)(h0:st[0]?=some (.row ivW.cells 53 8))(hc:st[c]?=some (.row cs 5 1))(hc0:c≠0):Fits 0 [.str s,.ptr 0 0,.slice 1 0 k false 0 0] [.row ivW.cells 53 8,.row cs 5 1] [some (.str s),some (.ptr 0 0),some (.slice c 0 k false 0 0)] st:=
 ⟨[0,c],[.str s,.ptr 0 0,.slice c 0 k false 0 0],rfl,rfl,FitsM.of ⟨.inr ⟨_,.inl rfl,h0⟩,fb hf hc,trivial⟩,by simp;omega,fun i hi=>by omega⟩
theorem dx_roundOk(x:DX)(hx:kD x=true):ao Tryd.prog T3 9 10 (ah 9) 13 60 [0,3,4] (dxV x) (dxJ x) (aR 0 kD dxV dxJ dxMu (dxOutG dxP) x):=by
 obtain⟨s,cs⟩:=x;unfold kD at hx;rw[Bool.and_eq_true]at hx;have p1:ax cs=true:=hx.1;have p2:cs.length+dxN cs.length≤1000000:=Nat.le_of_ble_eq_true hx.2;show ao Tryd.prog T3 9 10 (ah 9) 13 60 [0,3,4] [.str s,.ptr 0 0,.slice 1 0 cs.length false 0 0] [.row ivW.cells 53 8,.row cs 5 1] _;generalize hn:cs.length=n at*
 rw[d1_round];have hm:(n:Int).tmod 64=((n%64:Nat):Int):=by rw[Int.tmod_eq_emod_of_nonneg (by omega)];omega
 rw[hm];refine ab (fun h=>?_) (fun h=>?_)
 ·have h:n%64≠56:=by
   intro h0;rw[h0]at h;simp at h
  have p3:dxN n=dxN (n+1)+1:=by unfold dxN;omega
  refine ae (by rw[Nat.mul_one,hn];exact Nat.beq_refl _) (ae (by rw[Bool.and_eq_true];exact⟨Nat.ble_eq_true_of_le (by omega),Nat.ble_eq_true_of_le (by omega)⟩) ?_);have hl:(cs++[V.int .u8 0]).length=n+1:=by rw[List.length_append,hn];rfl
  have hf:ax (cs++[V.int .u8 0])=true:=j0 p1 rfl;refine⟨⟨s,cs++[.int .u8 0]⟩,?_,?_,?_,fun K hK=>?_⟩
  ·unfold kD;rw[Bool.and_eq_true];refine⟨hf,Nat.ble_eq_true_of_le ?_⟩;show(cs++[V.int .u8 0]).length+dxN (cs++[V.int .u8 0]).length≤1000000;rw[hl];omega
  ·show Fits 0 [.str s,.ptr 0 0,.slice 1 0 (cs++[V.int .u8 0]).length false 0 0] [.row ivW.cells 53 8,.row (cs++[V.int .u8 0]) 5 1] _ _;rw[hl];exact oU s _ hf _ 3 _ rfl rfl (by omega)
  ·show dxN (cs++[V.int .u8 0]).length<dxN cs.length;rw[hl,hn];omega
  ·have hK:∀p:List V,p=dxP cs→K (.exit 0) [.str s,.ptr 0 0,.slice 1 0 p.length false 0 0] [.row ivW.cells 53 8,.row p 5 1]:=hK;have:dxP (cs++[.int .u8 0])=dxP cs:=by
    unfold dxP;rw[hl,hn,List.append_assoc];rw[p3,List.replicate_succ];rfl
   exact fun p hp=>hK p (hp.trans this)
 ·have h:n%64=56:=by
   have:((n%64:Nat):Int)=56:=by simpa using h
   omega
  refine⟨[.str s,.ptr 0 0,.slice 1 0 n false 0 0],[.row ivW.cells 53 8,.row cs 5 1],fun K hK=>?_,oU s _ p1 _ 1 _ rfl rfl (by omega)⟩;have hK:∀p:List V,p=dxP cs→K (.exit 0) [.str s,.ptr 0 0,.slice 1 0 p.length false 0 0] [.row ivW.cells 53 8,.row p 5 1]:=hK;have:dxP cs=cs:=by
   unfold dxP;have:dxN cs.length=0:=by rw[hn];unfold dxN;omega
   rw[this,List.replicate_zero,List.append_nil]
  have hK:=hK cs this.symm;rw[hn]at hK;exact hK
def okM(ws:List V):Bool:=eF ws&&Nat.beq ws.length 64
def blkA(la:List V)(off:Nat):Nat→Int:=blkF la off 64 0 eG
theorem TD_ok:TabOk3 Tryd.prog (TD okM mixE okB blkA):=⟨b8 aL mix_ok,o9 aM blk_ok,au 10⟩
def sumL:Nat→Nat→List V→W8→W8
 |0,_,_,x=>x
 |n+1,off,la,x=>sumL n (off+64) la (mixE x (de (blkA la off)))
structure D3 where
 la:List V
 x:W8
 off:Nat
 len:Nat
 cc:Nat
 z:Nat
def okA(la:List V):Bool:=ax la&&la.all (br .u8)
def d3V(y:D3):List V:=[.ptr 0 0,.slice 1 y.off y.len false y.cc y.z]
def d3J(y:D3):St:=[.row y.x.cells 53 8,.row y.la 5 1]
def kH(y:D3):Bool:=okA y.la&&(Nat.beq (y.off+y.len) y.la.length&&Nat.beq (y.len%64) 0)
def d3Mu(y:D3):Nat:=y.len
def d3OutG(SL:Nat→Nat→List V→W8→W8):Asks D3:=fun y K=>∀x:W8,x=SL (y.len/64) y.off y.la y.x→∀o c z:Nat,K (.exit 4) [.ptr 0 0,.slice 1 o 0 false c z] [.row x.cells 53 8,.dead]
theorem okA_B{la:List V}{off:Nat}(h:okA la=true)(hl:off+64≤la.length):okB la off=true:=by
 unfold okA at h;rw[Bool.and_eq_true]at h;unfold okB;rw[Bool.and_eq_true,Bool.and_eq_true];refine⟨h.1,Nat.ble_eq_true_of_le hl,?_⟩;rw[List.all_eq_true];intro v hv;exact List.all_eq_true.1 h.2 v (List.mem_of_mem_drop (List.mem_of_mem_take hv))
theorem d3_fits(x:W8)(la:List V)(hf:ax la=true)(o l c z:Nat):Fits 0 [.ptr 0 0,.slice 1 o l false c z] [.row x.cells 53 8,.row la 5 1] [some (.ptr 0 0),some (.slice 1 o l false c z)] [.row x.cells 53 8,.row la 5 1]:=
 ⟨[0,1],[.ptr 0 0,.slice 1 o l false c z],rfl,rfl,FitsM.of ⟨fb rfl rfl,fb hf rfl,trivial⟩,by decide,fun i hi=>by omega⟩
theorem d3_out(x:W8)(la:List V)(o l c z:Nat):Fits 0 [.ptr 0 0,.slice 1 o l false c z] [.row x.cells 53 8,.dead] [some (.ptr 0 0),some (.slice 1 o l false c z)] [.row x.cells 53 8,.row la 5 1]:=
 ⟨[0,1],[.ptr 0 0,.slice 1 o l false c z],rfl,rfl,FitsM.of ⟨fb rfl rfl,.inl rfl,trivial⟩,by decide,fun i hi=>by omega⟩
theorem d3_roundOk(y:D3)(hy:kH y=true):ao Tryd.prog (TD okM mixE okB blkA) 10 10 (ah 10) 13 508 [3,4] (d3V y) (d3J y) (aR 0 kH d3V d3J d3Mu (d3OutG sumL) y):=by
 obtain⟨la,x,off,len,cc,z⟩:=y;unfold kH at hy;rw[Bool.and_eq_true,Bool.and_eq_true]at hy;have p1:okA la=true:=hy.1;have p2:off+len=la.length:=Nat.eq_of_beq_eq_true hy.2.1;have p3:len%64=0:=Nat.eq_of_beq_eq_true hy.2.2;have hf:ax la=true:=by have h:=p1;unfold okA at h;rw[Bool.and_eq_true]at h;exact h.1
 show ao Tryd.prog (TD okM mixE okB blkA) 10 10 (ah 10) 13 508 [3,4] [.ptr 0 0,.slice 1 off len false cc z] [.row [.int .u32 x.a,.int .u32 x.b,.int .u32 x.c,.int .u32 x.d,.int .u32 x.e,.int .u32 x.f,.int .u32 x.g,.int .u32 x.h] 53 8,.row la 5 1] _;rw[d3_round];refine ab (fun hb=>?_) (fun hb=>?_)
 ·have hl:64≤len:=by have:=of_decide_eq_true hb;omega
  have hle:Nat.ble 64 len=true:=Nat.ble_eq_true_of_le hl;refine ae (by rw[hle];rfl) (ae (okA_B p1 (by omega)) (ae rfl (ae (by rw[hle,Bool.true_and];exact Nat.ble_eq_true_of_le (Nat.le_refl _)) ?_)));refine⟨⟨la,mixE x (de (blkA la off)),off+64,len-64,cc+64,off⟩,?_,d3_fits (mixE x (de (blkA la off))) la hf _ _ _ _,by simp only[d3Mu];omega,fun K hK=>?_⟩
  ·unfold kH;rw[Bool.and_eq_true,Bool.and_eq_true];refine⟨p1,?_,?_⟩
   ·show Nat.beq (off+64+(len-64)) la.length=true;have:off+64+(len-64)=la.length:=by omega
    rw[this];exact Nat.beq_refl _
   ·show Nat.beq ((len-64)%64) 0=true;have:(len-64)%64=0:=by omega
    rw[this];rfl
  ·have hK:∀x':W8,x'=sumL (len/64) off la x→∀o c z:Nat,K (.exit 4) [.ptr 0 0,.slice 1 o 0 false c z] [.row x'.cells 53 8,.dead]:=hK;have e:len/64=(len-64)/64+1:=by omega
   rw[e]at hK;exact hK
 ·have hl:len=0:=by have:=of_decide_eq_false hb;omega
  subst hl;refine⟨[.ptr 0 0,.slice 1 off 0 false cc z],[.row x.cells 53 8,.dead],fun K hK=>?_,d3_out x la _ _ _ _⟩;have hK:∀x':W8,x'=sumL (0/64) off la x→∀o c z:Nat,K (.exit 4) [.ptr 0 0,.slice 1 o 0 false c z] [.row x'.cells 53 8,.dead]:=hK;rw[Nat.zero_div]at hK;exact hK x rfl off cc z
theorem dx_loop{f:Fr}{st:St}{Q:Exit→Fr→St→Prop}(h:cx 0 (szOf Tryd.prog 13) [0,3,4] dxDec kD dxV dxJ (dxOutG dxP) f st Q):CodeSatW Tryd.prog none 0 (.loop (dJ Tryd.prog 13 60)) f st Q:=
 bN (P:=Tryd.prog) (T:=T3) (k:=0) (lim:=9) (n:=10) (g:=13) (p0:=60) (lk:=ah 9) aH T3_ok (bn 9 _ _) dxMu dx_roundOk h
def d3Dec:List (Option V)→St→Option D3
 |[some (.ptr 0 0),some (.slice b 0 len false 0 0)],.row [.int .u32 a1,.int .u32 a2,.int .u32 a3,.int .u32 a4,.int .u32 a5,.int .u32 a6,.int .u32 a7,.int .u32 a8] t sz::r=>match(Blk.dead::r)[b]? with
  |some (.row la _ _)=>some ⟨la,⟨a1,a2,a3,a4,a5,a6,a7,a8⟩,0,len,0,0⟩
  |_=>none
 |_,_=>none
theorem d3_loop{f:Fr}{st:St}{Q:Exit→Fr→St→Prop}(h:cx 0 (szOf Tryd.prog 13) [3,4] d3Dec kH d3V d3J (d3OutG sumL) f st Q):CodeSatW Tryd.prog none 0 (.loop (dJ Tryd.prog 13 508)) f st Q:=
 bN (P:=Tryd.prog) (T:=TD okM mixE okB blkA) (k:=0) (lim:=10) (n:=10) (g:=13) (p0:=508) (lk:=ah 10) aH TD_ok (bn 10 _ _) d3Mu d3_roundOk h
noncomputable def lk23(FP:List V→List V)(SL:Nat→Nat→List V→W8→W8):Nat→Trans→Trans:=bA 508 (cx 0 (szOf Tryd.prog 13) [3,4] d3Dec kH d3V d3J (d3OutG SL)) (bA 60 (cx 0 (szOf Tryd.prog 13) [0,3,4] dxDec kD dxV dxJ (dxOutG FP)) (ah 10))
theorem lk23_ok:aC Tryd.prog 0 (lk23 dxP sumL) 13:=by
 unfold lk23;exact cm (cm (bj 10 0 13) (by kernel_rfl) fun f st Q h=>dx_loop h) (by kernel_rfl) fun f st Q h=>d3_loop h
noncomputable def TD2(FP:List V→List V)(SL:Nat→Nat→List V→W8→W8):Tab:=⟨noT,noL,dS (bf 10) 13 0 (lk23 FP SL)⟩
theorem TD2_ok:TabOk3 Tryd.prog (TD2 dxP sumL):=⟨aL,aM,bT (au 10) lk23_ok⟩
theorem sum_tree(FP:List V→List V)(SL:Nat→Nat→List V→W8→W8)(s:List UInt8)(R:V→Prop):runW Tryd.prog (TD2 FP SL) 10 10 13 [.str s] R=
  (
 bif s.length.ble 281474976710656 then bif (List.map (fun b=>V.int u8 (↑b.toNat:Int)) s).length.beq (s.length*1)then bif (s.length+1).ble
 9223372036854775807&&((s.length+1)*1).ble 140737488355328 then Fits 0 [.str s,.ptr 0 0,.slice 1 0 (List.map (fun b=>V.int u8 (↑b.toNat:Int)) s++
 [V.int u8 128]).length false 0 0] [.row [.int u32 1779033703,.int u32 3144134277,.int u32 1013904242,.int u32
 2773480762,.int u32 1359893119,.int u32 2600822924,.int u32 528734635,.int u32 1541459225] 53 8,.row (List.map (fun b=>V.int
 u8 (↑b.toNat:Int)) s++[V.int u8 128]) 5 1] [some (.str s),some (.ptr 0 0),some (.slice 3 0 (s.length+1) false 0 0)] [.row [.int u32
 1779033703,.int u32 3144134277,.int u32 1013904242,.int u32 2773480762,.int u32 1359893119,.int u32 2600822924,.int
 u32 528734635,.int u32 1541459225] 53 8,.dead,.row [.int u8 128] 5 1,.row (List.map (fun b=>V.int u8 (↑b.toNat:Int)) s
 ++[V.int u8 128]) 5 1]∧bif kD {s:=s,cs:=List.map (fun b=>V.int u8 (↑b.toNat:Int)) s++[V.int u8 128]}then ∀(p:List V),p=
 FP (List.map (fun b=>V.int u8 (↑b.toNat:Int)) s++[V.int u8 128])→bif p.length.beq (p.length*1)then bif (p.length+1).ble 9223372036854775807
 &&((p.length+1)*1).ble 140737488355328 then bif (p++[V.int u8 (u8.wrap ((u64.wrap (u64.wrap (↑s.length:Int)*8)).fdiv
 72057594037927936))]).length.beq ((p.length+1)*1)then bif (p.length+1+1).ble 9223372036854775807&&((p.length+1+1)*1).ble 140737488355328 then bif (p++
 [V.int u8 (u8.wrap ((u64.wrap (u64.wrap (↑s.length:Int)*8)).fdiv 72057594037927936))]++[V.int u8 (u8.wrap
 ((u64.wrap (u64.wrap (↑s.length:Int)*8)).fdiv 281474976710656))]).length.beq ((p.length+1+1)*1)then bif (p.length+1+1+1).ble
 9223372036854775807&&((p.length+1+1+1)*1).ble 140737488355328 then bif (p++[V.int u8 (u8.wrap ((u64.wrap (u64.wrap (↑s.length
 :Int)*8)).fdiv 72057594037927936))]++[V.int u8 (u8.wrap ((u64.wrap (u64.wrap (↑s.length:Int)*8)).fdiv 281474976710656))]++
 [V.int u8 (u8.wrap ((u64.wrap (u64.wrap (↑s.length:Int)*8)).fdiv 1099511627776))]).length.beq ((p.length+1+1+1)*1)then bif
 (p.length+1+1+1+1).ble 9223372036854775807&&((p.length+1+1+1+1)*1).ble 140737488355328 then bif (p++[V.int u8 (u8.wrap
 ((u64.wrap (u64.wrap (↑s.length:Int)*8)).fdiv 72057594037927936))]++[V.int u8 (u8.wrap ((u64.wrap (u64.wrap
 (↑s.length:Int)*8)).fdiv 281474976710656))]++[V.int u8 (u8.wrap ((u64.wrap (u64.wrap (↑s.length:Int)*8)).fdiv 1099511627776))]
 ++[V.int u8 (u8.wrap ((u64.wrap (u64.wrap (↑s.length:Int)*8)).fdiv 4294967296))]).length.beq ((p.length+1+1+1+1)*1)then
 bif (p.length+1+1+1+1+1).ble 9223372036854775807&&((p.length+1+1+1+1+1)*1).ble 140737488355328 then bif (p++[V.int u8 (u8.wrap
 ((u64.wrap (u64.wrap (↑s.length:Int)*8)).fdiv 72057594037927936))]++[V.int u8 (u8.wrap ((u64.wrap (u64.wrap
 (↑s.length:Int)*8)).fdiv 281474976710656))]++[V.int u8 (u8.wrap ((u64.wrap (u64.wrap (↑s.length:Int)*8)).fdiv 1099511627776))]
 ++[V.int u8 (u8.wrap ((u64.wrap (u64.wrap (↑s.length:Int)*8)).fdiv 4294967296))]++[V.int u8 (u8.wrap
 ((u64.wrap (u64.wrap (↑s.length:Int)*8)).fdiv 16777216))]).length.beq ((p.length+1+1+1+1+1)*1)then bif (p.length+1+1+1+1+1+
 1).ble 9223372036854775807&&((p.length+1+1+1+1+1+1)*1).ble 140737488355328 then bif (p++[V.int u8 (u8.wrap ((u64.wrap
 (u64.wrap (↑s.length:Int)*8)).fdiv 72057594037927936))]++[V.int u8 (u8.wrap ((u64.wrap (u64.wrap (↑s.length:Int)*
 8)).fdiv 281474976710656))]++[V.int u8 (u8.wrap ((u64.wrap (u64.wrap (↑s.length:Int)*8)).fdiv 1099511627776))]++[V.int u8
 (u8.wrap ((u64.wrap (u64.wrap (↑s.length:Int)*8)).fdiv 4294967296))]++[V.int u8 (u8.wrap ((u64.wrap
 (u64.wrap (↑s.length:Int)*8)).fdiv 16777216))]++[V.int u8 (u8.wrap ((u64.wrap (u64.wrap (↑s.length:Int)*8)).fdiv
 65536))]).length.beq ((p.length+1+1+1+1+1+1)*1)then bif (p.length+1+1+1+1+1+1+1).ble 9223372036854775807&&((p.length+1+1+1+1+1+
 1+1)*1).ble 140737488355328 then bif (p++[V.int u8 (u8.wrap ((u64.wrap (u64.wrap (↑s.length:Int)*8)).fdiv 72057594037927936))]
 ++[V.int u8 (u8.wrap ((u64.wrap (u64.wrap (↑s.length:Int)*8)).fdiv 281474976710656))]++[V.int u8 (u8.wrap
 ((u64.wrap (u64.wrap (↑s.length:Int)*8)).fdiv 1099511627776))]++[V.int u8 (u8.wrap ((u64.wrap (u64.wrap (↑s.length:
 Int)*8)).fdiv 4294967296))]++[V.int u8 (u8.wrap ((u64.wrap (u64.wrap (↑s.length:Int)*8)).fdiv 16777216))]++[V.int u8
 (u8.wrap ((u64.wrap (u64.wrap (↑s.length:Int)*8)).fdiv 65536))]++[V.int u8 (u8.wrap ((u64.wrap (u64.wrap
 (↑s.length:Int)*8)).fdiv 256))]).length.beq ((p.length+1+1+1+1+1+1+1)*1)then bif (p.length+1+1+1+1+1+1+1+1).ble 9223372036854775807
 &&((p.length+1+1+1+1+1+1+1+1)*1).ble 140737488355328 then Fits 0 [.ptr 0 0,.slice 1 0 (p.length+1+1+1+1+1+1+1+1) false 0 0] [.row
 [.int u32 1779033703,.int u32 3144134277,.int u32 1013904242,.int u32 2773480762,.int u32 1359893119,.int u32
 2600822924,.int u32 528734635,.int u32 1541459225] 53 8,.row (p++[V.int u8 (u8.wrap ((u64.wrap (u64.wrap
 (↑s.length:Int)*8)).fdiv 72057594037927936))]++[V.int u8 (u8.wrap ((u64.wrap (u64.wrap (↑s.length:Int)*8)).fdiv
 281474976710656))]++[V.int u8 (u8.wrap ((u64.wrap (u64.wrap (↑s.length:Int)*8)).fdiv 1099511627776))]++[V.int u8
 (u8.wrap ((u64.wrap (u64.wrap (↑s.length:Int)*8)).fdiv 4294967296))]++[V.int u8 (u8.wrap ((u64.wrap
 (u64.wrap (↑s.length:Int)*8)).fdiv 16777216))]++[V.int u8 (u8.wrap ((u64.wrap (u64.wrap (↑s.length:Int)*8)).fdiv
 65536))]++[V.int u8 (u8.wrap ((u64.wrap (u64.wrap (↑s.length:Int)*8)).fdiv 256))]++[V.int u8 (u8.wrap
 ((u64.wrap (u64.wrap (↑s.length:Int)*8)).fdiv 1))]) 5 1] [some (.ptr 0 0),some (.slice 17 0 (p.length+1+1+1+1+1+1+1+1) false 0 0)]
 [.row [.int u32 1779033703,.int u32 3144134277,.int u32 1013904242,.int u32 2773480762,.int u32 1359893119,.int
 u32 2600822924,.int u32 528734635,.int u32 1541459225] 53 8,.dead,.row [.int u8 (u8.wrap ((u64.wrap
 (u64.wrap (↑s.length:Int)*8)).fdiv 72057594037927936))] 5 1,.dead,.row [.int u8 (u8.wrap ((u64.wrap (u64.wrap
 (↑s.length:Int)*8)).fdiv 281474976710656))] 5 1,.dead,.row [.int u8 (u8.wrap ((u64.wrap (u64.wrap (↑s.length:Int)*
 8)).fdiv 1099511627776))] 5 1,.dead,.row [.int u8 (u8.wrap ((u64.wrap (u64.wrap (↑s.length:Int)*8)).fdiv 4294967296))] 5 1,
 .dead,.row [.int u8 (u8.wrap ((u64.wrap (u64.wrap (↑s.length:Int)*8)).fdiv 16777216))] 5 1,.dead,.row [.int
 u8 (u8.wrap ((u64.wrap (u64.wrap (↑s.length:Int)*8)).fdiv 65536))] 5 1,.dead,.row [.int u8 (u8.wrap
 ((u64.wrap (u64.wrap (↑s.length:Int)*8)).fdiv 256))] 5 1,.dead,.row [.int u8 (u8.wrap ((u64.wrap (u64.wrap
 (↑s.length:Int)*8)).fdiv 1))] 5 1,.row (p++[V.int u8 (u8.wrap ((u64.wrap (u64.wrap (↑s.length:Int)*8)).fdiv
 72057594037927936))]++[V.int u8 (u8.wrap ((u64.wrap (u64.wrap (↑s.length:Int)*8)).fdiv 281474976710656))]++[V.int u8
 (u8.wrap ((u64.wrap (u64.wrap (↑s.length:Int)*8)).fdiv 1099511627776))]++[V.int u8 (u8.wrap ((u64.wrap
 (u64.wrap (↑s.length:Int)*8)).fdiv 4294967296))]++[V.int u8 (u8.wrap ((u64.wrap (u64.wrap (↑s.length:Int)*8)).fdiv
 16777216))]++[V.int u8 (u8.wrap ((u64.wrap (u64.wrap (↑s.length:Int)*8)).fdiv 65536))]++[V.int u8 (u8.wrap
 ((u64.wrap (u64.wrap (↑s.length:Int)*8)).fdiv 256))]++[V.int u8 (u8.wrap ((u64.wrap (u64.wrap (↑s.length:Int)*
 8)).fdiv 1))]) 5 1]∧bif kH {la:=p++[V.int u8 (u8.wrap ((u64.wrap (u64.wrap (↑s.length:Int)*8)).fdiv 72057594037927936))]++[V.int u8 (u8.wrap ((u64.wrap (u64.wrap (↑s.length:Int)*8)).fdiv 281474976710656))]++[V.int u8 (u8.wrap ((u64.wrap (u64.wrap (↑s.length:Int)*8)).fdiv 1099511627776))]++[V.int u8 (u8.wrap ((u64.wrap (u64.wrap (↑s.length:Int)*8)).fdiv 4294967296))]++[V.int u8 (u8.wrap ((u64.wrap (u64.wrap (↑s.length:Int)*8)).fdiv 16777216))]++[V.int u8 (u8.wrap ((u64.wrap (u64.wrap (↑s.length:Int)*8)).fdiv 65536))]++[V.int u8 (u8.wrap ((u64.wrap (u64.wrap (↑s.length:Int)*8)).fdiv 256))]++[V.int u8 (u8.wrap ((u64.wrap (u64.wrap (↑s.length:Int)*8)).fdiv 1))],x:={a:=1779033703,b:=3144134277,c:=1013904242,d:=2773480762,e:=1359893119,f:=2600822924,g:=528734635,h:=1541459225},off:=0,len:=p.length+1+1+1+1+1+1+1+1,cc:=0,z:=0}
 then ∀(x:W8),x=SL ((p.length+1+1+1+1+1+1+1+1)/64) 0 (p++[V.int u8 (u8.wrap ((u64.wrap (u64.wrap (↑s.length:
 Int)*8)).fdiv 72057594037927936))]++[V.int u8 (u8.wrap ((u64.wrap (u64.wrap (↑s.length:Int)*8)).fdiv 281474976710656))]++[V.int
 u8 (u8.wrap ((u64.wrap (u64.wrap (↑s.length:Int)*8)).fdiv 1099511627776))]++[V.int u8 (u8.wrap ((u64.wrap
 (u64.wrap (↑s.length:Int)*8)).fdiv 4294967296))]++[V.int u8 (u8.wrap ((u64.wrap (u64.wrap (↑s.length:Int)*8)).fdiv
 16777216))]++[V.int u8 (u8.wrap ((u64.wrap (u64.wrap (↑s.length:Int)*8)).fdiv 65536))]++[V.int u8 (u8.wrap
 ((u64.wrap (u64.wrap (↑s.length:Int)*8)).fdiv 256))]++[V.int u8 (u8.wrap ((u64.wrap (u64.wrap (↑s.length:Int)*
 8)).fdiv 1))]) {a:=1779033703,b:=3144134277,c:=1013904242,d:=2773480762,e:=1359893119,f:=2600822924,g:=528734635,h:=1541459225}→∀(o c z:
 Nat),R (.str (List.map Vm.byteOf [.int u8 (u8.wrap (x.a.fdiv 16777216)),.int u8 (u8.wrap (x.a.fdiv 65536)),.int u8
 (u8.wrap (x.a.fdiv 256)),.int u8 (u8.wrap x.a),.int u8 (u8.wrap (x.b.fdiv 16777216)),.int u8 (u8.wrap
 (x.b.fdiv 65536)),.int u8 (u8.wrap (x.b.fdiv 256)),.int u8 (u8.wrap x.b),.int u8 (u8.wrap (x.c.fdiv 16777216)),
 .int u8 (u8.wrap (x.c.fdiv 65536)),.int u8 (u8.wrap (x.c.fdiv 256)),.int u8 (u8.wrap x.c),.int u8
 (u8.wrap (x.d.fdiv 16777216)),.int u8 (u8.wrap (x.d.fdiv 65536)),.int u8 (u8.wrap (x.d.fdiv 256)),.int u8
 (u8.wrap x.d),.int u8 (u8.wrap (x.e.fdiv 16777216)),.int u8 (u8.wrap (x.e.fdiv 65536)),.int u8 (u8.wrap
 (x.e.fdiv 256)),.int u8 (u8.wrap x.e),.int u8 (u8.wrap (x.f.fdiv 16777216)),.int u8 (u8.wrap (x.f.fdiv 65536)),
 .int u8 (u8.wrap (x.f.fdiv 256)),.int u8 (u8.wrap x.f),.int u8 (u8.wrap (x.g.fdiv 16777216)),.int u8
 (u8.wrap (x.g.fdiv 65536)),.int u8 (u8.wrap (x.g.fdiv 256)),.int u8 (u8.wrap x.g),.int u8 (u8.wrap (x.h.fdiv
 16777216)),.int u8 (u8.wrap (x.h.fdiv 65536)),.int u8 (u8.wrap (x.h.fdiv 256)),.int u8 (u8.wrap x.h)]))else False
 else False else False else False else False else False else False else False else False else False else False else False else False else False else False else False else
 False else False else False else False else False):=by kernel_rfl
theorem dR{o:List V}{k:Nat}{A:Prop}(h:o.length=k)(hk:k≤2000000)(hA:A):must (Nat.beq o.length (k*1)) (must ((k+1).ble 9223372036854775807&&((k+1)*1).ble 140737488355328) A):=by
 refine ae (by rw[h,Nat.mul_one];exact Nat.beq_refl _) (ae ?_ hA);rw[Bool.and_eq_true];exact⟨Nat.ble_eq_true_of_le (by omega),Nat.ble_eq_true_of_le (by omega)⟩
theorem aB{o:List V}{k:Nat}{v:V}(h:o.length=k):(o++[v]).length=k+1:=by rw[List.length_append,h];rfl
def lenD(n:Nat)(k:Int):V:=.int .u8 (u8.wrap ((u64.wrap (u64.wrap (n:Int)*8)).fdiv k))
def la8(p:List V)(n:Nat):List V:=((((((((p++[lenD n 72057594037927936])++[lenD n 281474976710656])++[lenD n 1099511627776])++[lenD n 4294967296])++[lenD n 16777216])++[lenD n 65536])++[lenD n 256])++[lenD n 1])
def outW(x:W8):List V:=[V.int .u8 (u8.wrap (x.a.fdiv 16777216)),V.int .u8 (u8.wrap (x.a.fdiv 65536)),V.int .u8 (u8.wrap (x.a.fdiv 256)),V.int .u8 (u8.wrap x.a),V.int .u8 (u8.wrap (x.b.fdiv 16777216)),V.int .u8 (u8.wrap (x.b.fdiv 65536)),V.int .u8 (u8.wrap (x.b.fdiv 256)),V.int .u8 (u8.wrap x.b),V.int .u8 (u8.wrap (x.c.fdiv 16777216)),V.int .u8 (u8.wrap (x.c.fdiv 65536)),V.int .u8 (u8.wrap (x.c.fdiv 256)),V.int .u8 (u8.wrap x.c),V.int .u8 (u8.wrap (x.d.fdiv 16777216)),V.int .u8 (u8.wrap (x.d.fdiv 65536)),V.int .u8 (u8.wrap (x.d.fdiv 256)),V.int .u8 (u8.wrap x.d),V.int .u8 (u8.wrap (x.e.fdiv 16777216)),V.int .u8 (u8.wrap (x.e.fdiv 65536)),V.int .u8 (u8.wrap (x.e.fdiv 256)),V.int .u8 (u8.wrap x.e),V.int .u8 (u8.wrap (x.f.fdiv 16777216)),V.int .u8 (u8.wrap (x.f.fdiv 65536)),V.int .u8 (u8.wrap (x.f.fdiv 256)),V.int .u8 (u8.wrap x.f),V.int .u8 (u8.wrap (x.g.fdiv 16777216)),V.int .u8 (u8.wrap (x.g.fdiv 65536)),V.int .u8 (u8.wrap (x.g.fdiv 256)),V.int .u8 (u8.wrap x.g),V.int .u8 (u8.wrap (x.h.fdiv 16777216)),V.int .u8 (u8.wrap (x.h.fdiv 65536)),V.int .u8 (u8.wrap (x.h.fdiv 256)),V.int .u8 (u8.wrap x.h)]
def padP(s:List UInt8):List V:=dxP (bys s++[V.int .u8 128])
def sumW(s:List UInt8):W8:=sumL (((padP s).length+1+1+1+1+1+1+1+1)/64) 0 (la8 (padP s) s.length) ivW
def sumF(s:List UInt8):List UInt8:=(outW (sumW s)).map Vm.byteOf
def sumT:List V→Option (List (Bool×(V×St)))
 |[.str s]=>some [(okL s,(.str (sumF s),[]))]
 |_=>none
theorem d3_fitsN(la:List V)(hf:ax la=true)(l c:Nat)(st:St)(h0:st[0]?=some (.row ivW.cells 53 8))(hc:st[c]?=some (.row la 5 1))(hc0:c≠0):Fits 0 [.ptr 0 0,.slice 1 0 l false 0 0] [.row ivW.cells 53 8,.row la 5 1] [some (.ptr 0 0),some (.slice c 0 l false 0 0)] st:=
 ⟨[0,c],[.ptr 0 0,.slice c 0 l false 0 0],rfl,rfl,FitsM.of ⟨.inr ⟨_,.inl rfl,h0⟩,fb hf hc,trivial⟩,by simp;omega,fun i hi=>by omega⟩
theorem okA_bys(s:List UInt8):okA (bys s)=true:=by
 unfold okA;rw[Bool.and_eq_true];refine⟨bys_flat s,?_⟩;unfold bys;rw[List.all_map,List.all_eq_true];intro b _;rfl
theorem dH{l r:List V}(h1:okA l=true)(h2:okA r=true):okA (l++r)=true:=by
 unfold okA at*
 rw[Bool.and_eq_true]at*
 exact⟨j0 h1.1 h2.1,by rw[List.all_append,h1.2,h2.2];rfl⟩
theorem okA_rep(n:Nat):okA (List.replicate n (.int .u8 0))=true:=by
 induction n with
 |zero=>rfl
 |succ n ih=>rw[List.replicate_succ];exact dH (l:=[.int .u8 0]) rfl ih
theorem sum_ok(args:List V)(l:List (Bool×(V×St)))(o:V×St)(h:sumT args=some l)(ho:aP l=some o):FnSat Tryd.prog 13 args [] (Is o):=by
 unfold sumT at h;split at h
 ·rename_i s;cases h;cases hk:okL s with
  |false=>rw[hk]at ho;cases ho
  |true=>
  rw[hk]at ho;cases ho;have p1:=okL_le hk;have hc:okA (bys s++[V.int .u8 128])=true:=dH (okA_bys s) rfl;have hcl:(bys s++[V.int .u8 128]).length=s.length+1:=aB (bys_len s);have hP:okA (padP s)=true:=dH hc (okA_rep _);have hPl:(padP s).length=s.length+1+dxN (s.length+1):=by unfold padP dxP;rw[List.length_append,List.length_replicate,hcl]
  have hN:dxN (s.length+1)<64:=by unfold dxN;omega
  have hM:(padP s).length%64=56:=by rw[hPl];unfold dxN;omega
  refine aJ (lim:=10) (n:=10) aH TD2_ok rfl rfl ?_;rw[sum_tree];refine ae (Nat.ble_eq_true_of_le (by omega)) (dR (bys_ln s) (by omega) ⟨?_,ae ?_ (fun p hp=>?_)⟩)
  ·have:=oU s (bys s++[V.int .u8 128]) (by have h:=hc;unfold okA at h;rw[Bool.and_eq_true]at h;exact h.1) (bys s++[V.int .u8 128]).length 3;have hcl2:(List.map (fun b:UInt8=>V.int .u8 (b.toNat:Int)) s++[V.int .u8 128]).length=s.length+1:=hcl;rw[hcl2];rw[hcl]at this;exact this _ rfl rfl (by omega)
  ·unfold kD;rw[Bool.and_eq_true];refine⟨by have h:=hc;unfold okA at h;rw[Bool.and_eq_true]at h;exact h.1,Nat.ble_eq_true_of_le ?_⟩;show(bys s++[V.int .u8 128]).length+dxN (bys s++[V.int .u8 128]).length≤1000000;rw[hcl];omega
  ·have hp:p=padP s:=hp;have hl:p.length≤200000:=by rw[hp];omega
   have hA:okA (la8 p s.length)=true:=by
    rw[hp];unfold la8;exact dH (dH (dH (dH (dH (dH (dH (dH hP rfl) rfl) rfl) rfl) rfl) rfl) rfl) rfl
   have hF:ax (la8 p s.length)=true:=by have h:=hA;unfold okA at h;rw[Bool.and_eq_true]at h;exact h.1
   have hL:(la8 p s.length).length=p.length+1+1+1+1+1+1+1+1:=aB (aB (aB (aB (aB (aB (aB (aB rfl)))))));refine dR rfl (by omega) (dR (aB rfl) (by omega) (dR (aB (aB rfl)) (by omega) (dR (aB (aB (aB rfl))) (by omega) (dR (aB (aB (aB (aB rfl)))) (by omega) (dR (aB (aB (aB (aB (aB rfl))))) (by omega) (dR (aB (aB (aB (aB (aB (aB rfl)))))) (by omega) (dR (aB (aB (aB (aB (aB (aB (aB rfl))))))) (by omega) (?_))))))));refine⟨?_,ae ?_ (fun x hx o c z=>?_)⟩
   ·exact d3_fitsN (la8 p s.length) hF _ _ _ rfl rfl (by omega)
   ·unfold kH;rw[Bool.and_eq_true,Bool.and_eq_true];refine⟨hA,?_,?_⟩
    ·show Nat.beq (0+(p.length+1+1+1+1+1+1+1+1)) (la8 p s.length).length=true;rw[hL,Nat.zero_add];exact Nat.beq_refl _
    ·show Nat.beq ((p.length+1+1+1+1+1+1+1+1)%64) 0=true;have:(p.length+1+1+1+1+1+1+1+1)%64=0:=by rw[hp];omega
     rw[this];rfl
   ·have hx:x=sumW s:=by rw[hx,hp];rfl
    rw[hx];rfl
 ·cases h
end Go.Proofs.YtebkeppoicllmaaDoor
