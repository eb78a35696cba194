/- Base64: what the program's bytes of texts come to. -/
import Derived.Test.YtlgapohnmcmhdaaDoorBase
import Derived.Test.YtlgapohnmcmhdaaDoorUnhex
namespace Go.Proofs.YtlgapohnmcmhdaaDoor
open Go Go.Vm Go.RowKit
set_option linter.unusedVariables false
set_option maxRecDepth 4000
theorem tb_round (s : List UInt8) (R : Exit → List (Option V) → St → Prop) : roundW Tryd.prog T3 9 10 (rounds 9) 41 12 [0,1] [.str s, .int .u8 61] [] R =
   (
 bif decide ((↑s.length : Int) > 0) then
 bif
 decide (0 ≤ IntKind.i64.wrap ((↑s.length : Int) - 1)) &&
 (IntKind.i64.wrap ((↑s.length : Int) - 1)).toNat.blt s.length then
 bif (↑(s.getD (IntKind.i64.wrap ((↑s.length : Int) - 1)).toNat 0).toNat : Int) == 61 then
 bif decide (0 ≤ IntKind.i64.wrap ((↑s.length : Int) - 1)) then
 bif true && (IntKind.i64.wrap ((↑s.length : Int) - 1)).toNat.ble s.length then
 R Exit.normal
 [some (V.str (List.take ((IntKind.i64.wrap ((↑s.length : Int) - 1)).toNat - 0) (List.drop 0 s))),
 some (V.int IntKind.u8 61)]
 []
 else False
 else False
 else R (Exit.exit 0) [some (V.str s), some (V.int IntKind.u8 61)] []
 else False
 else R (Exit.exit 0) [some (V.str s), some (V.int IntKind.u8 61)] []) := by kernel_rfl
def ubM (b : V) (held have_ : Int) (la : List V) : St := [.row [b] 37 1, .row [.int .i64 8] 3 1, .row [.func (.func 29) [] [.ptr 0 0]] 41 1, .row [.int .u64 held] 38 1, .row [.int .i64 have_] 3 1, .row la 5 1]
def ubVs (s t : List UInt8) (i : Int) (r2 r3 : V) : List V := [.str s, .ptr 0 0, .func (.func 39) [] [.ptr 3 0, .ptr 4 0, .ptr 1 0, .ptr 2 0], .slice 5 0 t.length false 0 0, .int .i64 (t.length : Int), .int .i64 i, r2, r3]
theorem u_round0n (s t : List UInt8) (la : List V) (i : Int) (R : Exit → List (Option V) → St → Prop) : roundW Tryd.prog TB 9 10 (rounds 9) 17 122 [0,4,5,13,14,15,2,3] (ubVs s t i (.str []) (.int .i64 0)) (ubM .nilSlice 0 0 la) R =
   (
 bif decide (i < (↑t.length : Int)) then
 bif decide (0 ≤ i) && decide (i < (↑t.length : Int)) then
 bif (0 + i.toNat * 1).blt la.length then
 bif isIntV IntKind.u8 (la.getD (0 + i.toNat * 1) (V.bool false)) then
 bif
 decide
 (Lib.indexByte
 [65, 66, 67, 68, 69, 70, 71, 72, 73, 74, 75, 76, 77, 78, 79, 80, 81, 82, 83, 84, 85, 86, 87, 88, 89,
 90, 97, 98, 99, 100, 101, 102, 103, 104, 105, 106, 107, 108, 109, 110, 111, 112, 113, 114, 115, 116,
 117, 118, 119, 120, 121, 122, 48, 49, 50, 51, 52, 53, 54, 55, 56, 57, 43, 47]
 (UInt8.ofNat (intOfV (la.getD (0 + i.toNat * 1) (V.bool false))).toNat) <
 0) then
 R Exit.ret
 [some (V.str s), some (V.ptr 0 0),
 some (V.func (Fn.func 39) [] [V.ptr 3 0, V.ptr 4 0, V.ptr 1 0, V.ptr 2 0]),
 some (V.slice 5 0 t.length false 0 0), some (V.int IntKind.i64 (↑t.length : Int)),
 some (V.int IntKind.i64 i), some (V.str []), some (V.int IntKind.i64 4)]
 [Blk.row [V.nilSlice] 37 1, Blk.row [V.int IntKind.i64 8] 3 1,
 Blk.row [V.func (Fn.func 29) [] [V.ptr 0 0]] 41 1, Blk.row [V.int IntKind.u64 0] 38 1,
 Blk.row [V.int IntKind.i64 0] 3 1, Blk.row la 5 1]
 else
 R Exit.normal
 [some (V.str s), some (V.ptr 0 0),
 some (V.func (Fn.func 39) [] [V.ptr 3 0, V.ptr 4 0, V.ptr 1 0, V.ptr 2 0]),
 some (V.slice 5 0 t.length false 0 0), some (V.int IntKind.i64 (↑t.length : Int)),
 some (V.int IntKind.i64 (IntKind.i64.wrap (i + 1))), some (V.str []), some (V.int IntKind.i64 0)]
 [Blk.row [V.nilSlice] 37 1, Blk.row [V.int IntKind.i64 8] 3 1,
 Blk.row [V.func (Fn.func 29) [] [V.ptr 0 0]] 41 1,
 Blk.row
 [V.int IntKind.u64
 (IntKind.u64.wrap
 (↑(BitVec.ofInt 64
 (intOfV
 (V.int IntKind.u64
 (IntKind.u64.wrap
 (↑(BitVec.ofInt 64 0 |||
 BitVec.ofInt 64
 (IntKind.u64.wrap
 (Lib.indexByte
 [65, 66, 67, 68, 69, 70, 71, 72, 73, 74, 75, 76, 77, 78, 79, 80, 81,
 82, 83, 84, 85, 86, 87, 88, 89, 90, 97, 98, 99, 100, 101, 102,
 103, 104, 105, 106, 107, 108, 109, 110, 111, 112, 113, 114, 115,
 116, 117, 118, 119, 120, 121, 122, 48, 49, 50, 51, 52, 53, 54, 55,
 56, 57, 43, 47]
 (UInt8.ofNat
 (intOfV
 (la.getD (0 + i.toNat * 1) (V.bool false))).toNat)))).toNat :
 Int)))) &&&
 BitVec.ofInt 64 63).toNat :
 Int))]
 38 1,
 Blk.row [V.int IntKind.i64 6] 3 1, Blk.row la 5 1]
 else False
 else False
 else False
 else
 R (Exit.exit 0)
 [some (V.str s), some (V.ptr 0 0), some (V.func (Fn.func 39) [] [V.ptr 3 0, V.ptr 4 0, V.ptr 1 0, V.ptr 2 0]),
 some (V.slice 5 0 t.length false 0 0), some (V.int IntKind.i64 (↑t.length : Int)), some (V.int IntKind.i64 i),
 some (V.str []), some (V.int IntKind.i64 0)]
 [Blk.row [V.nilSlice] 37 1, Blk.row [V.int IntKind.i64 8] 3 1, Blk.row [V.func (Fn.func 29) [] [V.ptr 0 0]] 41 1,
 Blk.row [V.int IntKind.u64 0] 38 1, Blk.row [V.int IntKind.i64 0] 3 1, Blk.row la 5 1]) := by kernel_rfl
theorem u_round6n (s t : List UInt8) (la : List V) (h i : Int) (R : Exit → List (Option V) → St → Prop) : roundW Tryd.prog TB 9 10 (rounds 9) 17 122 [0,4,5,13,14,15,2,3] (ubVs s t i (.str []) (.int .i64 0)) (ubM .nilSlice h 6 la) R =
   (
 bif decide (i < (↑t.length : Int)) then
 bif decide (0 ≤ i) && decide (i < (↑t.length : Int)) then
 bif (0 + i.toNat * 1).blt la.length then
 bif isIntV IntKind.u8 (la.getD (0 + i.toNat * 1) (V.bool false)) then
 bif
 decide
 (Lib.indexByte
 [65, 66, 67, 68, 69, 70, 71, 72, 73, 74, 75, 76, 77, 78, 79, 80, 81, 82, 83, 84, 85, 86, 87, 88, 89,
 90, 97, 98, 99, 100, 101, 102, 103, 104, 105, 106, 107, 108, 109, 110, 111, 112, 113, 114, 115, 116,
 117, 118, 119, 120, 121, 122, 48, 49, 50, 51, 52, 53, 54, 55, 56, 57, 43, 47]
 (UInt8.ofNat (intOfV (la.getD (0 + i.toNat * 1) (V.bool false))).toNat) <
 0) then
 R Exit.ret
 [some (V.str s), some (V.ptr 0 0),
 some (V.func (Fn.func 39) [] [V.ptr 3 0, V.ptr 4 0, V.ptr 1 0, V.ptr 2 0]),
 some (V.slice 5 0 t.length false 0 0), some (V.int IntKind.i64 (↑t.length : Int)),
 some (V.int IntKind.i64 i), some (V.str []), some (V.int IntKind.i64 4)]
 [Blk.row [V.nilSlice] 37 1, Blk.row [V.int IntKind.i64 8] 3 1,
 Blk.row [V.func (Fn.func 29) [] [V.ptr 0 0]] 41 1, Blk.row [V.int IntKind.u64 h] 38 1,
 Blk.row [V.int IntKind.i64 6] 3 1, Blk.row la 5 1]
 else
 R Exit.normal
 [some (V.str s), some (V.ptr 0 0),
 some (V.func (Fn.func 39) [] [V.ptr 3 0, V.ptr 4 0, V.ptr 1 0, V.ptr 2 0]),
 some (V.slice 5 0 t.length false 0 0), some (V.int IntKind.i64 (↑t.length : Int)),
 some (V.int IntKind.i64 (IntKind.i64.wrap (i + 1))), some (V.str []), some (V.int IntKind.i64 0)]
 [Blk.row [V.slice 7 0 1 false 0 0] 37 1, Blk.row [V.int IntKind.i64 8] 3 1,
 Blk.row [V.func (Fn.func 29) [] [V.ptr 0 0]] 41 1,
 Blk.row
 [V.int IntKind.u64
 (IntKind.u64.wrap
 (↑(BitVec.ofInt 64
 (intOfV
 (V.int IntKind.u64
 (IntKind.u64.wrap
 (↑(BitVec.ofInt 64 (IntKind.u64.wrap (intOfV (V.int IntKind.u64 h) * 64)) |||
 BitVec.ofInt 64
 (IntKind.u64.wrap
 (Lib.indexByte
 [65, 66, 67, 68, 69, 70, 71, 72, 73, 74, 75, 76, 77, 78, 79, 80, 81,
 82, 83, 84, 85, 86, 87, 88, 89, 90, 97, 98, 99, 100, 101, 102,
 103, 104, 105, 106, 107, 108, 109, 110, 111, 112, 113, 114, 115,
 116, 117, 118, 119, 120, 121, 122, 48, 49, 50, 51, 52, 53, 54, 55,
 56, 57, 43, 47]
 (UInt8.ofNat
 (intOfV
 (la.getD (0 + i.toNat * 1) (V.bool false))).toNat)))).toNat :
 Int)))) &&&
 BitVec.ofInt 64 15).toNat :
 Int))]
 38 1,
 Blk.row [V.int IntKind.i64 4] 3 1, Blk.row la 5 1,
 Blk.row
 [V.int IntKind.u8
 (IntKind.u8.wrap
 (IntKind.u64.wrap
 (↑(BitVec.ofInt 64
 ((intOfV
 (V.int IntKind.u64
 (IntKind.u64.wrap
 (↑(BitVec.ofInt 64
 (IntKind.u64.wrap (intOfV (V.int IntKind.u64 h) * 64)) |||
 BitVec.ofInt 64
 (IntKind.u64.wrap
 (Lib.indexByte
 [65, 66, 67, 68, 69, 70, 71, 72, 73, 74, 75, 76, 77, 78, 79,
 80, 81, 82, 83, 84, 85, 86, 87, 88, 89, 90, 97, 98, 99, 100,
 101, 102, 103, 104, 105, 106, 107, 108, 109, 110, 111, 112,
 113, 114, 115, 116, 117, 118, 119, 120, 121, 122, 48, 49,
 50, 51, 52, 53, 54, 55, 56, 57, 43, 47]
 (UInt8.ofNat
 (intOfV
 (la.getD (0 + i.toNat * 1)
 (V.bool false))).toNat)))).toNat :
 Int)))).fdiv
 16) &&&
 BitVec.ofInt 64 255).toNat :
 Int)))]
 5 1,
 Blk.row
 [V.int IntKind.u8
 (IntKind.u8.wrap
 (IntKind.u64.wrap
 (↑(BitVec.ofInt 64
 ((intOfV
 (V.int IntKind.u64
 (IntKind.u64.wrap
 (↑(BitVec.ofInt 64
 (IntKind.u64.wrap (intOfV (V.int IntKind.u64 h) * 64)) |||
 BitVec.ofInt 64
 (IntKind.u64.wrap
 (Lib.indexByte
 [65, 66, 67, 68, 69, 70, 71, 72, 73, 74, 75, 76, 77, 78, 79,
 80, 81, 82, 83, 84, 85, 86, 87, 88, 89, 90, 97, 98, 99, 100,
 101, 102, 103, 104, 105, 106, 107, 108, 109, 110, 111, 112,
 113, 114, 115, 116, 117, 118, 119, 120, 121, 122, 48, 49,
 50, 51, 52, 53, 54, 55, 56, 57, 43, 47]
 (UInt8.ofNat
 (intOfV
 (la.getD (0 + i.toNat * 1)
 (V.bool false))).toNat)))).toNat :
 Int)))).fdiv
 16) &&&
 BitVec.ofInt 64 255).toNat :
 Int)))]
 5 1]
 else False
 else False
 else False
 else
 R (Exit.exit 0)
 [some (V.str s), some (V.ptr 0 0), some (V.func (Fn.func 39) [] [V.ptr 3 0, V.ptr 4 0, V.ptr 1 0, V.ptr 2 0]),
 some (V.slice 5 0 t.length false 0 0), some (V.int IntKind.i64 (↑t.length : Int)), some (V.int IntKind.i64 i),
 some (V.str []), some (V.int IntKind.i64 0)]
 [Blk.row [V.nilSlice] 37 1, Blk.row [V.int IntKind.i64 8] 3 1, Blk.row [V.func (Fn.func 29) [] [V.ptr 0 0]] 41 1,
 Blk.row [V.int IntKind.u64 h] 38 1, Blk.row [V.int IntKind.i64 6] 3 1, Blk.row la 5 1]) := by kernel_rfl
theorem u_round0 (s t : List UInt8) (la o : List V) (k : Nat) (i : Int) (R : Exit → List (Option V) → St → Prop) : roundW Tryd.prog TB 9 10 (rounds 9) 17 122 [0,4,5,13,14,15,2,3] (ubVs s t i (.str []) (.int .i64 0)) (ubM (.slice 6 0 k false 0 0) 0 0 la ++ [.row o 5 1]) R =
   (
 bif decide (i < (↑t.length : Int)) then
 bif decide (0 ≤ i) && decide (i < (↑t.length : Int)) then
 bif (0 + i.toNat * 1).blt la.length then
 bif isIntV IntKind.u8 (la.getD (0 + i.toNat * 1) (V.bool false)) then
 bif
 decide
 (Lib.indexByte
 [65, 66, 67, 68, 69, 70, 71, 72, 73, 74, 75, 76, 77, 78, 79, 80, 81, 82, 83, 84, 85, 86, 87, 88, 89,
 90, 97, 98, 99, 100, 101, 102, 103, 104, 105, 106, 107, 108, 109, 110, 111, 112, 113, 114, 115, 116,
 117, 118, 119, 120, 121, 122, 48, 49, 50, 51, 52, 53, 54, 55, 56, 57, 43, 47]
 (UInt8.ofNat (intOfV (la.getD (0 + i.toNat * 1) (V.bool false))).toNat) <
 0) then
 R Exit.ret
 [some (V.str s), some (V.ptr 0 0),
 some (V.func (Fn.func 39) [] [V.ptr 3 0, V.ptr 4 0, V.ptr 1 0, V.ptr 2 0]),
 some (V.slice 5 0 t.length false 0 0), some (V.int IntKind.i64 (↑t.length : Int)),
 some (V.int IntKind.i64 i), some (V.str []), some (V.int IntKind.i64 4)]
 [Blk.row [V.slice 6 0 k false 0 0] 37 1, Blk.row [V.int IntKind.i64 8] 3 1,
 Blk.row [V.func (Fn.func 29) [] [V.ptr 0 0]] 41 1, Blk.row [V.int IntKind.u64 0] 38 1,
 Blk.row [V.int IntKind.i64 0] 3 1, Blk.row la 5 1, Blk.row o 5 1]
 else
 R Exit.normal
 [some (V.str s), some (V.ptr 0 0),
 some (V.func (Fn.func 39) [] [V.ptr 3 0, V.ptr 4 0, V.ptr 1 0, V.ptr 2 0]),
 some (V.slice 5 0 t.length false 0 0), some (V.int IntKind.i64 (↑t.length : Int)),
 some (V.int IntKind.i64 (IntKind.i64.wrap (i + 1))), some (V.str []), some (V.int IntKind.i64 0)]
 [Blk.row [V.slice 6 0 k false 0 0] 37 1, Blk.row [V.int IntKind.i64 8] 3 1,
 Blk.row [V.func (Fn.func 29) [] [V.ptr 0 0]] 41 1,
 Blk.row
 [V.int IntKind.u64
 (IntKind.u64.wrap
 (↑(BitVec.ofInt 64
 (intOfV
 (V.int IntKind.u64
 (IntKind.u64.wrap
 (↑(BitVec.ofInt 64 0 |||
 BitVec.ofInt 64
 (IntKind.u64.wrap
 (Lib.indexByte
 [65, 66, 67, 68, 69, 70, 71, 72, 73, 74, 75, 76, 77, 78, 79, 80, 81,
 82, 83, 84, 85, 86, 87, 88, 89, 90, 97, 98, 99, 100, 101, 102,
 103, 104, 105, 106, 107, 108, 109, 110, 111, 112, 113, 114, 115,
 116, 117, 118, 119, 120, 121, 122, 48, 49, 50, 51, 52, 53, 54, 55,
 56, 57, 43, 47]
 (UInt8.ofNat
 (intOfV
 (la.getD (0 + i.toNat * 1) (V.bool false))).toNat)))).toNat :
 Int)))) &&&
 BitVec.ofInt 64 63).toNat :
 Int))]
 38 1,
 Blk.row [V.int IntKind.i64 6] 3 1, Blk.row la 5 1, Blk.row o 5 1]
 else False
 else False
 else False
 else
 R (Exit.exit 0)
 [some (V.str s), some (V.ptr 0 0), some (V.func (Fn.func 39) [] [V.ptr 3 0, V.ptr 4 0, V.ptr 1 0, V.ptr 2 0]),
 some (V.slice 5 0 t.length false 0 0), some (V.int IntKind.i64 (↑t.length : Int)), some (V.int IntKind.i64 i),
 some (V.str []), some (V.int IntKind.i64 0)]
 [Blk.row [V.slice 6 0 k false 0 0] 37 1, Blk.row [V.int IntKind.i64 8] 3 1,
 Blk.row [V.func (Fn.func 29) [] [V.ptr 0 0]] 41 1, Blk.row [V.int IntKind.u64 0] 38 1,
 Blk.row [V.int IntKind.i64 0] 3 1, Blk.row la 5 1, Blk.row o 5 1]) := by kernel_rfl
theorem u_round6 (s t : List UInt8) (la o : List V) (k : Nat) (h i : Int) (R : Exit → List (Option V) → St → Prop) : roundW Tryd.prog TB 9 10 (rounds 9) 17 122 [0,4,5,13,14,15,2,3] (ubVs s t i (.str []) (.int .i64 0)) (ubM (.slice 6 0 k false 0 0) h 6 la ++ [.row o 5 1]) R =
   (
 bif decide (i < (↑t.length : Int)) then
 bif decide (0 ≤ i) && decide (i < (↑t.length : Int)) then
 bif (0 + i.toNat * 1).blt la.length then
 bif isIntV IntKind.u8 (la.getD (0 + i.toNat * 1) (V.bool false)) then
 bif
 decide
 (Lib.indexByte
 [65, 66, 67, 68, 69, 70, 71, 72, 73, 74, 75, 76, 77, 78, 79, 80, 81, 82, 83, 84, 85, 86, 87, 88, 89,
 90, 97, 98, 99, 100, 101, 102, 103, 104, 105, 106, 107, 108, 109, 110, 111, 112, 113, 114, 115, 116,
 117, 118, 119, 120, 121, 122, 48, 49, 50, 51, 52, 53, 54, 55, 56, 57, 43, 47]
 (UInt8.ofNat (intOfV (la.getD (0 + i.toNat * 1) (V.bool false))).toNat) <
 0) then
 R Exit.ret
 [some (V.str s), some (V.ptr 0 0),
 some (V.func (Fn.func 39) [] [V.ptr 3 0, V.ptr 4 0, V.ptr 1 0, V.ptr 2 0]),
 some (V.slice 5 0 t.length false 0 0), some (V.int IntKind.i64 (↑t.length : Int)),
 some (V.int IntKind.i64 i), some (V.str []), some (V.int IntKind.i64 4)]
 [Blk.row [V.slice 6 0 k false 0 0] 37 1, Blk.row [V.int IntKind.i64 8] 3 1,
 Blk.row [V.func (Fn.func 29) [] [V.ptr 0 0]] 41 1, Blk.row [V.int IntKind.u64 h] 38 1,
 Blk.row [V.int IntKind.i64 6] 3 1, Blk.row la 5 1, Blk.row o 5 1]
 else
 bif o.length.beq k && k.ble 1000000 then
 R Exit.normal
 [some (V.str s), some (V.ptr 0 0),
 some (V.func (Fn.func 39) [] [V.ptr 3 0, V.ptr 4 0, V.ptr 1 0, V.ptr 2 0]),
 some (V.slice 5 0 t.length false 0 0), some (V.int IntKind.i64 (↑t.length : Int)),
 some (V.int IntKind.i64 (IntKind.i64.wrap (i + 1))), some (V.str []), some (V.int IntKind.i64 0)]
 [Blk.row [V.slice 8 0 (k + 1) false 0 0] 37 1, Blk.row [V.int IntKind.i64 8] 3 1,
 Blk.row [V.func (Fn.func 29) [] [V.ptr 0 0]] 41 1,
 Blk.row
 [V.int IntKind.u64
 (IntKind.u64.wrap
 (↑(BitVec.ofInt 64
 (intOfV
 (V.int IntKind.u64
 (IntKind.u64.wrap
 (↑(BitVec.ofInt 64 (IntKind.u64.wrap (intOfV (V.int IntKind.u64 h) * 64)) |||
 BitVec.ofInt 64
 (IntKind.u64.wrap
 (Lib.indexByte
 [65, 66, 67, 68, 69, 70, 71, 72, 73, 74, 75, 76, 77, 78, 79, 80,
 81, 82, 83, 84, 85, 86, 87, 88, 89, 90, 97, 98, 99, 100, 101,
 102, 103, 104, 105, 106, 107, 108, 109, 110, 111, 112, 113, 114,
 115, 116, 117, 118, 119, 120, 121, 122, 48, 49, 50, 51, 52, 53,
 54, 55, 56, 57, 43, 47]
 (UInt8.ofNat
 (intOfV
 (la.getD (0 + i.toNat * 1)
 (V.bool false))).toNat)))).toNat :
 Int)))) &&&
 BitVec.ofInt 64 15).toNat :
 Int))]
 38 1,
 Blk.row [V.int IntKind.i64 4] 3 1, Blk.row la 5 1, Blk.dead,
 Blk.row
 [V.int IntKind.u8
 (IntKind.u8.wrap
 (IntKind.u64.wrap
 (↑(BitVec.ofInt 64
 ((intOfV
 (V.int IntKind.u64
 (IntKind.u64.wrap
 (↑(BitVec.ofInt 64
 (IntKind.u64.wrap (intOfV (V.int IntKind.u64 h) * 64)) |||
 BitVec.ofInt 64
 (IntKind.u64.wrap
 (Lib.indexByte
 [65, 66, 67, 68, 69, 70, 71, 72, 73, 74, 75, 76, 77, 78, 79,
 80, 81, 82, 83, 84, 85, 86, 87, 88, 89, 90, 97, 98, 99,
 100, 101, 102, 103, 104, 105, 106, 107, 108, 109, 110,
 111, 112, 113, 114, 115, 116, 117, 118, 119, 120, 121,
 122, 48, 49, 50, 51, 52, 53, 54, 55, 56, 57, 43, 47]
 (UInt8.ofNat
 (intOfV
 (la.getD (0 + i.toNat * 1)
 (V.bool false))).toNat)))).toNat :
 Int)))).fdiv
 16) &&&
 BitVec.ofInt 64 255).toNat :
 Int)))]
 5 1,
 Blk.row
 (o ++
 [V.int IntKind.u8
 (IntKind.u8.wrap
 (IntKind.u64.wrap
 (↑(BitVec.ofInt 64
 ((intOfV
 (V.int IntKind.u64
 (IntKind.u64.wrap
 (↑(BitVec.ofInt 64
 (IntKind.u64.wrap (intOfV (V.int IntKind.u64 h) * 64)) |||
 BitVec.ofInt 64
 (IntKind.u64.wrap
 (Lib.indexByte
 [65, 66, 67, 68, 69, 70, 71, 72, 73, 74, 75, 76, 77, 78,
 79, 80, 81, 82, 83, 84, 85, 86, 87, 88, 89, 90, 97, 98,
 99, 100, 101, 102, 103, 104, 105, 106, 107, 108, 109,
 110, 111, 112, 113, 114, 115, 116, 117, 118, 119, 120,
 121, 122, 48, 49, 50, 51, 52, 53, 54, 55, 56, 57, 43,
 47]
 (UInt8.ofNat
 (intOfV
 (la.getD (0 + i.toNat * 1)
 (V.bool false))).toNat)))).toNat :
 Int)))).fdiv
 16) &&&
 BitVec.ofInt 64 255).toNat :
 Int)))])
 5 1]
 else False
 else False
 else False
 else False
 else
 R (Exit.exit 0)
 [some (V.str s), some (V.ptr 0 0), some (V.func (Fn.func 39) [] [V.ptr 3 0, V.ptr 4 0, V.ptr 1 0, V.ptr 2 0]),
 some (V.slice 5 0 t.length false 0 0), some (V.int IntKind.i64 (↑t.length : Int)), some (V.int IntKind.i64 i),
 some (V.str []), some (V.int IntKind.i64 0)]
 [Blk.row [V.slice 6 0 k false 0 0] 37 1, Blk.row [V.int IntKind.i64 8] 3 1,
 Blk.row [V.func (Fn.func 29) [] [V.ptr 0 0]] 41 1, Blk.row [V.int IntKind.u64 h] 38 1,
 Blk.row [V.int IntKind.i64 6] 3 1, Blk.row la 5 1, Blk.row o 5 1]) := by kernel_rfl
theorem u_round4 (s t : List UInt8) (la o : List V) (k : Nat) (h i : Int) (R : Exit → List (Option V) → St → Prop) : roundW Tryd.prog TB 9 10 (rounds 9) 17 122 [0,4,5,13,14,15,2,3] (ubVs s t i (.str []) (.int .i64 0)) (ubM (.slice 6 0 k false 0 0) h 4 la ++ [.row o 5 1]) R =
   (
 bif decide (i < (↑t.length : Int)) then
 bif decide (0 ≤ i) && decide (i < (↑t.length : Int)) then
 bif (0 + i.toNat * 1).blt la.length then
 bif isIntV IntKind.u8 (la.getD (0 + i.toNat * 1) (V.bool false)) then
 bif
 decide
 (Lib.indexByte
 [65, 66, 67, 68, 69, 70, 71, 72, 73, 74, 75, 76, 77, 78, 79, 80, 81, 82, 83, 84, 85, 86, 87, 88, 89,
 90, 97, 98, 99, 100, 101, 102, 103, 104, 105, 106, 107, 108, 109, 110, 111, 112, 113, 114, 115, 116,
 117, 118, 119, 120, 121, 122, 48, 49, 50, 51, 52, 53, 54, 55, 56, 57, 43, 47]
 (UInt8.ofNat (intOfV (la.getD (0 + i.toNat * 1) (V.bool false))).toNat) <
 0) then
 R Exit.ret
 [some (V.str s), some (V.ptr 0 0),
 some (V.func (Fn.func 39) [] [V.ptr 3 0, V.ptr 4 0, V.ptr 1 0, V.ptr 2 0]),
 some (V.slice 5 0 t.length false 0 0), some (V.int IntKind.i64 (↑t.length : Int)),
 some (V.int IntKind.i64 i), some (V.str []), some (V.int IntKind.i64 4)]
 [Blk.row [V.slice 6 0 k false 0 0] 37 1, Blk.row [V.int IntKind.i64 8] 3 1,
 Blk.row [V.func (Fn.func 29) [] [V.ptr 0 0]] 41 1, Blk.row [V.int IntKind.u64 h] 38 1,
 Blk.row [V.int IntKind.i64 4] 3 1, Blk.row la 5 1, Blk.row o 5 1]
 else
 bif o.length.beq k && k.ble 1000000 then
 R Exit.normal
 [some (V.str s), some (V.ptr 0 0),
 some (V.func (Fn.func 39) [] [V.ptr 3 0, V.ptr 4 0, V.ptr 1 0, V.ptr 2 0]),
 some (V.slice 5 0 t.length false 0 0), some (V.int IntKind.i64 (↑t.length : Int)),
 some (V.int IntKind.i64 (IntKind.i64.wrap (i + 1))), some (V.str []), some (V.int IntKind.i64 0)]
 [Blk.row [V.slice 8 0 (k + 1) false 0 0] 37 1, Blk.row [V.int IntKind.i64 8] 3 1,
 Blk.row [V.func (Fn.func 29) [] [V.ptr 0 0]] 41 1,
 Blk.row
 [V.int IntKind.u64
 (IntKind.u64.wrap
 (↑(BitVec.ofInt 64
 (intOfV
 (V.int IntKind.u64
 (IntKind.u64.wrap
 (↑(BitVec.ofInt 64 (IntKind.u64.wrap (intOfV (V.int IntKind.u64 h) * 64)) |||
 BitVec.ofInt 64
 (IntKind.u64.wrap
 (Lib.indexByte
 [65, 66, 67, 68, 69, 70, 71, 72, 73, 74, 75, 76, 77, 78, 79, 80,
 81, 82, 83, 84, 85, 86, 87, 88, 89, 90, 97, 98, 99, 100, 101,
 102, 103, 104, 105, 106, 107, 108, 109, 110, 111, 112, 113, 114,
 115, 116, 117, 118, 119, 120, 121, 122, 48, 49, 50, 51, 52, 53,
 54, 55, 56, 57, 43, 47]
 (UInt8.ofNat
 (intOfV
 (la.getD (0 + i.toNat * 1)
 (V.bool false))).toNat)))).toNat :
 Int)))) &&&
 BitVec.ofInt 64 3).toNat :
 Int))]
 38 1,
 Blk.row [V.int IntKind.i64 2] 3 1, Blk.row la 5 1, Blk.dead,
 Blk.row
 [V.int IntKind.u8
 (IntKind.u8.wrap
 (IntKind.u64.wrap
 (↑(BitVec.ofInt 64
 ((intOfV
 (V.int IntKind.u64
 (IntKind.u64.wrap
 (↑(BitVec.ofInt 64
 (IntKind.u64.wrap (intOfV (V.int IntKind.u64 h) * 64)) |||
 BitVec.ofInt 64
 (IntKind.u64.wrap
 (Lib.indexByte
 [65, 66, 67, 68, 69, 70, 71, 72, 73, 74, 75, 76, 77, 78, 79,
 80, 81, 82, 83, 84, 85, 86, 87, 88, 89, 90, 97, 98, 99,
 100, 101, 102, 103, 104, 105, 106, 107, 108, 109, 110,
 111, 112, 113, 114, 115, 116, 117, 118, 119, 120, 121,
 122, 48, 49, 50, 51, 52, 53, 54, 55, 56, 57, 43, 47]
 (UInt8.ofNat
 (intOfV
 (la.getD (0 + i.toNat * 1)
 (V.bool false))).toNat)))).toNat :
 Int)))).fdiv
 4) &&&
 BitVec.ofInt 64 255).toNat :
 Int)))]
 5 1,
 Blk.row
 (o ++
 [V.int IntKind.u8
 (IntKind.u8.wrap
 (IntKind.u64.wrap
 (↑(BitVec.ofInt 64
 ((intOfV
 (V.int IntKind.u64
 (IntKind.u64.wrap
 (↑(BitVec.ofInt 64
 (IntKind.u64.wrap (intOfV (V.int IntKind.u64 h) * 64)) |||
 BitVec.ofInt 64
 (IntKind.u64.wrap
 (Lib.indexByte
 [65, 66, 67, 68, 69, 70, 71, 72, 73, 74, 75, 76, 77, 78,
 79, 80, 81, 82, 83, 84, 85, 86, 87, 88, 89, 90, 97, 98,
 99, 100, 101, 102, 103, 104, 105, 106, 107, 108, 109,
 110, 111, 112, 113, 114, 115, 116, 117, 118, 119, 120,
 121, 122, 48, 49, 50, 51, 52, 53, 54, 55, 56, 57, 43,
 47]
 (UInt8.ofNat
 (intOfV
 (la.getD (0 + i.toNat * 1)
 (V.bool false))).toNat)))).toNat :
 Int)))).fdiv
 4) &&&
 BitVec.ofInt 64 255).toNat :
 Int)))])
 5 1]
 else False
 else False
 else False
 else False
 else
 R (Exit.exit 0)
 [some (V.str s), some (V.ptr 0 0), some (V.func (Fn.func 39) [] [V.ptr 3 0, V.ptr 4 0, V.ptr 1 0, V.ptr 2 0]),
 some (V.slice 5 0 t.length false 0 0), some (V.int IntKind.i64 (↑t.length : Int)), some (V.int IntKind.i64 i),
 some (V.str []), some (V.int IntKind.i64 0)]
 [Blk.row [V.slice 6 0 k false 0 0] 37 1, Blk.row [V.int IntKind.i64 8] 3 1,
 Blk.row [V.func (Fn.func 29) [] [V.ptr 0 0]] 41 1, Blk.row [V.int IntKind.u64 h] 38 1,
 Blk.row [V.int IntKind.i64 4] 3 1, Blk.row la 5 1, Blk.row o 5 1]) := by kernel_rfl
theorem u_round2 (s t : List UInt8) (la o : List V) (k : Nat) (h i : Int) (R : Exit → List (Option V) → St → Prop) : roundW Tryd.prog TB 9 10 (rounds 9) 17 122 [0,4,5,13,14,15,2,3] (ubVs s t i (.str []) (.int .i64 0)) (ubM (.slice 6 0 k false 0 0) h 2 la ++ [.row o 5 1]) R =
   (
 bif decide (i < (↑t.length : Int)) then
 bif decide (0 ≤ i) && decide (i < (↑t.length : Int)) then
 bif (0 + i.toNat * 1).blt la.length then
 bif isIntV IntKind.u8 (la.getD (0 + i.toNat * 1) (V.bool false)) then
 bif
 decide
 (Lib.indexByte
 [65, 66, 67, 68, 69, 70, 71, 72, 73, 74, 75, 76, 77, 78, 79, 80, 81, 82, 83, 84, 85, 86, 87, 88, 89,
 90, 97, 98, 99, 100, 101, 102, 103, 104, 105, 106, 107, 108, 109, 110, 111, 112, 113, 114, 115, 116,
 117, 118, 119, 120, 121, 122, 48, 49, 50, 51, 52, 53, 54, 55, 56, 57, 43, 47]
 (UInt8.ofNat (intOfV (la.getD (0 + i.toNat * 1) (V.bool false))).toNat) <
 0) then
 R Exit.ret
 [some (V.str s), some (V.ptr 0 0),
 some (V.func (Fn.func 39) [] [V.ptr 3 0, V.ptr 4 0, V.ptr 1 0, V.ptr 2 0]),
 some (V.slice 5 0 t.length false 0 0), some (V.int IntKind.i64 (↑t.length : Int)),
 some (V.int IntKind.i64 i), some (V.str []), some (V.int IntKind.i64 4)]
 [Blk.row [V.slice 6 0 k false 0 0] 37 1, Blk.row [V.int IntKind.i64 8] 3 1,
 Blk.row [V.func (Fn.func 29) [] [V.ptr 0 0]] 41 1, Blk.row [V.int IntKind.u64 h] 38 1,
 Blk.row [V.int IntKind.i64 2] 3 1, Blk.row la 5 1, Blk.row o 5 1]
 else
 bif o.length.beq k && k.ble 1000000 then
 R Exit.normal
 [some (V.str s), some (V.ptr 0 0),
 some (V.func (Fn.func 39) [] [V.ptr 3 0, V.ptr 4 0, V.ptr 1 0, V.ptr 2 0]),
 some (V.slice 5 0 t.length false 0 0), some (V.int IntKind.i64 (↑t.length : Int)),
 some (V.int IntKind.i64 (IntKind.i64.wrap (i + 1))), some (V.str []), some (V.int IntKind.i64 0)]
 [Blk.row [V.slice 8 0 (k + 1) false 0 0] 37 1, Blk.row [V.int IntKind.i64 8] 3 1,
 Blk.row [V.func (Fn.func 29) [] [V.ptr 0 0]] 41 1,
 Blk.row
 [V.int IntKind.u64
 (IntKind.u64.wrap
 (↑(BitVec.ofInt 64
 (intOfV
 (V.int IntKind.u64
 (IntKind.u64.wrap
 (↑(BitVec.ofInt 64 (IntKind.u64.wrap (intOfV (V.int IntKind.u64 h) * 64)) |||
 BitVec.ofInt 64
 (IntKind.u64.wrap
 (Lib.indexByte
 [65, 66, 67, 68, 69, 70, 71, 72, 73, 74, 75, 76, 77, 78, 79, 80,
 81, 82, 83, 84, 85, 86, 87, 88, 89, 90, 97, 98, 99, 100, 101,
 102, 103, 104, 105, 106, 107, 108, 109, 110, 111, 112, 113, 114,
 115, 116, 117, 118, 119, 120, 121, 122, 48, 49, 50, 51, 52, 53,
 54, 55, 56, 57, 43, 47]
 (UInt8.ofNat
 (intOfV
 (la.getD (0 + i.toNat * 1)
 (V.bool false))).toNat)))).toNat :
 Int)))) &&&
 BitVec.ofInt 64 0).toNat :
 Int))]
 38 1,
 Blk.row [V.int IntKind.i64 0] 3 1, Blk.row la 5 1, Blk.dead,
 Blk.row
 [V.int IntKind.u8
 (IntKind.u8.wrap
 (IntKind.u64.wrap
 (↑(BitVec.ofInt 64
 ((intOfV
 (V.int IntKind.u64
 (IntKind.u64.wrap
 (↑(BitVec.ofInt 64
 (IntKind.u64.wrap (intOfV (V.int IntKind.u64 h) * 64)) |||
 BitVec.ofInt 64
 (IntKind.u64.wrap
 (Lib.indexByte
 [65, 66, 67, 68, 69, 70, 71, 72, 73, 74, 75, 76, 77, 78, 79,
 80, 81, 82, 83, 84, 85, 86, 87, 88, 89, 90, 97, 98, 99,
 100, 101, 102, 103, 104, 105, 106, 107, 108, 109, 110,
 111, 112, 113, 114, 115, 116, 117, 118, 119, 120, 121,
 122, 48, 49, 50, 51, 52, 53, 54, 55, 56, 57, 43, 47]
 (UInt8.ofNat
 (intOfV
 (la.getD (0 + i.toNat * 1)
 (V.bool false))).toNat)))).toNat :
 Int)))).fdiv
 1) &&&
 BitVec.ofInt 64 255).toNat :
 Int)))]
 5 1,
 Blk.row
 (o ++
 [V.int IntKind.u8
 (IntKind.u8.wrap
 (IntKind.u64.wrap
 (↑(BitVec.ofInt 64
 ((intOfV
 (V.int IntKind.u64
 (IntKind.u64.wrap
 (↑(BitVec.ofInt 64
 (IntKind.u64.wrap (intOfV (V.int IntKind.u64 h) * 64)) |||
 BitVec.ofInt 64
 (IntKind.u64.wrap
 (Lib.indexByte
 [65, 66, 67, 68, 69, 70, 71, 72, 73, 74, 75, 76, 77, 78,
 79, 80, 81, 82, 83, 84, 85, 86, 87, 88, 89, 90, 97, 98,
 99, 100, 101, 102, 103, 104, 105, 106, 107, 108, 109,
 110, 111, 112, 113, 114, 115, 116, 117, 118, 119, 120,
 121, 122, 48, 49, 50, 51, 52, 53, 54, 55, 56, 57, 43,
 47]
 (UInt8.ofNat
 (intOfV
 (la.getD (0 + i.toNat * 1)
 (V.bool false))).toNat)))).toNat :
 Int)))).fdiv
 1) &&&
 BitVec.ofInt 64 255).toNat :
 Int)))])
 5 1]
 else False
 else False
 else False
 else False
 else
 R (Exit.exit 0)
 [some (V.str s), some (V.ptr 0 0), some (V.func (Fn.func 39) [] [V.ptr 3 0, V.ptr 4 0, V.ptr 1 0, V.ptr 2 0]),
 some (V.slice 5 0 t.length false 0 0), some (V.int IntKind.i64 (↑t.length : Int)), some (V.int IntKind.i64 i),
 some (V.str []), some (V.int IntKind.i64 0)]
 [Blk.row [V.slice 6 0 k false 0 0] 37 1, Blk.row [V.int IntKind.i64 8] 3 1,
 Blk.row [V.func (Fn.func 29) [] [V.ptr 0 0]] 41 1, Blk.row [V.int IntKind.u64 h] 38 1,
 Blk.row [V.int IntKind.i64 2] 3 1, Blk.row la 5 1, Blk.row o 5 1]) := by kernel_rfl
/-! ### what is cut off -/
theorem trimF_R (s : List UInt8) : B64.trimF s = trimR (· == 61) s := by
  unfold B64.trimF trimR
  congr 1
  induction s.reverse with
  | nil => rfl
  | cons c r ih =>
    rw [trimL]
    cases h : c == 61 with
    | true => rw [List.dropWhile_cons_of_pos (p := fun x => x == 61) h, ih]; rfl
    | false => rw [List.dropWhile_cons_of_neg (p := fun x => x == 61) (by rw [h]; decide)]; rfl
structure TY where
  s : List UInt8
def tyV (x : TY) : List V := [.str x.s, .int .u8 61]
def tyJ (_ : TY) : St := []
def tyPre (x : TY) : Bool := okL x.s
def tyMu (x : TY) : Nat := x.s.length
def tyDec : List (Option V) → St → Option TY
  | [some (.str s), some (.int .u8 61)], [] => some ⟨s⟩
  | _, _ => none
def tyOutG (TF : List UInt8 → List UInt8) : Asks TY := fun x K => K (.exit 0) [.str (TF x.s), .int .u8 61] []
theorem ty_roundOk (x : TY) (hx : tyPre x = true) : roundW Tryd.prog T3 9 10 (rounds 9) 41 12 [0,1] (tyV x) (tyJ x) (RoundOkA 0 tyPre tyV tyJ tyMu (tyOutG B64.trimF) x) := by
  obtain ⟨s⟩ := x
  have p1 : (s.length : Int) ≤ 99999 := okL_le hx
  show roundW Tryd.prog T3 9 10 (rounds 9) 41 12 [0,1] [.str s, .int .u8 61] [] _
  rw [tb_round]
  refine bif_intro (fun hb => ?_) (fun hb => ?_)
  · have hl : 0 < s.length := by have := of_decide_eq_true hb; omega
    have hne : s ≠ [] := List.length_pos_iff.1 hl
    have e0 : IntKind.i64.wrap ((s.length : Int) - 1) = ((s.length - 1 : Nat) : Int) := by rw [IntWalk.i64_in _ ⟨by omega, by omega⟩]; omega
    rw [e0]
    simp only [Int.toNat_natCast]
    refine must_intro (by rw [Bool.and_eq_true]; exact ⟨decide_eq_true (by omega), Nat.ble_eq_true_of_le (by omega)⟩) ?_
    have hs := trimR_snoc (p := (· == 61)) hne
    have hc : (((s.getD (s.length - 1) 0).toNat : Int) == 61) = (s.getD (s.length - 1) 0 == 61) := by
      rw [Bool.eq_iff_iff, beq_iff_eq, beq_iff_eq]
      exact ⟨fun h => UInt8.toNat_inj.1 (by have : (61 : UInt8).toNat = 61 := rfl; omega), fun h => by rw [h]; rfl⟩
    rw [hc]
    refine bif_intro (fun h2 => ?_) (fun h2 => ?_)
    · refine must_intro (decide_eq_true (by omega)) (must_intro (by rw [Bool.true_and]; exact Nat.ble_eq_true_of_le (by omega)) ?_)
      rw [List.drop_zero, Nat.sub_zero]
      have hk : (s.take (s.length - 1)).length = s.length - 1 := by rw [List.length_take]; omega
      refine ⟨⟨s.take (s.length - 1)⟩, ?_, bfits _ [] _ _ rfl rfl, ?_, fun K hK => ?_⟩
      · exact decide_eq_true (by simp only [hk]; omega)
      · simp only [tyMu, hk]; omega
      · have hK : K (.exit 0) [.str (B64.trimF s), .int .u8 61] [] := hK
        show K (.exit 0) [.str (B64.trimF (s.take (s.length - 1))), .int .u8 61] []
        rw [trimF_R] at hK ⊢
        rw [hs, h2, cond_true] at hK
        exact hK
    · refine ⟨_, _, fun K hK => ?_, bfits [.str s, .int .u8 61] [] _ _ rfl rfl⟩
      have hK : K (.exit 0) [.str (B64.trimF s), .int .u8 61] [] := hK
      rw [trimF_R, hs, h2, cond_false] at hK
      exact hK
  · have hl : s.length = 0 := by have := of_decide_eq_false hb; omega
    have hs : s = [] := List.length_eq_zero_iff.1 hl
    subst hs
    exact ⟨_, _, fun K hK => hK, bfits [.str [], .int .u8 61] [] _ _ rfl rfl⟩
theorem ty_loop {f : Fr} {st : St} {Q : Exit → Fr → St → Prop} (h : loopA 0 (szOf Tryd.prog 41) [0,1] tyDec tyPre tyV tyJ (tyOutG B64.trimF) f st Q) : CodeSatW Tryd.prog none 0 (.loop (loopOf Tryd.prog 41 12)) f st Q :=
  loopA_ok (P := Tryd.prog) (T := T3) (k := 0) (lim := 9) (n := 10) (g := 41) (p0 := 12) (lk := rounds 9) mixed T3_ok (roundsW 9 _ _) tyMu ty_roundOk h
noncomputable def lkTX (TF : List UInt8 → List UInt8) : Nat → Trans → Trans := withLoop 12 (loopA 0 (szOf Tryd.prog 41) [0,1] tyDec tyPre tyV tyJ (tyOutG TF)) (rounds 9)
theorem lkTX_ok : FnLoopsW Tryd.prog 0 (lkTX B64.trimF) 41 := by
  unfold lkTX
  exact fnLoopW (fnRoundsW 9 0 41) (by kernel_rfl) fun f st Q h => ty_loop h
noncomputable def TTX (TF : List UInt8 → List UInt8) : Tab := ⟨noT, noL, addLk (noLks 9) 41 0 (lkTX TF)⟩
theorem TTX_ok : TabOk3 Tryd.prog (TTX B64.trimF) := ⟨noT_ok, noL_ok, addLk_ok (noLks_ok 9) lkTX_ok⟩
theorem ty_tree (TF : List UInt8 → List UInt8) (s : List UInt8) (R : V → Prop) : runW Tryd.prog (TTX TF) 9 10 30 [.str s, .str [61]] R =
   (
    bif s == [] then R (V.str s)
    else
      Fits 0 [V.str s, V.int IntKind.u8 61] [] [some (V.str s), some (V.int IntKind.u8 61)] [] ∧
        bif tyPre { s := s } then R (V.str (TF s)) else False) := by kernel_rfl
def trimT2 : List V → Option (List (Bool × (V × St)))
  | [.str s, .str t] => bif eqLL [.str t] [.str [61]] then some [(okL s, (.str (B64.trimF s), []))] else none
  | _ => none
theorem trim2_ok (args : List V) (l : List (Bool × (V × St))) (o : V × St) (h : trimT2 args = some l) (ho : pickO l = some o) : FnSat Tryd.prog 30 args [] (Is o) := by
  unfold trimT2 at h
  split at h
  · rename_i s t
    cases he : eqLL [.str t] [.str [61]] with
    | false => rw [he] at h; cases h
    | true =>
      rw [he] at h
      cases eqLL_ok _ _ he
      cases h
      obtain ⟨hk, rfl⟩ := pick_one ho
      refine pureW_of (lim := 9) (n := 10) mixed TTX_ok rfl rfl ?_
      rw [ty_tree]
      refine bif_intro (fun h => ?_) (fun h => ?_)
      · have h : s = [] := eq_of_beq h
        subst h; rfl
      · exact ⟨bfits _ [] _ _ rfl rfl, must_intro hk rfl⟩
  · cases h
/-! ### the loop -/
def dcF (k h : Nat) (r : List UInt8) : Option (List UInt8) := (B64.places r).map (B64.dec k h)
theorem dcF_nil (k h : Nat) : dcF k h [] = some [] := by unfold dcF; rw [B64.places, Option.map_some, B64.dec]
theorem dcF_bad {k h : Nat} {c : UInt8} {r : List UInt8} (hc : B64.pos64 c = none) : dcF k h (c :: r) = none := by unfold dcF; rw [B64.places, hc]; rfl
theorem dcF0 {h n : Nat} {c : UInt8} {r : List UInt8} (hc : B64.pos64 c = some n) : dcF 0 h (c :: r) = dcF 6 n r := by
  unfold dcF; rw [B64.places, hc]; simp only [Option.map_map]; cases B64.places r <;> rfl
theorem dcF6 {h n : Nat} {c : UInt8} {r : List UInt8} (hc : B64.pos64 c = some n) : dcF 6 h (c :: r) = (dcF 4 ((h * 64 + n) % 16) r).map (UInt8.ofNat ((h * 64 + n) / 16) :: ·) := by
  unfold dcF; rw [B64.places, hc]; simp only [Option.map_map]; cases B64.places r <;> rfl
theorem dcF4 {h n : Nat} {c : UInt8} {r : List UInt8} (hc : B64.pos64 c = some n) : dcF 4 h (c :: r) = (dcF 2 ((h * 64 + n) % 4) r).map (UInt8.ofNat ((h * 64 + n) / 4) :: ·) := by
  unfold dcF; rw [B64.places, hc]; simp only [Option.map_map]; cases B64.places r <;> rfl
theorem dcF2 {h n : Nat} {c : UInt8} {r : List UInt8} (hc : B64.pos64 c = some n) : dcF 2 h (c :: r) = (dcF 0 0 r).map (UInt8.ofNat (h * 64 + n) :: ·) := by
  unfold dcF; rw [B64.places, hc]; simp only [Option.map_map]; cases B64.places r <;> rfl
structure UB where
  s : List UInt8
  t : List UInt8
  i : Nat
  h : Nat
  o : List UInt8
def uHave (i : Nat) : Nat := (8 - i % 4 * 2) % 8
def ubV (x : UB) : List V := ubVs x.s x.t (x.i : Int) (.str []) (.int .i64 0)
def ubJ (x : UB) : St := match x.o with
  | [] => ubM .nilSlice (x.h : Int) (uHave x.i : Int) (bys x.t)
  | c :: r => ubM (.slice 6 0 (c :: r).length false 0 0) (x.h : Int) (uHave x.i : Int) (bys x.t) ++ [.row (bys (c :: r)) 5 1]
def ubPre (x : UB) : Bool := okL x.t && (Nat.ble x.i x.t.length && (Nat.beq x.o.length (x.i * 3 / 4) && (Nat.blt x.h (2 ^ uHave x.i) && (dcF 0 0 x.t == (dcF (uHave x.i) x.h (x.t.drop x.i)).map (x.o ++ ·)))))
def ubMu (x : UB) : Nat := x.t.length - x.i
def ubDec : List (Option V) → St → Option UB
  | [some (.str s), some (.ptr 0 0), some (.func _ _ _), some (.slice 5 0 _ false 0 0), some (.int .i64 _), some (.int .i64 0), some (.str []), some (.int .i64 0)], _ :: _ :: _ :: _ :: _ :: .row la _ _ :: _ => some ⟨s, la.map Vm.byteOf, 0, 0, []⟩
  | _, _ => none
def ubOutG (DF : List UInt8 → Option (List UInt8)) : Asks UB := fun x K =>
  (DF x.t = some [] → K (.exit 0) (ubVs x.s x.t (x.t.length : Int) (.str []) (.int .i64 0)) [.row [.nilSlice] 37 1, .dead, .dead, .dead, .dead, .dead]) ∧
  (∀ o : List UInt8, o ≠ [] → o.length ≤ x.t.length → DF x.t = some o → K (.exit 0) (ubVs x.s x.t (x.t.length : Int) (.str []) (.int .i64 0)) [.row [.slice 6 0 o.length false 0 0] 37 1, .dead, .dead, .dead, .dead, .dead, .row (bys o) 5 1]) ∧
  (DF x.t = none → ∀ i : Int, K .ret (ubVs x.s x.t i (.str []) (.int .i64 4)) [.dead, .dead, .dead, .dead, .dead, .dead])
theorem ub_fits (s t o : List UInt8) (k : Nat) (held hv i : Int) (c : Nat) (st : St) (h0 : st[0]? = some (.row [.slice c 0 k false 0 0] 37 1)) (h1 : st[1]? = some (.row [.int .i64 8] 3 1)) (h2 : st[2]? = some (.row [.func (.func 29) [] [.ptr 0 0]] 41 1)) (h3 : st[3]? = some (.row [.int .u64 held] 38 1)) (h4 : st[4]? = some (.row [.int .i64 hv] 3 1)) (h5 : st[5]? = some (.row (bys t) 5 1)) (hc : st[c]? = some (.row (bys o) 5 1)) (hc6 : 6 ≤ c) :
    Fits 0 (ubVs s t i (.str []) (.int .i64 0)) (ubM (.slice 6 0 k false 0 0) held hv (bys t) ++ [.row (bys o) 5 1]) [some (.str s), some (.ptr 0 0), some (.func (.func 39) [] [.ptr 3 0, .ptr 4 0, .ptr 1 0, .ptr 2 0]), some (.slice 5 0 t.length false 0 0), some (.int .i64 (t.length : Int)), some (.int .i64 i), some (.str []), some (.int .i64 0)] st :=
  ⟨[0, 1, 2, 3, 4, 5, c], ubVs s t i (.str []) (.int .i64 0), rfl, rfl, FitsM.of ⟨.inr ⟨_, .inl rfl, h0⟩, .inr ⟨_, .inl rfl, h1⟩, .inr ⟨_, .inl rfl, h2⟩, .inr ⟨_, .inl rfl, h3⟩, .inr ⟨_, .inl rfl, h4⟩, fb (bys_flat _) h5, fb (bys_flat _) hc, trivial⟩, by simp; omega, fun i hi => by omega⟩
theorem ub_fits0 (s t : List UInt8) (held hv i : Int) (st : St) (h0 : st[0]? = some (.row [.nilSlice] 37 1)) (h1 : st[1]? = some (.row [.int .i64 8] 3 1)) (h2 : st[2]? = some (.row [.func (.func 29) [] [.ptr 0 0]] 41 1)) (h3 : st[3]? = some (.row [.int .u64 held] 38 1)) (h4 : st[4]? = some (.row [.int .i64 hv] 3 1)) (h5 : st[5]? = some (.row (bys t) 5 1)) :
    Fits 0 (ubVs s t i (.str []) (.int .i64 0)) (ubM .nilSlice held hv (bys t)) [some (.str s), some (.ptr 0 0), some (.func (.func 39) [] [.ptr 3 0, .ptr 4 0, .ptr 1 0, .ptr 2 0]), some (.slice 5 0 t.length false 0 0), some (.int .i64 (t.length : Int)), some (.int .i64 i), some (.str []), some (.int .i64 0)] st :=
  ⟨[0, 1, 2, 3, 4, 5], ubVs s t i (.str []) (.int .i64 0), rfl, rfl, FitsM.of ⟨.inr ⟨_, .inl rfl, h0⟩, .inr ⟨_, .inl rfl, h1⟩, .inr ⟨_, .inl rfl, h2⟩, .inr ⟨_, .inl rfl, h3⟩, .inr ⟨_, .inl rfl, h4⟩, fb (bys_flat _) h5, trivial⟩, by decide, fun i hi => by omega⟩
theorem ub_out (s t o : List UInt8) (k : Nat) (i : Int) (c : Nat) (st : St) (h0 : st[0]? = some (.row [.slice c 0 k false 0 0] 37 1)) (hc : st[c]? = some (.row (bys o) 5 1)) (hc6 : 6 ≤ c) :
    Fits 0 (ubVs s t i (.str []) (.int .i64 0)) [.row [.slice 6 0 k false 0 0] 37 1, .dead, .dead, .dead, .dead, .dead, .row (bys o) 5 1] [some (.str s), some (.ptr 0 0), some (.func (.func 39) [] [.ptr 3 0, .ptr 4 0, .ptr 1 0, .ptr 2 0]), some (.slice 5 0 t.length false 0 0), some (.int .i64 (t.length : Int)), some (.int .i64 i), some (.str []), some (.int .i64 0)] st :=
  ⟨[0, 1, 2, 3, 4, 5, c], ubVs s t i (.str []) (.int .i64 0), rfl, rfl, FitsM.of ⟨.inr ⟨_, .inl rfl, h0⟩, .inl rfl, .inl rfl, .inl rfl, .inl rfl, .inl rfl, fb (bys_flat _) hc, trivial⟩, by simp; omega, fun i hi => by omega⟩
theorem ub_out0 (s t : List UInt8) (i : Int) (st : St) (h0 : st[0]? = some (.row [.nilSlice] 37 1)) :
    Fits 0 (ubVs s t i (.str []) (.int .i64 0)) [.row [.nilSlice] 37 1, .dead, .dead, .dead, .dead, .dead] [some (.str s), some (.ptr 0 0), some (.func (.func 39) [] [.ptr 3 0, .ptr 4 0, .ptr 1 0, .ptr 2 0]), some (.slice 5 0 t.length false 0 0), some (.int .i64 (t.length : Int)), some (.int .i64 i), some (.str []), some (.int .i64 0)] st :=
  ⟨[0, 1, 2, 3, 4, 5], ubVs s t i (.str []) (.int .i64 0), rfl, rfl, FitsM.of ⟨.inr ⟨_, .inl rfl, h0⟩, .inl rfl, .inl rfl, .inl rfl, .inl rfl, .inl rfl, trivial⟩, by decide, fun i hi => by omega⟩
theorem ub_ret (s t : List UInt8) (i : Int) (st : St) :
    Fits 0 (ubVs s t i (.str []) (.int .i64 4)) [.dead, .dead, .dead, .dead, .dead, .dead] [some (.str s), some (.ptr 0 0), some (.func (.func 39) [] [.ptr 3 0, .ptr 4 0, .ptr 1 0, .ptr 2 0]), some (.slice 5 0 t.length false 0 0), some (.int .i64 (t.length : Int)), some (.int .i64 i), some (.str []), some (.int .i64 4)] st :=
  ⟨[0, 1, 2, 3, 4, 5], ubVs s t i (.str []) (.int .i64 4), rfl, rfl, FitsM.of ⟨.inl rfl, .inl rfl, .inl rfl, .inl rfl, .inl rfl, .inl rfl, trivial⟩, by decide, fun i hi => by omega⟩
theorem ub_J (s t : List UInt8) (i h : Nat) (o : List UInt8) (ho : o ≠ []) : ubJ ⟨s, t, i, h, o⟩ = ubM (.slice 6 0 o.length false 0 0) (h : Int) (uHave i : Int) (bys t) ++ [.row (bys o) 5 1] := by
  cases o with
  | nil => exact absurd rfl ho
  | cons c r => rfl
theorem ub_next {s t : List UInt8} (hk : okL t = true) {i h : Nat} {o : List UInt8} (hi : i ≤ t.length) (hl : o.length = i * 3 / 4) (hh : h < 2 ^ uHave i) (he : dcF 0 0 t = (dcF (uHave i) h (t.drop i)).map (o ++ ·)) : ubPre ⟨s, t, i, h, o⟩ = true := by
  unfold ubPre
  simp only [Bool.and_eq_true]
  exact ⟨hk, Nat.ble_eq_true_of_le hi, by rw [hl]; exact Nat.beq_refl _, Nat.ble_eq_true_of_le hh, beq_iff_eq.2 he⟩
theorem map_snoc {α : Type} (x : Option (List α)) (o : List α) (c : α) : (x.map (c :: ·)).map (o ++ ·) = x.map ((o ++ [c]) ++ ·) := by
  cases x <;> simp
theorem u8_byte {n : Nat} (h : n < 256) : IntKind.u8.wrap (n : Int) = ((UInt8.ofNat n).toNat : Int) := by
  rw [IntWalk.u8_in _ ⟨by omega, by omega⟩, UInt8.toNat_ofNat']; omega
theorem ub_idx (c : UInt8) : Go.Lib.indexByte [65, 66, 67, 68, 69, 70, 71, 72, 73, 74, 75, 76, 77, 78, 79, 80, 81, 82, 83, 84, 85, 86, 87, 88, 89, 90, 97, 98, 99, 100, 101, 102, 103, 104, 105, 106, 107, 108, 109, 110, 111, 112, 113, 114, 115, 116, 117, 118, 119, 120, 121, 122, 48, 49, 50, 51, 52, 53, 54, 55, 56, 57, 43, 47] c = atV (B64.pos64 c) := (ib_at B64.L64 c).trans (at_64 c)
theorem atV_neg : decide (atV none < 0) = true := rfl
theorem atV_pos (n : Nat) : decide (atV (some n) < 0) = false := decide_eq_false (by show ¬ ((n : Int) < 0); omega)
theorem atV_some (n : Nat) : atV (some n) = (n : Int) := rfl
theorem u_step0n (s t o : List UInt8) (i h : Nat) (p0 : okL t = true) (p2 : i ≤ t.length) (p3 : o.length = i * 3 / 4) (h4 : i % 4 = 0) (ho : o = []) (hh : h < 1)
    (p6 : dcF 0 0 t = (dcF 0 h (t.drop i)).map (o ++ ·)) : roundW Tryd.prog TB 9 10 (rounds 9) 17 122 [0,4,5,13,14,15,2,3] (ubVs s t (i : Int) (.str []) (.int .i64 0)) (ubM .nilSlice 0 0 (bys t)) (RoundOkA 0 ubPre ubV ubJ ubMu (ubOutG (dcF 0 0)) ⟨s, t, i, h, o⟩) := by
  have p1 : (t.length : Int) ≤ 99999 := okL_le p0
  rw [u_round0n]
  cases hd : t.drop i with
  | nil =>
    have hi := drop_nil hd p2
    rw [hd, dcF_nil, Option.map_some, List.append_nil] at p6
    have hb : decide (((i : Nat) : Int) < (t.length : Int)) = false := decide_eq_false (by omega)
    rw [hb, cond_false, hi]
    rw [ho] at p6
    exact ⟨_, _, fun K hK => hK.1 p6, ub_out0 s t _ _ rfl⟩
  | cons c r =>
    obtain ⟨d1, d2, d3⟩ := drop_cons hd
    rw [hd] at p6
    have hw : IntKind.i64.wrap ((i : Int) + 1) = ((i + 1 : Nat) : Int) := by rw [IntWalk.i64_in _ ⟨by omega, by omega⟩]; omega
    have e0 : 0 + i * 1 = i := by omega
    have e5 : uHave (i + 1) = 6 := by unfold uHave; omega
    have hb : decide (((i : Nat) : Int) < (t.length : Int)) = true := decide_eq_true (by omega)
    have hbb : (decide ((0 : Int) ≤ (i : Int)) && true) = true := by rw [Bool.and_true]; exact decide_eq_true (by omega)
    have hbl : i.blt (bys t).length = true := Nat.ble_eq_true_of_le (by rw [bys_len]; omega)
    have ea := ub_idx c
    cases hp : B64.pos64 c with
    | none =>
      have bad : dcF 0 0 t = none := by rw [p6, dcF_bad hp]; rfl
      rw [hp] at ea
      simp only [hb, hw, Int.toNat_natCast, e0, bys_getD d3, d1, intOf_int, hbb, hbl, UInt8.ofNat_toNat, ea, atV_neg]
      exact ⟨_, _, fun K hK => hK.2.2 bad _, ub_ret s t _ _⟩
    | some n =>
      have hn := (B64.pos64_lt hp).1
      rw [hp] at ea
      have e3 : h = 0 := by omega
      simp only [hb, hw, Int.toNat_natCast, e0, bys_getD d3, d1, intOf_int, hbb, hbl, UInt8.ofNat_toNat, ea, atV_some, or0c (b := n) (by omega), and63 (x := n) (by omega), Nat.mod_eq_of_lt hn]
      rw [dcF0 hp, ← d2] at p6
      refine ⟨⟨s, t, i + 1, n, o⟩, ub_next p0 d3 (by omega) (by rw [e5]; exact hn) (by rw [e5]; exact p6), ?_, by simp only [ubMu]; omega, fun K hK => hK⟩
      have hJ2 : ubJ ⟨s, t, i + 1, n, o⟩ = ubM .nilSlice (n : Int) 6 (bys t) := by rw [ho]; unfold ubJ; simp only [e5]; rfl
      rw [hJ2]
      exact ub_fits0 s t _ _ _ _ rfl rfl rfl rfl rfl rfl
theorem u_step0 (s t o : List UInt8) (i h : Nat) (p0 : okL t = true) (p2 : i ≤ t.length) (p3 : o.length = i * 3 / 4) (h4 : i % 4 = 0) (hh : h < 1) (ho : o ≠ [])
    (p6 : dcF 0 0 t = (dcF 0 h (t.drop i)).map (o ++ ·)) : roundW Tryd.prog TB 9 10 (rounds 9) 17 122 [0,4,5,13,14,15,2,3] (ubVs s t (i : Int) (.str []) (.int .i64 0)) (ubM (.slice 6 0 o.length false 0 0) 0 0 (bys t) ++ [.row (bys o) 5 1]) (RoundOkA 0 ubPre ubV ubJ ubMu (ubOutG (dcF 0 0)) ⟨s, t, i, h, o⟩) := by
  have p1 : (t.length : Int) ≤ 99999 := okL_le p0
  rw [u_round0]
  cases hd : t.drop i with
  | nil =>
    have hi := drop_nil hd p2
    rw [hd, dcF_nil, Option.map_some, List.append_nil] at p6
    have hb : decide (((i : Nat) : Int) < (t.length : Int)) = false := decide_eq_false (by omega)
    rw [hb, cond_false, hi]
    exact ⟨_, _, fun K hK => hK.2.1 o ho (show o.length ≤ t.length by omega) p6, ub_out s t o _ _ 6 _ rfl rfl (by omega)⟩
  | cons c r =>
    obtain ⟨d1, d2, d3⟩ := drop_cons hd
    rw [hd] at p6
    have hw : IntKind.i64.wrap ((i : Int) + 1) = ((i + 1 : Nat) : Int) := by rw [IntWalk.i64_in _ ⟨by omega, by omega⟩]; omega
    have e0 : 0 + i * 1 = i := by omega
    have e5 : uHave (i + 1) = 6 := by unfold uHave; omega
    have hb : decide (((i : Nat) : Int) < (t.length : Int)) = true := decide_eq_true (by omega)
    have hbb : (decide ((0 : Int) ≤ (i : Int)) && true) = true := by rw [Bool.and_true]; exact decide_eq_true (by omega)
    have hbl : i.blt (bys t).length = true := Nat.ble_eq_true_of_le (by rw [bys_len]; omega)
    have ea := ub_idx c
    cases hp : B64.pos64 c with
    | none =>
      have bad : dcF 0 0 t = none := by rw [p6, dcF_bad hp]; rfl
      rw [hp] at ea
      simp only [hb, hw, Int.toNat_natCast, e0, bys_getD d3, d1, intOf_int, hbb, hbl, UInt8.ofNat_toNat, ea, atV_neg]
      exact ⟨_, _, fun K hK => hK.2.2 bad _, ub_ret s t _ _⟩
    | some n =>
      have hn := (B64.pos64_lt hp).1
      rw [hp] at ea
      have e3 : h = 0 := by omega
      simp only [hb, hw, Int.toNat_natCast, e0, bys_getD d3, d1, intOf_int, hbb, hbl, UInt8.ofNat_toNat, ea, atV_some, or0c (b := n) (by omega), and63 (x := n) (by omega), Nat.mod_eq_of_lt hn]
      rw [dcF0 hp, ← d2] at p6
      refine ⟨⟨s, t, i + 1, n, o⟩, ub_next p0 d3 (by omega) (by rw [e5]; exact hn) (by rw [e5]; exact p6), ?_, by simp only [ubMu]; omega, fun K hK => hK⟩
      rw [ub_J _ _ _ _ _ ho, e5]
      exact ub_fits s t o _ _ _ _ 6 _ rfl rfl rfl rfl rfl rfl rfl (by omega)
theorem u_step6n (s t o : List UInt8) (i h : Nat) (p0 : okL t = true) (p2 : i ≤ t.length) (p3 : o.length = i * 3 / 4) (h4 : i % 4 = 1) (ho : o = []) (hh : h < 64)
    (p6 : dcF 0 0 t = (dcF 6 h (t.drop i)).map (o ++ ·)) : roundW Tryd.prog TB 9 10 (rounds 9) 17 122 [0,4,5,13,14,15,2,3] (ubVs s t (i : Int) (.str []) (.int .i64 0)) (ubM .nilSlice (h : Int) 6 (bys t)) (RoundOkA 0 ubPre ubV ubJ ubMu (ubOutG (dcF 0 0)) ⟨s, t, i, h, o⟩) := by
  have p1 : (t.length : Int) ≤ 99999 := okL_le p0
  rw [u_round6n]
  cases hd : t.drop i with
  | nil =>
    have hi := drop_nil hd p2
    rw [hd, dcF_nil, Option.map_some, List.append_nil] at p6
    have hb : decide (((i : Nat) : Int) < (t.length : Int)) = false := decide_eq_false (by omega)
    rw [hb, cond_false, hi]
    rw [ho] at p6
    exact ⟨_, _, fun K hK => hK.1 p6, ub_out0 s t _ _ rfl⟩
  | cons c r =>
    obtain ⟨d1, d2, d3⟩ := drop_cons hd
    rw [hd] at p6
    have hw : IntKind.i64.wrap ((i : Int) + 1) = ((i + 1 : Nat) : Int) := by rw [IntWalk.i64_in _ ⟨by omega, by omega⟩]; omega
    have e0 : 0 + i * 1 = i := by omega
    have e5 : uHave (i + 1) = 4 := by unfold uHave; omega
    have hb : decide (((i : Nat) : Int) < (t.length : Int)) = true := decide_eq_true (by omega)
    have hbb : (decide ((0 : Int) ≤ (i : Int)) && true) = true := by rw [Bool.and_true]; exact decide_eq_true (by omega)
    have hbl : i.blt (bys t).length = true := Nat.ble_eq_true_of_le (by rw [bys_len]; omega)
    have ea := ub_idx c
    cases hp : B64.pos64 c with
    | none =>
      have bad : dcF 0 0 t = none := by rw [p6, dcF_bad hp]; rfl
      rw [hp] at ea
      simp only [hb, hw, Int.toNat_natCast, e0, bys_getD d3, d1, intOf_int, hbb, hbl, UInt8.ofNat_toNat, ea, atV_neg]
      exact ⟨_, _, fun K hK => hK.2.2 bad _, ub_ret s t _ _⟩
    | some n =>
      have hn := (B64.pos64_lt hp).1
      rw [hp] at ea
      have hq : ((h * 64 + n) / 16) % 256 = (h * 64 + n) / 16 := by omega
      simp only [hb, hw, Int.toNat_natCast, e0, bys_getD d3, d1, intOf_int, hbb, hbl, UInt8.ofNat_toNat, ea, atV_some, or64 (a := h) (b := n) hn (by omega), fd16, and255 (x := (h * 64 + n) / 16) (by omega), and15' (x := h * 64 + n) (by omega), hq, u8_byte (n := (h * 64 + n) / 16) (by omega)]
      rw [dcF6 hp, map_snoc, ← d2] at p6
      refine ⟨⟨s, t, i + 1, (h * 64 + n) % 16, o ++ [UInt8.ofNat ((h * 64 + n) / 16)]⟩, ub_next p0 d3 (by rw [List.length_append, List.length_singleton]; omega) (by rw [e5]; omega) (by rw [e5]; exact p6), ?_, by simp only [ubMu]; omega, fun K hK => hK⟩
      rw [ub_J _ _ _ _ _ (by simp), e5, ho]
      exact ub_fits s t _ _ _ _ _ 7 _ rfl rfl rfl rfl rfl rfl rfl (by omega)
theorem u_step6 (s t o : List UInt8) (i h : Nat) (p0 : okL t = true) (p2 : i ≤ t.length) (p3 : o.length = i * 3 / 4) (h4 : i % 4 = 1) (hh : h < 64) (ho : o ≠ [])
    (p6 : dcF 0 0 t = (dcF 6 h (t.drop i)).map (o ++ ·)) : roundW Tryd.prog TB 9 10 (rounds 9) 17 122 [0,4,5,13,14,15,2,3] (ubVs s t (i : Int) (.str []) (.int .i64 0)) (ubM (.slice 6 0 o.length false 0 0) (h : Int) 6 (bys t) ++ [.row (bys o) 5 1]) (RoundOkA 0 ubPre ubV ubJ ubMu (ubOutG (dcF 0 0)) ⟨s, t, i, h, o⟩) := by
  have p1 : (t.length : Int) ≤ 99999 := okL_le p0
  rw [u_round6]
  cases hd : t.drop i with
  | nil =>
    have hi := drop_nil hd p2
    rw [hd, dcF_nil, Option.map_some, List.append_nil] at p6
    have hb : decide (((i : Nat) : Int) < (t.length : Int)) = false := decide_eq_false (by omega)
    rw [hb, cond_false, hi]
    exact ⟨_, _, fun K hK => hK.2.1 o ho (show o.length ≤ t.length by omega) p6, ub_out s t o _ _ 6 _ rfl rfl (by omega)⟩
  | cons c r =>
    obtain ⟨d1, d2, d3⟩ := drop_cons hd
    rw [hd] at p6
    have hw : IntKind.i64.wrap ((i : Int) + 1) = ((i + 1 : Nat) : Int) := by rw [IntWalk.i64_in _ ⟨by omega, by omega⟩]; omega
    have e0 : 0 + i * 1 = i := by omega
    have e5 : uHave (i + 1) = 4 := by unfold uHave; omega
    have hb : decide (((i : Nat) : Int) < (t.length : Int)) = true := decide_eq_true (by omega)
    have hbb : (decide ((0 : Int) ≤ (i : Int)) && true) = true := by rw [Bool.and_true]; exact decide_eq_true (by omega)
    have hbl : i.blt (bys t).length = true := Nat.ble_eq_true_of_le (by rw [bys_len]; omega)
    have ea := ub_idx c
    cases hp : B64.pos64 c with
    | none =>
      have bad : dcF 0 0 t = none := by rw [p6, dcF_bad hp]; rfl
      rw [hp] at ea
      simp only [hb, hw, Int.toNat_natCast, e0, bys_getD d3, d1, intOf_int, hbb, hbl, UInt8.ofNat_toNat, ea, atV_neg]
      exact ⟨_, _, fun K hK => hK.2.2 bad _, ub_ret s t _ _⟩
    | some n =>
      have hn := (B64.pos64_lt hp).1
      rw [hp] at ea
      have hq : ((h * 64 + n) / 16) % 256 = (h * 64 + n) / 16 := by omega
      simp only [hb, hw, Int.toNat_natCast, e0, bys_getD d3, d1, intOf_int, hbb, hbl, UInt8.ofNat_toNat, ea, atV_some, or64 (a := h) (b := n) hn (by omega), fd16, and255 (x := (h * 64 + n) / 16) (by omega), and15' (x := h * 64 + n) (by omega), hq, u8_byte (n := (h * 64 + n) / 16) (by omega), snoc_b]
      rw [dcF6 hp, map_snoc, ← d2] at p6
      refine must_intro (by simp only [Bool.and_eq_true]; exact ⟨by rw [bys_len]; exact Nat.beq_refl _, Nat.ble_eq_true_of_le (by omega)⟩) ?_
      refine ⟨⟨s, t, i + 1, (h * 64 + n) % 16, o ++ [UInt8.ofNat ((h * 64 + n) / 16)]⟩, ub_next p0 d3 (by rw [List.length_append, List.length_singleton]; omega) (by rw [e5]; omega) (by rw [e5]; exact p6), ?_, by simp only [ubMu]; omega, fun K hK => hK⟩
      rw [ub_J _ _ _ _ _ (by simp), e5, List.length_append, List.length_singleton]
      exact ub_fits s t _ _ _ _ _ 8 _ rfl rfl rfl rfl rfl rfl rfl (by omega)
theorem u_step4 (s t o : List UInt8) (i h : Nat) (p0 : okL t = true) (p2 : i ≤ t.length) (p3 : o.length = i * 3 / 4) (h4 : i % 4 = 2) (hh : h < 16) (ho : o ≠ [])
    (p6 : dcF 0 0 t = (dcF 4 h (t.drop i)).map (o ++ ·)) : roundW Tryd.prog TB 9 10 (rounds 9) 17 122 [0,4,5,13,14,15,2,3] (ubVs s t (i : Int) (.str []) (.int .i64 0)) (ubM (.slice 6 0 o.length false 0 0) (h : Int) 4 (bys t) ++ [.row (bys o) 5 1]) (RoundOkA 0 ubPre ubV ubJ ubMu (ubOutG (dcF 0 0)) ⟨s, t, i, h, o⟩) := by
  have p1 : (t.length : Int) ≤ 99999 := okL_le p0
  rw [u_round4]
  cases hd : t.drop i with
  | nil =>
    have hi := drop_nil hd p2
    rw [hd, dcF_nil, Option.map_some, List.append_nil] at p6
    have hb : decide (((i : Nat) : Int) < (t.length : Int)) = false := decide_eq_false (by omega)
    rw [hb, cond_false, hi]
    exact ⟨_, _, fun K hK => hK.2.1 o ho (show o.length ≤ t.length by omega) p6, ub_out s t o _ _ 6 _ rfl rfl (by omega)⟩
  | cons c r =>
    obtain ⟨d1, d2, d3⟩ := drop_cons hd
    rw [hd] at p6
    have hw : IntKind.i64.wrap ((i : Int) + 1) = ((i + 1 : Nat) : Int) := by rw [IntWalk.i64_in _ ⟨by omega, by omega⟩]; omega
    have e0 : 0 + i * 1 = i := by omega
    have e5 : uHave (i + 1) = 2 := by unfold uHave; omega
    have hb : decide (((i : Nat) : Int) < (t.length : Int)) = true := decide_eq_true (by omega)
    have hbb : (decide ((0 : Int) ≤ (i : Int)) && true) = true := by rw [Bool.and_true]; exact decide_eq_true (by omega)
    have hbl : i.blt (bys t).length = true := Nat.ble_eq_true_of_le (by rw [bys_len]; omega)
    have ea := ub_idx c
    cases hp : B64.pos64 c with
    | none =>
      have bad : dcF 0 0 t = none := by rw [p6, dcF_bad hp]; rfl
      rw [hp] at ea
      simp only [hb, hw, Int.toNat_natCast, e0, bys_getD d3, d1, intOf_int, hbb, hbl, UInt8.ofNat_toNat, ea, atV_neg]
      exact ⟨_, _, fun K hK => hK.2.2 bad _, ub_ret s t _ _⟩
    | some n =>
      have hn := (B64.pos64_lt hp).1
      rw [hp] at ea
      have hq : ((h * 64 + n) / 4) % 256 = (h * 64 + n) / 4 := by omega
      simp only [hb, hw, Int.toNat_natCast, e0, bys_getD d3, d1, intOf_int, hbb, hbl, UInt8.ofNat_toNat, ea, atV_some, or64 (a := h) (b := n) hn (by omega), fd4, and255 (x := (h * 64 + n) / 4) (by omega), and3 (x := h * 64 + n) (by omega), hq, u8_byte (n := (h * 64 + n) / 4) (by omega), snoc_b]
      rw [dcF4 hp, map_snoc, ← d2] at p6
      refine must_intro (by simp only [Bool.and_eq_true]; exact ⟨by rw [bys_len]; exact Nat.beq_refl _, Nat.ble_eq_true_of_le (by omega)⟩) ?_
      refine ⟨⟨s, t, i + 1, (h * 64 + n) % 4, o ++ [UInt8.ofNat ((h * 64 + n) / 4)]⟩, ub_next p0 d3 (by rw [List.length_append, List.length_singleton]; omega) (by rw [e5]; omega) (by rw [e5]; exact p6), ?_, by simp only [ubMu]; omega, fun K hK => hK⟩
      rw [ub_J _ _ _ _ _ (by simp), e5, List.length_append, List.length_singleton]
      exact ub_fits s t _ _ _ _ _ 8 _ rfl rfl rfl rfl rfl rfl rfl (by omega)
theorem u_step2 (s t o : List UInt8) (i h : Nat) (p0 : okL t = true) (p2 : i ≤ t.length) (p3 : o.length = i * 3 / 4) (h4 : i % 4 = 3) (hh : h < 4) (ho : o ≠ [])
    (p6 : dcF 0 0 t = (dcF 2 h (t.drop i)).map (o ++ ·)) : roundW Tryd.prog TB 9 10 (rounds 9) 17 122 [0,4,5,13,14,15,2,3] (ubVs s t (i : Int) (.str []) (.int .i64 0)) (ubM (.slice 6 0 o.length false 0 0) (h : Int) 2 (bys t) ++ [.row (bys o) 5 1]) (RoundOkA 0 ubPre ubV ubJ ubMu (ubOutG (dcF 0 0)) ⟨s, t, i, h, o⟩) := by
  have p1 : (t.length : Int) ≤ 99999 := okL_le p0
  rw [u_round2]
  cases hd : t.drop i with
  | nil =>
    have hi := drop_nil hd p2
    rw [hd, dcF_nil, Option.map_some, List.append_nil] at p6
    have hb : decide (((i : Nat) : Int) < (t.length : Int)) = false := decide_eq_false (by omega)
    rw [hb, cond_false, hi]
    exact ⟨_, _, fun K hK => hK.2.1 o ho (show o.length ≤ t.length by omega) p6, ub_out s t o _ _ 6 _ rfl rfl (by omega)⟩
  | cons c r =>
    obtain ⟨d1, d2, d3⟩ := drop_cons hd
    rw [hd] at p6
    have hw : IntKind.i64.wrap ((i : Int) + 1) = ((i + 1 : Nat) : Int) := by rw [IntWalk.i64_in _ ⟨by omega, by omega⟩]; omega
    have e0 : 0 + i * 1 = i := by omega
    have e5 : uHave (i + 1) = 0 := by unfold uHave; omega
    have hb : decide (((i : Nat) : Int) < (t.length : Int)) = true := decide_eq_true (by omega)
    have hbb : (decide ((0 : Int) ≤ (i : Int)) && true) = true := by rw [Bool.and_true]; exact decide_eq_true (by omega)
    have hbl : i.blt (bys t).length = true := Nat.ble_eq_true_of_le (by rw [bys_len]; omega)
    have ea := ub_idx c
    cases hp : B64.pos64 c with
    | none =>
      have bad : dcF 0 0 t = none := by rw [p6, dcF_bad hp]; rfl
      rw [hp] at ea
      simp only [hb, hw, Int.toNat_natCast, e0, bys_getD d3, d1, intOf_int, hbb, hbl, UInt8.ofNat_toNat, ea, atV_neg]
      exact ⟨_, _, fun K hK => hK.2.2 bad _, ub_ret s t _ _⟩
    | some n =>
      have hn := (B64.pos64_lt hp).1
      rw [hp] at ea
      have hq : (h * 64 + n) % 256 = h * 64 + n := by omega
      simp only [hb, hw, Int.toNat_natCast, e0, bys_getD d3, d1, intOf_int, hbb, hbl, UInt8.ofNat_toNat, ea, atV_some, or64 (a := h) (b := n) hn (by omega), fd1, and255 (x := h * 64 + n) (by omega), and0' (x := h * 64 + n) (by omega), hq, u8_byte (n := h * 64 + n) (by omega), snoc_b]
      rw [dcF2 hp, map_snoc, ← d2] at p6
      refine must_intro (by simp only [Bool.and_eq_true]; exact ⟨by rw [bys_len]; exact Nat.beq_refl _, Nat.ble_eq_true_of_le (by omega)⟩) ?_
      refine ⟨⟨s, t, i + 1, 0, o ++ [UInt8.ofNat (h * 64 + n)]⟩, ub_next p0 d3 (by rw [List.length_append, List.length_singleton]; omega) (by rw [e5]; omega) (by rw [e5]; exact p6), ?_, by simp only [ubMu]; omega, fun K hK => hK⟩
      rw [ub_J _ _ _ _ _ (by simp), e5, List.length_append, List.length_singleton]
      exact ub_fits s t _ _ _ _ _ 8 _ rfl rfl rfl rfl rfl rfl rfl (by omega)
theorem u_round_ok (x : UB) (hx : ubPre x = true) : roundW Tryd.prog TB 9 10 (rounds 9) 17 122 [0,4,5,13,14,15,2,3] (ubV x) (ubJ x) (RoundOkA 0 ubPre ubV ubJ ubMu (ubOutG (dcF 0 0)) x) := by
  obtain ⟨s, t, i, h, o⟩ := x
  unfold ubPre at hx
  simp only [Bool.and_eq_true] at hx
  obtain ⟨p0, p2, p3, p5, p6⟩ := hx
  have p2 : i ≤ t.length := Nat.le_of_ble_eq_true p2
  have p3 : o.length = i * 3 / 4 := Nat.eq_of_beq_eq_true p3
  have p5 : h < 2 ^ uHave i := Nat.le_of_ble_eq_true p5
  have p6 : dcF 0 0 t = (dcF (uHave i) h (t.drop i)).map (o ++ ·) := eq_of_beq p6
  have h4 : i % 4 = 0 ∨ i % 4 = 1 ∨ i % 4 = 2 ∨ i % 4 = 3 := by omega
  have nil0 : i ≤ 1 → o = [] := fun h => List.length_eq_zero_iff.1 (by omega)
  have ne1 : 2 ≤ i → o ≠ [] := fun h e => by rw [e] at p3; simp only [List.length_nil] at p3; omega
  have eV : ubV ⟨s, t, i, h, o⟩ = ubVs s t (i : Int) (.str []) (.int .i64 0) := rfl
  rw [eV]
  rcases h4 with h4 | h4 | h4 | h4
  · have e2 : uHave i = 0 := by unfold uHave; omega
    rw [e2] at p5 p6
    by_cases hi1 : i ≤ 1
    · have ho := nil0 hi1
      have hz : h = 0 := by omega
      have hJ : ubJ ⟨s, t, i, h, o⟩ = (ubM .nilSlice 0 0 (bys t)) := by rw [ho]; unfold ubJ; simp only [e2, hz]; rfl
      rw [hJ]
      exact u_step0n s t o i h p0 p2 p3 h4 ho p5 p6
    · have ho := ne1 (by omega)
      have hz : h = 0 := by omega
      have hJ : ubJ ⟨s, t, i, h, o⟩ = (ubM (.slice 6 0 o.length false 0 0) 0 0 (bys t) ++ [.row (bys o) 5 1]) := by rw [ub_J _ _ _ _ _ ho, e2, hz]; rfl
      rw [hJ]
      exact u_step0 s t o i h p0 p2 p3 h4 p5 ho p6
  · have e2 : uHave i = 6 := by unfold uHave; omega
    rw [e2] at p5 p6
    by_cases hi1 : i ≤ 1
    · have ho := nil0 hi1
      have hJ : ubJ ⟨s, t, i, h, o⟩ = (ubM .nilSlice (h : Int) 6 (bys t)) := by rw [ho]; unfold ubJ; simp only [e2]; rfl
      rw [hJ]
      exact u_step6n s t o i h p0 p2 p3 h4 ho p5 p6
    · have ho := ne1 (by omega)
      have hJ : ubJ ⟨s, t, i, h, o⟩ = (ubM (.slice 6 0 o.length false 0 0) (h : Int) 6 (bys t) ++ [.row (bys o) 5 1]) := by rw [ub_J _ _ _ _ _ ho, e2]; rfl
      rw [hJ]
      exact u_step6 s t o i h p0 p2 p3 h4 p5 ho p6
  · have e2 : uHave i = 4 := by unfold uHave; omega
    rw [e2] at p5 p6
    have ho := ne1 (by omega)
    have hJ : ubJ ⟨s, t, i, h, o⟩ = (ubM (.slice 6 0 o.length false 0 0) (h : Int) 4 (bys t) ++ [.row (bys o) 5 1]) := by rw [ub_J _ _ _ _ _ ho, e2]; rfl
    rw [hJ]
    exact u_step4 s t o i h p0 p2 p3 h4 p5 ho p6
  · have e2 : uHave i = 2 := by unfold uHave; omega
    rw [e2] at p5 p6
    have ho := ne1 (by omega)
    have hJ : ubJ ⟨s, t, i, h, o⟩ = (ubM (.slice 6 0 o.length false 0 0) (h : Int) 2 (bys t) ++ [.row (bys o) 5 1]) := by rw [ub_J _ _ _ _ _ ho, e2]; rfl
    rw [hJ]
    exact u_step2 s t o i h p0 p2 p3 h4 p5 ho p6
theorem u_loop {f : Fr} {st : St} {Q : Exit → Fr → St → Prop} (h : loopA 0 (szOf Tryd.prog 17) [0,4,5,13,14,15,2,3] ubDec ubPre ubV ubJ (ubOutG (dcF 0 0)) f st Q) : CodeSatW Tryd.prog none 0 (.loop (loopOf Tryd.prog 17 122)) f st Q :=
  loopA_ok (P := Tryd.prog) (T := TB) (k := 0) (lim := 9) (n := 10) (g := 17) (p0 := 122) (lk := rounds 9) mixed TB_ok (roundsW 9 _ _) ubMu u_round_ok h
noncomputable def lkUB (DF : List UInt8 → Option (List UInt8)) : Nat → Trans → Trans := withLoop 122 (loopA 0 (szOf Tryd.prog 17) [0,4,5,13,14,15,2,3] ubDec ubPre ubV ubJ (ubOutG DF)) (rounds 9)
theorem lkUB_ok : FnLoopsW Tryd.prog 0 (lkUB (dcF 0 0)) 17 := by
  unfold lkUB
  exact fnLoopW (fnRoundsW 9 0 17) (by kernel_rfl) fun f st Q h => u_loop h
def trimTG (OL : List UInt8 → Bool) (TF : List UInt8 → List UInt8) : List V → Option (List (Bool × (V × St)))
  | [.str s, .str t] => bif eqLL [.str t] [.str [61]] then some [(OL s, (.str (TF s), []))] else none
  | _ => none
noncomputable def TUB (OL : List UInt8 → Bool) (TF BF : List UInt8 → List UInt8) (DF : List UInt8 → Option (List UInt8)) : Tab := ⟨addT (addT noT 12 (hexTG OL BF)) 30 (trimTG OL TF), addS (addS noL 26 tellT) 29 tellUT, addLk (noLks 9) 17 0 (lkUB DF)⟩
theorem TUB_ok : TabOk3 Tryd.prog (TUB okL B64.trimF B64.b64 (dcF 0 0)) := ⟨addT_ok (addT_ok noT_ok b64_ok) trim2_ok, addS_ok (addS_ok noL_ok tell_ok) tellU_ok, addLk_ok (noLks_ok 9) lkUB_ok⟩
theorem unb_tree (OL : List UInt8 → Bool) (TF BF : List UInt8 → List UInt8) (DF : List UInt8 → Option (List UInt8)) (s : List UInt8) (R : V → Prop) : runW Tryd.prog (TUB OL TF BF DF) 9 10 17 [.str s] R =
   (
    bif OL s then
      bif (TF s).length.ble 281474976710656 then
        Fits 0
            [V.str s, V.ptr 0 0, V.func (Fn.func 39) [] [V.ptr 3 0, V.ptr 4 0, V.ptr 1 0, V.ptr 2 0],
              V.slice 5 0 (List.map Vm.byteOf (List.map (fun b => V.int IntKind.u8 (↑b.toNat : Int)) (TF s))).length false 0
                0,
              V.int IntKind.i64
                (↑(List.map Vm.byteOf (List.map (fun b => V.int IntKind.u8 (↑b.toNat : Int)) (TF s))).length : Int),
              V.int IntKind.i64 0, V.str [], V.int IntKind.i64 0]
            [Blk.row [V.nilSlice] 37 1, Blk.row [V.int IntKind.i64 8] 3 1,
              Blk.row [V.func (Fn.func 29) [] [V.ptr 0 0]] 41 1, Blk.row [V.int IntKind.u64 0] 38 1,
              Blk.row [V.int IntKind.i64 0] 3 1,
              Blk.row (bys (List.map Vm.byteOf (List.map (fun b => V.int IntKind.u8 (↑b.toNat : Int)) (TF s)))) 5 1]
            [some (V.str s), some (V.ptr 0 0), some (V.func (Fn.func 39) [] [V.ptr 3 0, V.ptr 4 0, V.ptr 1 0, V.ptr 2 0]),
              some (V.slice 5 0 (TF s).length false 0 0), some (V.int IntKind.i64 (↑(TF s).length : Int)),
              some (V.int IntKind.i64 0), some (V.str []), some (V.int IntKind.i64 0)]
            [Blk.row [V.nilSlice] 37 1, Blk.row [V.int IntKind.i64 8] 3 1,
              Blk.row [V.func (Fn.func 29) [] [V.ptr 0 0]] 41 1, Blk.row [V.int IntKind.u64 0] 38 1,
              Blk.row [V.int IntKind.i64 0] 3 1,
              Blk.row (List.map (fun b => V.int IntKind.u8 (↑b.toNat : Int)) (TF s)) 5 1] ∧
          bif
              ubPre
                { s := s, t := List.map Vm.byteOf (List.map (fun b => V.int IntKind.u8 (↑b.toNat : Int)) (TF s)), i := 0,
                  h := 0, o := [] } then
            (DF (List.map Vm.byteOf (List.map (fun b => V.int IntKind.u8 (↑b.toNat : Int)) (TF s))) = some [] →
                bif OL [] then
                  bif !BF [] == s then R (V.tuple [V.str [], V.int IntKind.i64 4])
                  else R (V.tuple [V.str [], V.int IntKind.i64 0])
                else False) ∧
              (∀ (o : List UInt8),
                  o ≠ [] →
                    o.length ≤ (List.map Vm.byteOf (List.map (fun b => V.int IntKind.u8 (↑b.toNat : Int)) (TF s))).length →
                      DF (List.map Vm.byteOf (List.map (fun b => V.int IntKind.u8 (↑b.toNat : Int)) (TF s))) = some o →
                        bif (0 + o.length).ble (bys o).length then
                          bif (List.take o.length (List.drop 0 (bys o))).all isByte then
                            bif OL (List.map Vm.byteOf (List.take o.length (List.drop 0 (bys o)))) then
                              bif !BF (List.map Vm.byteOf (List.take o.length (List.drop 0 (bys o)))) == s then
                                R (V.tuple [V.str [], V.int IntKind.i64 4])
                              else
                                bif (0 + o.length).ble (bys o).length then
                                  bif (List.take o.length (List.drop 0 (bys o))).all isByte then
                                    R
                                      (V.tuple
                                        [V.str (List.map Vm.byteOf (List.take o.length (List.drop 0 (bys o)))),
                                          V.int IntKind.i64 0])
                                  else False
                                else False
                            else False
                          else False
                        else False) ∧
                (DF (List.map Vm.byteOf (List.map (fun b => V.int IntKind.u8 (↑b.toNat : Int)) (TF s))) = none →
                  ∀ (i : Int), R (V.tuple [V.str [], V.int IntKind.i64 4]))
          else False
      else False
    else False) := by kernel_rfl
def ubT : List V → Option (List (Bool × (V × St)))
  | [.str s] => some [(okL s, (.tuple [.str ((B64.unb s).getD []), .int .i64 (bif (B64.unb s).isSome then 0 else 4)], []))]
  | _ => none
theorem trimL_len2 (p : UInt8 → Bool) : ∀ s : List UInt8, (trimL p s).length ≤ s.length
  | [] => Nat.le_refl _
  | c :: r => by
    have := trimL_len2 p r
    rw [trimL]
    cases p c with
    | true => rw [cond_true, List.length_cons]; omega
    | false => rw [cond_false]; exact Nat.le_refl _
theorem unb_dcF (s : List UInt8) : B64.unb s = match dcF 0 0 (B64.trimF s) with
  | some d => bif B64.b64 d == s then some d else none
  | none => none := by
  unfold B64.unb dcF
  cases B64.places (B64.trimF s) <;> rfl
theorem byteOf_rt (x : List UInt8) : List.map Vm.byteOf (List.map (fun b : UInt8 => V.int .u8 (b.toNat : Int)) x) = x := byteOf_bys x
theorem bys_tk2 (o : List UInt8) : List.take o.length (List.drop 0 (bys o)) = bys o := bys_tk o
theorem unb_ok (args : List V) (l : List (Bool × (V × St))) (o : V × St) (h : ubT args = some l) (ho : pickO l = some o) : FnSat Tryd.prog 17 args [] (Is o) := by
  unfold ubT at h
  split at h
  · rename_i s
    cases h
    obtain ⟨hk, rfl⟩ := pick_one ho
    have p1 := okL_le hk
    refine pureW_of (lim := 9) (n := 10) mixed TUB_ok rfl rfl ?_
    rw [unb_tree]
    have hkt : okL (B64.trimF s) = true := by rw [trimF_R]; unfold okL; have h1 := trimL_len2 (· == 61) s.reverse; rw [List.length_reverse] at h1; unfold trimR; rw [List.length_reverse]; exact decide_eq_true (by omega)
    have p2 := okL_le hkt
    have hu := unb_dcF s
    simp only [byteOf_rt, bys_tk2, byteOf_bys, bys_len, isByte_bys]
    refine must_intro hk (must_intro (Nat.ble_eq_true_of_le (by omega)) ⟨ub_fits0 s _ _ _ _ _ rfl rfl rfl rfl rfl rfl, must_intro ?_ ⟨fun he => ?_, fun o hne hl he => ?_, fun he _ => ?_⟩⟩)
    · refine ub_next hkt (Nat.zero_le _) rfl (by decide) ?_
      show dcF 0 0 (B64.trimF s) = (dcF 0 0 (B64.trimF s)).map ([] ++ ·)
      cases dcF 0 0 (B64.trimF s) <;> simp
    · rw [he] at hu
      refine must_intro rfl ?_
      cases hb : B64.b64 [] == s with
      | true => simp only [hb, cond_true] at hu; rw [hu]; rfl
      | false => simp only [hb, cond_false] at hu; rw [hu]; rfl
    · rw [he] at hu
      have hob : okL o = true := decide_eq_true (by omega)
      refine must_intro (Nat.ble_eq_true_of_le (by omega)) (must_intro rfl (must_intro hob ?_))
      cases hb : B64.b64 o == s with
      | true => simp only [hb, cond_true] at hu; rw [hu]; exact must_intro (Nat.ble_eq_true_of_le (by omega)) (must_intro rfl rfl)
      | false => simp only [hb, cond_false] at hu; rw [hu]; rfl
    · rw [he] at hu
      rw [hu]; rfl
  · cases h
end Go.Proofs.YtlgapohnmcmhdaaDoor
