/- Base64: what the program's texts of bytes come to. -/
import Derived.Test.YtlgapohnmcmhdaaDoorTell
namespace Go.Proofs.YtlgapohnmcmhdaaDoor
open Go Go.Vm Go.RowKit
set_option linter.unusedVariables false
set_option maxRecDepth 4000
def b6xVs (s : List UInt8) (left : Int) (i : Int) : List V := [.str s, .ptr 0 0, .func (.func 39) [] [.ptr 3 0, .ptr 4 0, .ptr 1 0, .ptr 2 0], .int .i64 left, .slice 5 0 s.length false 0 0, .int .i64 (s.length : Int), .int .i64 i]
def b6xM (b : V) (held have_ : Int) (la : List V) : St := [.row [b] 37 1, .row [.int .i64 6] 3 1, .row [.func (.func 26) [] [.ptr 0 0]] 41 1, .row [.int .u64 held] 38 1, .row [.int .i64 have_] 3 1, .row la 5 1]
theorem b_round0n (s : List UInt8) (la : List V) (i : Int) (R : Exit → List (Option V) → St → Prop) : roundW Tryd.prog TB 9 10 (rounds 9) 12 250 [0,3,4,5,11,12,13] (b6xVs s 0 i) (b6xM .nilSlice 0 0 la) R =
   (
 bif decide (i < (↑s.length : Int)) then
 bif decide (0 ≤ i) && decide (i < (↑s.length : Int)) then
 bif (0 + i.toNat * 1).blt la.length then
 bif isIntV IntKind.u8 (la.getD (0 + i.toNat * 1) (V.bool false)) then
 bif
 true &&
 (IntKind.u64.wrap
 (↑(BitVec.ofInt 64
 ((intOfV
 (V.int IntKind.u64
 (IntKind.u64.wrap
 (↑(BitVec.ofInt 64 0 |||
 BitVec.ofInt 64
 (IntKind.u64.wrap
 (intOfV (la.getD (0 + i.toNat * 1) (V.bool false))))).toNat :
 Int)))).fdiv
 4) &&&
 BitVec.ofInt 64 63).toNat :
 Int)).toNat.blt
 64 &&
 true then
 R Exit.normal
 [some (V.str s), some (V.ptr 0 0),
 some (V.func (Fn.func 39) [] [V.ptr 3 0, V.ptr 4 0, V.ptr 1 0, V.ptr 2 0]), some (V.int IntKind.i64 2),
 some (V.slice 5 0 s.length false 0 0), some (V.int IntKind.i64 (↑s.length : Int)),
 some (V.int IntKind.i64 (IntKind.i64.wrap (i + 1)))]
 [Blk.row [V.slice 7 0 1 false 0 0] 37 1, Blk.row [V.int IntKind.i64 6] 3 1,
 Blk.row [V.func (Fn.func 26) [] [V.ptr 0 0]] 41 1,
 Blk.row
 [V.int IntKind.u64
 (IntKind.u64.wrap
 (↑(BitVec.ofInt 64
 (intOfV
 (V.int IntKind.u64
 (IntKind.u64.wrap
 (↑(BitVec.ofInt 64 0 |||
 BitVec.ofInt 64
 (IntKind.u64.wrap
 (intOfV (la.getD (0 + i.toNat * 1) (V.bool false))))).toNat :
 Int)))) &&&
 BitVec.ofInt 64 3).toNat :
 Int))]
 38 1,
 Blk.row [V.int IntKind.i64 2] 3 1, Blk.row la 5 1,
 Blk.row
 [V.int IntKind.u8
 (↑(B64.let64
 (IntKind.u64.wrap
 (↑(BitVec.ofInt 64
 ((intOfV
 (V.int IntKind.u64
 (IntKind.u64.wrap
 (↑(BitVec.ofInt 64 0 |||
 BitVec.ofInt 64
 (IntKind.u64.wrap
 (intOfV
 (la.getD (0 + i.toNat * 1) (V.bool false))))).toNat :
 Int)))).fdiv
 4) &&&
 BitVec.ofInt 64 63).toNat :
 Int)).toNat).toNat :
 Int)]
 5 1,
 Blk.row
 [V.int IntKind.u8
 (↑(B64.let64
 (IntKind.u64.wrap
 (↑(BitVec.ofInt 64
 ((intOfV
 (V.int IntKind.u64
 (IntKind.u64.wrap
 (↑(BitVec.ofInt 64 0 |||
 BitVec.ofInt 64
 (IntKind.u64.wrap
 (intOfV
 (la.getD (0 + i.toNat * 1) (V.bool false))))).toNat :
 Int)))).fdiv
 4) &&&
 BitVec.ofInt 64 63).toNat :
 Int)).toNat).toNat :
 Int)]
 5 1]
 else False
 else False
 else False
 else False
 else
 R (Exit.exit 0)
 [some (V.str s), some (V.ptr 0 0), some (V.func (Fn.func 39) [] [V.ptr 3 0, V.ptr 4 0, V.ptr 1 0, V.ptr 2 0]),
 some (V.int IntKind.i64 0), some (V.slice 5 0 s.length false 0 0), some (V.int IntKind.i64 (↑s.length : Int)),
 some (V.int IntKind.i64 i)]
 [Blk.row [V.nilSlice] 37 1, Blk.row [V.int IntKind.i64 6] 3 1, Blk.row [V.func (Fn.func 26) [] [V.ptr 0 0]] 41 1,
 Blk.row [V.int IntKind.u64 0] 38 1, Blk.row [V.int IntKind.i64 0] 3 1, Blk.row la 5 1]) := by kernel_rfl
theorem b_round0 (s : List UInt8) (la o : List V) (k : Nat) (i : Int) (R : Exit → List (Option V) → St → Prop) : roundW Tryd.prog TB 9 10 (rounds 9) 12 250 [0,3,4,5,11,12,13] (b6xVs s 0 i) (b6xM (.slice 6 0 k false 0 0) 0 0 la ++ [.row o 5 1]) R =
   (
 bif decide (i < (↑s.length : Int)) then
 bif decide (0 ≤ i) && decide (i < (↑s.length : Int)) then
 bif (0 + i.toNat * 1).blt la.length then
 bif isIntV IntKind.u8 (la.getD (0 + i.toNat * 1) (V.bool false)) then
 bif
 true &&
 (IntKind.u64.wrap
 (↑(BitVec.ofInt 64
 ((intOfV
 (V.int IntKind.u64
 (IntKind.u64.wrap
 (↑(BitVec.ofInt 64 0 |||
 BitVec.ofInt 64
 (IntKind.u64.wrap
 (intOfV (la.getD (0 + i.toNat * 1) (V.bool false))))).toNat :
 Int)))).fdiv
 4) &&&
 BitVec.ofInt 64 63).toNat :
 Int)).toNat.blt
 64 &&
 (o.length.beq k && k.ble 1000000) then
 R Exit.normal
 [some (V.str s), some (V.ptr 0 0),
 some (V.func (Fn.func 39) [] [V.ptr 3 0, V.ptr 4 0, V.ptr 1 0, V.ptr 2 0]), some (V.int IntKind.i64 2),
 some (V.slice 5 0 s.length false 0 0), some (V.int IntKind.i64 (↑s.length : Int)),
 some (V.int IntKind.i64 (IntKind.i64.wrap (i + 1)))]
 [Blk.row [V.slice 8 0 (k + 1) false 0 0] 37 1, Blk.row [V.int IntKind.i64 6] 3 1,
 Blk.row [V.func (Fn.func 26) [] [V.ptr 0 0]] 41 1,
 Blk.row
 [V.int IntKind.u64
 (IntKind.u64.wrap
 (↑(BitVec.ofInt 64
 (intOfV
 (V.int IntKind.u64
 (IntKind.u64.wrap
 (↑(BitVec.ofInt 64 0 |||
 BitVec.ofInt 64
 (IntKind.u64.wrap
 (intOfV (la.getD (0 + i.toNat * 1) (V.bool false))))).toNat :
 Int)))) &&&
 BitVec.ofInt 64 3).toNat :
 Int))]
 38 1,
 Blk.row [V.int IntKind.i64 2] 3 1, Blk.row la 5 1, Blk.dead,
 Blk.row
 [V.int IntKind.u8
 (↑(B64.let64
 (IntKind.u64.wrap
 (↑(BitVec.ofInt 64
 ((intOfV
 (V.int IntKind.u64
 (IntKind.u64.wrap
 (↑(BitVec.ofInt 64 0 |||
 BitVec.ofInt 64
 (IntKind.u64.wrap
 (intOfV
 (la.getD (0 + i.toNat * 1) (V.bool false))))).toNat :
 Int)))).fdiv
 4) &&&
 BitVec.ofInt 64 63).toNat :
 Int)).toNat).toNat :
 Int)]
 5 1,
 Blk.row
 (o ++
 [V.int IntKind.u8
 (↑(B64.let64
 (IntKind.u64.wrap
 (↑(BitVec.ofInt 64
 ((intOfV
 (V.int IntKind.u64
 (IntKind.u64.wrap
 (↑(BitVec.ofInt 64 0 |||
 BitVec.ofInt 64
 (IntKind.u64.wrap
 (intOfV
 (la.getD (0 + i.toNat * 1)
 (V.bool false))))).toNat :
 Int)))).fdiv
 4) &&&
 BitVec.ofInt 64 63).toNat :
 Int)).toNat).toNat :
 Int)])
 5 1]
 else False
 else False
 else False
 else False
 else
 R (Exit.exit 0)
 [some (V.str s), some (V.ptr 0 0), some (V.func (Fn.func 39) [] [V.ptr 3 0, V.ptr 4 0, V.ptr 1 0, V.ptr 2 0]),
 some (V.int IntKind.i64 0), some (V.slice 5 0 s.length false 0 0), some (V.int IntKind.i64 (↑s.length : Int)),
 some (V.int IntKind.i64 i)]
 [Blk.row [V.slice 6 0 k false 0 0] 37 1, Blk.row [V.int IntKind.i64 6] 3 1,
 Blk.row [V.func (Fn.func 26) [] [V.ptr 0 0]] 41 1, Blk.row [V.int IntKind.u64 0] 38 1,
 Blk.row [V.int IntKind.i64 0] 3 1, Blk.row la 5 1, Blk.row o 5 1]) := by kernel_rfl
theorem b_round2 (s : List UInt8) (la o : List V) (k : Nat) (h i : Int) (R : Exit → List (Option V) → St → Prop) : roundW Tryd.prog TB 9 10 (rounds 9) 12 250 [0,3,4,5,11,12,13] (b6xVs s 2 i) (b6xM (.slice 6 0 k false 0 0) h 2 la ++ [.row o 5 1]) R =
   (
 bif decide (i < (↑s.length : Int)) then
 bif decide (0 ≤ i) && decide (i < (↑s.length : Int)) then
 bif (0 + i.toNat * 1).blt la.length then
 bif isIntV IntKind.u8 (la.getD (0 + i.toNat * 1) (V.bool false)) then
 bif
 true &&
 (IntKind.u64.wrap
 (↑(BitVec.ofInt 64
 ((intOfV
 (V.int IntKind.u64
 (IntKind.u64.wrap
 (↑(BitVec.ofInt 64
 (IntKind.u64.wrap (intOfV (V.int IntKind.u64 h) * 256)) |||
 BitVec.ofInt 64
 (IntKind.u64.wrap
 (intOfV (la.getD (0 + i.toNat * 1) (V.bool false))))).toNat :
 Int)))).fdiv
 16) &&&
 BitVec.ofInt 64 63).toNat :
 Int)).toNat.blt
 64 &&
 (o.length.beq k && k.ble 1000000) then
 R Exit.normal
 [some (V.str s), some (V.ptr 0 0),
 some (V.func (Fn.func 39) [] [V.ptr 3 0, V.ptr 4 0, V.ptr 1 0, V.ptr 2 0]), some (V.int IntKind.i64 4),
 some (V.slice 5 0 s.length false 0 0), some (V.int IntKind.i64 (↑s.length : Int)),
 some (V.int IntKind.i64 (IntKind.i64.wrap (i + 1)))]
 [Blk.row [V.slice 8 0 (k + 1) false 0 0] 37 1, Blk.row [V.int IntKind.i64 6] 3 1,
 Blk.row [V.func (Fn.func 26) [] [V.ptr 0 0]] 41 1,
 Blk.row
 [V.int IntKind.u64
 (IntKind.u64.wrap
 (↑(BitVec.ofInt 64
 (intOfV
 (V.int IntKind.u64
 (IntKind.u64.wrap
 (↑(BitVec.ofInt 64 (IntKind.u64.wrap (intOfV (V.int IntKind.u64 h) * 256)) |||
 BitVec.ofInt 64
 (IntKind.u64.wrap
 (intOfV (la.getD (0 + i.toNat * 1) (V.bool false))))).toNat :
 Int)))) &&&
 BitVec.ofInt 64 15).toNat :
 Int))]
 38 1,
 Blk.row [V.int IntKind.i64 4] 3 1, Blk.row la 5 1, Blk.dead,
 Blk.row
 [V.int IntKind.u8
 (↑(B64.let64
 (IntKind.u64.wrap
 (↑(BitVec.ofInt 64
 ((intOfV
 (V.int IntKind.u64
 (IntKind.u64.wrap
 (↑(BitVec.ofInt 64
 (IntKind.u64.wrap
 (intOfV (V.int IntKind.u64 h) * 256)) |||
 BitVec.ofInt 64
 (IntKind.u64.wrap
 (intOfV
 (la.getD (0 + i.toNat * 1) (V.bool false))))).toNat :
 Int)))).fdiv
 16) &&&
 BitVec.ofInt 64 63).toNat :
 Int)).toNat).toNat :
 Int)]
 5 1,
 Blk.row
 (o ++
 [V.int IntKind.u8
 (↑(B64.let64
 (IntKind.u64.wrap
 (↑(BitVec.ofInt 64
 ((intOfV
 (V.int IntKind.u64
 (IntKind.u64.wrap
 (↑(BitVec.ofInt 64
 (IntKind.u64.wrap
 (intOfV (V.int IntKind.u64 h) * 256)) |||
 BitVec.ofInt 64
 (IntKind.u64.wrap
 (intOfV
 (la.getD (0 + i.toNat * 1)
 (V.bool false))))).toNat :
 Int)))).fdiv
 16) &&&
 BitVec.ofInt 64 63).toNat :
 Int)).toNat).toNat :
 Int)])
 5 1]
 else False
 else False
 else False
 else False
 else
 R (Exit.exit 0)
 [some (V.str s), some (V.ptr 0 0), some (V.func (Fn.func 39) [] [V.ptr 3 0, V.ptr 4 0, V.ptr 1 0, V.ptr 2 0]),
 some (V.int IntKind.i64 2), some (V.slice 5 0 s.length false 0 0), some (V.int IntKind.i64 (↑s.length : Int)),
 some (V.int IntKind.i64 i)]
 [Blk.row [V.slice 6 0 k false 0 0] 37 1, Blk.row [V.int IntKind.i64 6] 3 1,
 Blk.row [V.func (Fn.func 26) [] [V.ptr 0 0]] 41 1, Blk.row [V.int IntKind.u64 h] 38 1,
 Blk.row [V.int IntKind.i64 2] 3 1, Blk.row la 5 1, Blk.row o 5 1]) := by kernel_rfl
theorem b_round4 (s : List UInt8) (la o : List V) (k : Nat) (h i : Int) (R : Exit → List (Option V) → St → Prop) : roundW Tryd.prog TB 9 10 (rounds 9) 12 250 [0,3,4,5,11,12,13] (b6xVs s 4 i) (b6xM (.slice 6 0 k false 0 0) h 4 la ++ [.row o 5 1]) R =
   (
 bif decide (i < (↑s.length : Int)) then
 bif decide (0 ≤ i) && decide (i < (↑s.length : Int)) then
 bif (0 + i.toNat * 1).blt la.length then
 bif isIntV IntKind.u8 (la.getD (0 + i.toNat * 1) (V.bool false)) then
 bif
 true &&
 (IntKind.u64.wrap
 (↑(BitVec.ofInt 64
 ((intOfV
 (V.int IntKind.u64
 (IntKind.u64.wrap
 (↑(BitVec.ofInt 64
 (IntKind.u64.wrap (intOfV (V.int IntKind.u64 h) * 256)) |||
 BitVec.ofInt 64
 (IntKind.u64.wrap
 (intOfV (la.getD (0 + i.toNat * 1) (V.bool false))))).toNat :
 Int)))).fdiv
 64) &&&
 BitVec.ofInt 64 63).toNat :
 Int)).toNat.blt
 64 &&
 (o.length.beq k && k.ble 1000000) then
 bif
 true &&
 (IntKind.u64.wrap
 (↑(BitVec.ofInt 64
 ((intOfV
 (V.int IntKind.u64
 (IntKind.u64.wrap
 (↑(BitVec.ofInt 64
 (IntKind.u64.wrap (intOfV (V.int IntKind.u64 h) * 256)) |||
 BitVec.ofInt 64
 (IntKind.u64.wrap
 (intOfV (la.getD (0 + i.toNat * 1) (V.bool false))))).toNat :
 Int)))).fdiv
 1) &&&
 BitVec.ofInt 64 63).toNat :
 Int)).toNat.blt
 64 &&
 ((o ++
 [V.int IntKind.u8
 (↑(B64.let64
 (IntKind.u64.wrap
 (↑(BitVec.ofInt 64
 ((intOfV
 (V.int IntKind.u64
 (IntKind.u64.wrap
 (↑(BitVec.ofInt 64
 (IntKind.u64.wrap
 (intOfV (V.int IntKind.u64 h) * 256)) |||
 BitVec.ofInt 64
 (IntKind.u64.wrap
 (intOfV
 (la.getD (0 + i.toNat * 1)
 (V.bool false))))).toNat :
 Int)))).fdiv
 64) &&&
 BitVec.ofInt 64 63).toNat :
 Int)).toNat).toNat :
 Int)]).length.beq
 (k + 1) &&
 (k + 1).ble 1000000) then
 R Exit.normal
 [some (V.str s), some (V.ptr 0 0),
 some (V.func (Fn.func 39) [] [V.ptr 3 0, V.ptr 4 0, V.ptr 1 0, V.ptr 2 0]), some (V.int IntKind.i64 0),
 some (V.slice 5 0 s.length false 0 0), some (V.int IntKind.i64 (↑s.length : Int)),
 some (V.int IntKind.i64 (IntKind.i64.wrap (i + 1)))]
 [Blk.row [V.slice 10 0 (k + 1 + 1) false 0 0] 37 1, Blk.row [V.int IntKind.i64 6] 3 1,
 Blk.row [V.func (Fn.func 26) [] [V.ptr 0 0]] 41 1,
 Blk.row
 [V.int IntKind.u64
 (IntKind.u64.wrap
 (↑(BitVec.ofInt 64
 (intOfV
 (V.int IntKind.u64
 (IntKind.u64.wrap
 (↑(BitVec.ofInt 64 (IntKind.u64.wrap (intOfV (V.int IntKind.u64 h) * 256)) |||
 BitVec.ofInt 64
 (IntKind.u64.wrap
 (intOfV (la.getD (0 + i.toNat * 1) (V.bool false))))).toNat :
 Int)))) &&&
 BitVec.ofInt 64 0).toNat :
 Int))]
 38 1,
 Blk.row [V.int IntKind.i64 0] 3 1, Blk.row la 5 1, Blk.dead,
 Blk.row
 [V.int IntKind.u8
 (↑(B64.let64
 (IntKind.u64.wrap
 (↑(BitVec.ofInt 64
 ((intOfV
 (V.int IntKind.u64
 (IntKind.u64.wrap
 (↑(BitVec.ofInt 64
 (IntKind.u64.wrap
 (intOfV (V.int IntKind.u64 h) * 256)) |||
 BitVec.ofInt 64
 (IntKind.u64.wrap
 (intOfV
 (la.getD (0 + i.toNat * 1)
 (V.bool false))))).toNat :
 Int)))).fdiv
 64) &&&
 BitVec.ofInt 64 63).toNat :
 Int)).toNat).toNat :
 Int)]
 5 1,
 Blk.dead,
 Blk.row
 [V.int IntKind.u8
 (↑(B64.let64
 (IntKind.u64.wrap
 (↑(BitVec.ofInt 64
 ((intOfV
 (V.int IntKind.u64
 (IntKind.u64.wrap
 (↑(BitVec.ofInt 64
 (IntKind.u64.wrap
 (intOfV (V.int IntKind.u64 h) * 256)) |||
 BitVec.ofInt 64
 (IntKind.u64.wrap
 (intOfV
 (la.getD (0 + i.toNat * 1)
 (V.bool false))))).toNat :
 Int)))).fdiv
 1) &&&
 BitVec.ofInt 64 63).toNat :
 Int)).toNat).toNat :
 Int)]
 5 1,
 Blk.row
 (o ++
 [V.int IntKind.u8
 (↑(B64.let64
 (IntKind.u64.wrap
 (↑(BitVec.ofInt 64
 ((intOfV
 (V.int IntKind.u64
 (IntKind.u64.wrap
 (↑(BitVec.ofInt 64
 (IntKind.u64.wrap
 (intOfV (V.int IntKind.u64 h) * 256)) |||
 BitVec.ofInt 64
 (IntKind.u64.wrap
 (intOfV
 (la.getD (0 + i.toNat * 1)
 (V.bool false))))).toNat :
 Int)))).fdiv
 64) &&&
 BitVec.ofInt 64 63).toNat :
 Int)).toNat).toNat :
 Int)] ++
 [V.int IntKind.u8
 (↑(B64.let64
 (IntKind.u64.wrap
 (↑(BitVec.ofInt 64
 ((intOfV
 (V.int IntKind.u64
 (IntKind.u64.wrap
 (↑(BitVec.ofInt 64
 (IntKind.u64.wrap
 (intOfV (V.int IntKind.u64 h) * 256)) |||
 BitVec.ofInt 64
 (IntKind.u64.wrap
 (intOfV
 (la.getD (0 + i.toNat * 1)
 (V.bool false))))).toNat :
 Int)))).fdiv
 1) &&&
 BitVec.ofInt 64 63).toNat :
 Int)).toNat).toNat :
 Int)])
 5 1]
 else False
 else False
 else False
 else False
 else False
 else
 R (Exit.exit 0)
 [some (V.str s), some (V.ptr 0 0), some (V.func (Fn.func 39) [] [V.ptr 3 0, V.ptr 4 0, V.ptr 1 0, V.ptr 2 0]),
 some (V.int IntKind.i64 4), some (V.slice 5 0 s.length false 0 0), some (V.int IntKind.i64 (↑s.length : Int)),
 some (V.int IntKind.i64 i)]
 [Blk.row [V.slice 6 0 k false 0 0] 37 1, Blk.row [V.int IntKind.i64 6] 3 1,
 Blk.row [V.func (Fn.func 26) [] [V.ptr 0 0]] 41 1, Blk.row [V.int IntKind.u64 h] 38 1,
 Blk.row [V.int IntKind.i64 4] 3 1, Blk.row la 5 1, Blk.row o 5 1]) := by kernel_rfl
theorem f_round (s : List UInt8) (o : List V) (k : Nat) (R : Exit → List (Option V) → St → Prop) : roundW Tryd.prog TB 9 10 (rounds 9) 12 508 [3] [.ptr 0 0] [.row [.slice 1 0 k false 0 0] 37 1, .row o 5 1] R =
   (
 bif (↑k : Int).tmod 4 != 0 then
 bif o.length.beq (k * 1) then
 bif (k + 1).ble 9223372036854775807 && ((k + 1) * 1).ble 140737488355328 then
 R Exit.normal [some (V.ptr 0 0)]
 [Blk.row [V.slice 3 0 (k + 1) false 0 0] 37 1, Blk.dead, Blk.row [V.int IntKind.u8 61] 5 1,
 Blk.row (o ++ [V.int IntKind.u8 61]) 5 1]
 else False
 else False
 else R (Exit.exit 2) [some (V.ptr 0 0)] [Blk.row [V.slice 1 0 k false 0 0] 37 1, Blk.row o 5 1]) := by kernel_rfl
theorem flatL_append : ∀ {l r : List V}, flatL l = true → flatL r = true → flatL (l ++ r) = true
  | [], r, _, h => h
  | v :: l, r, h1, h2 => by
    rw [flatL, Bool.and_eq_true] at h1
    rw [List.cons_append, flatL, Bool.and_eq_true]
    exact ⟨h1.1, flatL_append h1.2 h2⟩
/-! ### bits -/
theorem bv_nat {x : Nat} (h : x < 9223372036854775808) : (BitVec.ofInt 64 (x : Int)).toNat = x := by
  rw [BitVec.ofInt_natCast, BitVec.toNat_ofNat]; omega
theorem u64_nat {x : Nat} (h : x < 9223372036854775808) : IntKind.u64.wrap (x : Int) = (x : Int) := IntWalk.u64_in _ ⟨by omega, by omega⟩
theorem or_nat {a b k : Nat} (hb : b < 2 ^ k) (hs : 2 ^ k * a + b < 9223372036854775808) : IntKind.u64.wrap (((BitVec.ofInt 64 ((2 ^ k * a : Nat) : Int) ||| BitVec.ofInt 64 (b : Int)).toNat : Nat) : Int) = ((2 ^ k * a + b : Nat) : Int) := by
  rw [BitVec.toNat_or, bv_nat (by omega), bv_nat (by omega), ← Nat.two_pow_add_eq_or_of_lt hb, u64_nat hs]
theorem and_nat {x k : Nat} (hx : x < 9223372036854775808) (hk : 2 ^ k ≤ 9223372036854775808) : IntKind.u64.wrap (((BitVec.ofInt 64 (x : Int) &&& BitVec.ofInt 64 ((2 ^ k - 1 : Nat) : Int)).toNat : Nat) : Int) = ((x % 2 ^ k : Nat) : Int) := by
  have h1 : 1 ≤ 2 ^ k := Nat.one_le_two_pow
  rw [BitVec.toNat_and, bv_nat hx, bv_nat (by omega), Nat.and_two_pow_sub_one_eq_mod, u64_nat]
  exact Nat.lt_of_le_of_lt (Nat.mod_le _ _) hx
theorem or256 {a b : Nat} (hb : b < 256) (ha : a < 1000000) : IntKind.u64.wrap (((BitVec.ofInt 64 (IntKind.u64.wrap ((a : Int) * 256)) ||| BitVec.ofInt 64 (IntKind.u64.wrap (b : Int))).toNat : Nat) : Int) = ((a * 256 + b : Nat) : Int) := by
  have e : (a : Int) * 256 = ((2 ^ 8 * a : Nat) : Int) := by omega
  rw [e, u64_nat (x := 2 ^ 8 * a) (by omega), u64_nat (x := b) (by omega), or_nat (k := 8) (by omega) (by omega)]; omega
theorem or64 {a b : Nat} (hb : b < 64) (ha : a < 1000000) : IntKind.u64.wrap (((BitVec.ofInt 64 (IntKind.u64.wrap ((a : Int) * 64)) ||| BitVec.ofInt 64 (IntKind.u64.wrap (b : Int))).toNat : Nat) : Int) = ((a * 64 + b : Nat) : Int) := by
  have e : (a : Int) * 64 = ((2 ^ 6 * a : Nat) : Int) := by omega
  rw [e, u64_nat (x := 2 ^ 6 * a) (by omega), u64_nat (x := b) (by omega), or_nat (k := 6) (by omega) (by omega)]; omega
theorem or0 {a : Nat} (ha : a < 1000000000) : IntKind.u64.wrap (((BitVec.ofInt 64 (IntKind.u64.wrap (a : Int)) ||| BitVec.ofInt 64 0).toNat : Nat) : Int) = (a : Int) := by
  rw [u64_nat (x := a) (by omega)]
  have := or_nat (a := a) (b := 0) (k := 0) (by omega) (by omega)
  rw [Nat.pow_zero, Nat.one_mul, Nat.add_zero] at this
  exact this
theorem and63 {x : Nat} (hx : x < 9223372036854775808) : IntKind.u64.wrap (((BitVec.ofInt 64 (x : Int) &&& BitVec.ofInt 64 63).toNat : Nat) : Int) = ((x % 64 : Nat) : Int) := and_nat (k := 6) hx (by omega)
theorem and255 {x : Nat} (hx : x < 9223372036854775808) : IntKind.u64.wrap (((BitVec.ofInt 64 (x : Int) &&& BitVec.ofInt 64 255).toNat : Nat) : Int) = ((x % 256 : Nat) : Int) := and_nat (k := 8) hx (by omega)
theorem and3 {x : Nat} (hx : x < 9223372036854775808) : IntKind.u64.wrap (((BitVec.ofInt 64 (x : Int) &&& BitVec.ofInt 64 3).toNat : Nat) : Int) = ((x % 4 : Nat) : Int) := and_nat (k := 2) hx (by omega)
theorem and15' {x : Nat} (hx : x < 9223372036854775808) : IntKind.u64.wrap (((BitVec.ofInt 64 (x : Int) &&& BitVec.ofInt 64 15).toNat : Nat) : Int) = ((x % 16 : Nat) : Int) := and_nat (k := 4) hx (by omega)
theorem and0' {x : Nat} (hx : x < 9223372036854775808) : IntKind.u64.wrap (((BitVec.ofInt 64 (x : Int) &&& BitVec.ofInt 64 0).toNat : Nat) : Int) = 0 := by
  have := and_nat (k := 0) hx (by omega)
  rw [Nat.pow_zero, Nat.mod_one] at this
  exact this
theorem fdiv_nat (x m : Nat) (hm : 0 < m) : ((x : Int)).fdiv (m : Int) = ((x / m : Nat) : Int) := by
  rw [Int.fdiv_eq_ediv_of_nonneg _ (by omega)]; rfl
/-! ### what is still to come -/
def enc : Nat → Nat → List UInt8 → List Nat
  | 0, _, [] => []
  | 0, _, c :: r => (c.toNat / 4) :: enc 2 (c.toNat % 4) r
  | 2, h, [] => [h * 16]
  | 2, h, c :: r => (h * 16 + c.toNat / 16) :: enc 4 (c.toNat % 16) r
  | _, h, [] => [h * 4]
  | _, h, c :: r => (h * 4 + c.toNat / 64) :: (c.toNat % 64) :: enc 0 0 r
theorem enc_body : ∀ s : List UInt8, enc 0 0 s = B64.body s
  | a :: b :: c :: r => by simp only [enc, B64.body, enc_body r]
  | [a, b] => rfl
  | [a] => rfl
  | [] => rfl
def letB (s : List UInt8) : List UInt8 := (B64.body s).map B64.let64
def encL (k h : Nat) (r : List UInt8) : List UInt8 := (enc k h r).map B64.let64
structure B6X where
  s : List UInt8
  i : Nat
  h : Nat
  o : List UInt8
def bHave (i : Nat) : Nat := i % 3 * 2
def b6xV (x : B6X) : List V := b6xVs x.s (bHave x.i : Int) (x.i : Int)
def b6xJ (x : B6X) : St := match x.o with
  | [] => b6xM .nilSlice (x.h : Int) (bHave x.i : Int) (bys x.s)
  | c :: r => b6xM (.slice 6 0 (c :: r).length false 0 0) (x.h : Int) (bHave x.i : Int) (bys x.s) ++ [.row (bys (c :: r)) 5 1]
def b6xPre (x : B6X) : Bool := okL x.s && (Nat.ble x.i x.s.length && (Nat.ble x.o.length (2 * x.i) && ((Nat.beq x.o.length 0 == Nat.beq x.i 0) && (Nat.blt x.h (2 ^ bHave x.i) && (letB x.s == x.o ++ encL (bHave x.i) x.h (x.s.drop x.i))))))
def b6xMu (x : B6X) : Nat := x.s.length - x.i
def b6xDec : List (Option V) → St → Option B6X
  | [some (.str s), some (.ptr 0 0), some (.func _ _ _), some (.int .i64 0), some (.slice 5 0 _ false 0 0), some (.int .i64 _), some (.int .i64 0)], _ => some ⟨s, 0, 0, []⟩
  | _, _ => none
def b6xOutG (LB : List UInt8 → List UInt8) : Asks B6X := fun x K =>
  (LB x.s = [] → K (.exit 0) (b6xVs x.s 0 (x.s.length : Int)) (b6xM .nilSlice 0 0 (bys x.s))) ∧
  (∀ o : List UInt8, o ≠ [] → o.length ≤ 2 * x.s.length → LB x.s = o → K (.exit 0) (b6xVs x.s 0 (x.s.length : Int)) (b6xM (.slice 6 0 o.length false 0 0) 0 0 (bys x.s) ++ [.row (bys o) 5 1])) ∧
  (∀ (o : List UInt8) (h : Nat), o ≠ [] → o.length ≤ 2 * x.s.length → h < 4 → LB x.s = o ++ [B64.let64 (h * 16)] → K (.exit 0) (b6xVs x.s 2 (x.s.length : Int)) (b6xM (.slice 6 0 o.length false 0 0) (h : Int) 2 (bys x.s) ++ [.row (bys o) 5 1])) ∧
  (∀ (o : List UInt8) (h : Nat), o ≠ [] → o.length ≤ 2 * x.s.length → h < 16 → LB x.s = o ++ [B64.let64 (h * 4)] → K (.exit 0) (b6xVs x.s 4 (x.s.length : Int)) (b6xM (.slice 6 0 o.length false 0 0) (h : Int) 4 (bys x.s) ++ [.row (bys o) 5 1]))
theorem b6x_fits (s o : List UInt8) (k : Nat) (left held hv i : Int) (c : Nat) (st : St) (h0 : st[0]? = some (.row [.slice c 0 k false 0 0] 37 1)) (h1 : st[1]? = some (.row [.int .i64 6] 3 1)) (h2 : st[2]? = some (.row [.func (.func 26) [] [.ptr 0 0]] 41 1)) (h3 : st[3]? = some (.row [.int .u64 held] 38 1)) (h4 : st[4]? = some (.row [.int .i64 hv] 3 1)) (h5 : st[5]? = some (.row (bys s) 5 1)) (hc : st[c]? = some (.row (bys o) 5 1)) (hc6 : 6 ≤ c) :
    Fits 0 (b6xVs s left i) (b6xM (.slice 6 0 k false 0 0) held hv (bys s) ++ [.row (bys o) 5 1]) [some (.str s), some (.ptr 0 0), some (.func (.func 39) [] [.ptr 3 0, .ptr 4 0, .ptr 1 0, .ptr 2 0]), some (.int .i64 left), some (.slice 5 0 s.length false 0 0), some (.int .i64 (s.length : Int)), some (.int .i64 i)] st :=
  ⟨[0, 1, 2, 3, 4, 5, c], b6xVs s left i, rfl, rfl, FitsM.of ⟨.inr ⟨_, .inl rfl, h0⟩, .inr ⟨_, .inl rfl, h1⟩, .inr ⟨_, .inl rfl, h2⟩, .inr ⟨_, .inl rfl, h3⟩, .inr ⟨_, .inl rfl, h4⟩, fb (bys_flat _) h5, fb (bys_flat _) hc, trivial⟩, by simp; omega, fun i hi => by omega⟩
theorem b6x_fits0 (s : List UInt8) (left held hv i : Int) :
    Fits 0 (b6xVs s left i) (b6xM .nilSlice held hv (bys s)) [some (.str s), some (.ptr 0 0), some (.func (.func 39) [] [.ptr 3 0, .ptr 4 0, .ptr 1 0, .ptr 2 0]), some (.int .i64 left), some (.slice 5 0 s.length false 0 0), some (.int .i64 (s.length : Int)), some (.int .i64 i)] (b6xM .nilSlice held hv (bys s)) :=
  ⟨[0, 1, 2, 3, 4, 5], b6xVs s left i, rfl, rfl, FitsM.of ⟨.inr ⟨_, .inl rfl, rfl⟩, .inr ⟨_, .inl rfl, rfl⟩, .inr ⟨_, .inl rfl, rfl⟩, .inr ⟨_, .inl rfl, rfl⟩, .inr ⟨_, .inl rfl, rfl⟩, fb (bys_flat _) rfl, trivial⟩, by decide, fun i hi => by omega⟩
theorem b6x_J (s : List UInt8) (i h : Nat) (o : List UInt8) (ho : o ≠ []) : b6xJ ⟨s, i, h, o⟩ = b6xM (.slice 6 0 o.length false 0 0) (h : Int) (bHave i : Int) (bys s) ++ [.row (bys o) 5 1] := by
  cases o with
  | nil => exact absurd rfl ho
  | cons c r => rfl
theorem b6x_next {s : List UInt8} (hk : okL s = true) {i' h' : Nat} {o' : List UInt8} (hi : i' ≤ s.length) (hne : o' ≠ []) (hi0 : i' ≠ 0) (hl : o'.length ≤ 2 * i') (hh : h' < 2 ^ bHave i') (he : letB s = o' ++ encL (bHave i') h' (s.drop i')) : b6xPre ⟨s, i', h', o'⟩ = true := by
  unfold b6xPre
  simp only [Bool.and_eq_true]
  refine ⟨hk, Nat.ble_eq_true_of_le hi, Nat.ble_eq_true_of_le hl, ?_, Nat.ble_eq_true_of_le hh, beq_iff_eq.2 he⟩
  have a : Nat.beq o'.length 0 = false := by
    cases hb : Nat.beq o'.length 0 with
    | false => rfl
    | true => exact absurd (List.length_eq_zero_iff.1 (Nat.eq_of_beq_eq_true hb)) hne
  have b : Nat.beq i' 0 = false := by
    cases hb : Nat.beq i' 0 with
    | false => rfl
    | true => exact absurd (Nat.eq_of_beq_eq_true hb) hi0
  rw [a, b]; rfl
theorem snoc_b (o : List UInt8) (c : UInt8) : bys o ++ [V.int .u8 (c.toNat : Int)] = bys (o ++ [c]) := by rw [bys_append]; rfl
theorem or0c {b : Nat} (hb : b < 1000000000) : IntKind.u64.wrap (((BitVec.ofInt 64 0 ||| BitVec.ofInt 64 (IntKind.u64.wrap (b : Int))).toNat : Nat) : Int) = (b : Int) := by
  rw [u64_nat (x := b) (by omega), BitVec.toNat_or, bv_nat (x := b) (by omega)]
  have : (BitVec.ofInt 64 0).toNat = 0 := rfl
  rw [this, Nat.zero_or, u64_nat (by omega)]
theorem fd4 (x : Nat) : ((x : Nat) : Int).fdiv 4 = ((x / 4 : Nat) : Int) := fdiv_nat x 4 (by omega)
theorem fd16 (x : Nat) : ((x : Nat) : Int).fdiv 16 = ((x / 16 : Nat) : Int) := fdiv_nat x 16 (by omega)
theorem fd64 (x : Nat) : ((x : Nat) : Int).fdiv 64 = ((x / 64 : Nat) : Int) := fdiv_nat x 64 (by omega)
theorem fd1 (x : Nat) : ((x : Nat) : Int).fdiv 1 = ((x : Nat) : Int) := by have := fdiv_nat x 1 (by omega); rw [Nat.div_one] at this; exact this
theorem intOf_int (k : IntKind) (n : Int) : intOfV (V.int k n) = n := rfl
theorem b_round_ok (x : B6X) (hx : b6xPre x = true) : roundW Tryd.prog TB 9 10 (rounds 9) 12 250 [0,3,4,5,11,12,13] (b6xV x) (b6xJ x) (RoundOkA 0 b6xPre b6xV b6xJ b6xMu (b6xOutG letB) x) := by
  obtain ⟨s, i, h, o⟩ := x
  unfold b6xPre at hx
  simp only [Bool.and_eq_true] at hx
  obtain ⟨p0, p2, p3, p4, p5, p6⟩ := hx
  have p1 : (s.length : Int) ≤ 99999 := okL_le p0
  have p2 : i ≤ s.length := Nat.le_of_ble_eq_true p2
  have p3 : o.length ≤ 2 * i := Nat.le_of_ble_eq_true p3
  have p4 : Nat.beq o.length 0 = Nat.beq i 0 := eq_of_beq p4
  have p5 : h < 2 ^ bHave i := Nat.le_of_ble_eq_true p5
  have p6 : letB s = o ++ encL (bHave i) h (s.drop i) := eq_of_beq p6
  have hi0 : o = [] → i = 0 := by
    intro e
    rw [e] at p4
    exact Nat.eq_of_beq_eq_true p4.symm
  have hne0 : i ≠ 0 → o ≠ [] := by
    intro h0 e
    exact h0 (hi0 e)
  have i0o : i = 0 → o = [] := by
    intro e
    rw [e] at p4
    exact List.length_eq_zero_iff.1 (Nat.eq_of_beq_eq_true p4)
  have h3 : i % 3 = 0 ∨ i % 3 = 1 ∨ i % 3 = 2 := by omega
  have hw : i < s.length → IntKind.i64.wrap ((i : Int) + 1) = ((i + 1 : Nat) : Int) := fun _ => by rw [IntWalk.i64_in _ ⟨by omega, by omega⟩]; omega
  have e0 : 0 + i * 1 = i := by omega
  rcases h3 with h3 | h3 | h3
  · have e : bHave i = 0 := by unfold bHave; omega
    have e' : bHave (i + 1) = 2 := by unfold bHave; omega
    have hh : h = 0 := by rw [e] at p5; omega
    subst hh
    rw [e] at p6
    have eV : b6xV ⟨s, i, 0, o⟩ = b6xVs s 0 (i : Int) := by unfold b6xV; simp only [e]; rfl
    cases hd : s.drop i with
    | nil =>
      have hi := drop_nil hd p2
      rw [hd] at p6
      have p6 : letB s = o := by rw [p6]; exact List.append_nil o
      have hb : decide (((i : Nat) : Int) < (s.length : Int)) = false := decide_eq_false (by omega)
      by_cases ho : o = []
      · have hJ : b6xJ ⟨s, i, 0, o⟩ = b6xM .nilSlice 0 0 (bys s) := by rw [ho]; unfold b6xJ; simp only [e]; rfl
        rw [eV, hJ, b_round0n, hb, cond_false, hi]
        exact ⟨_, _, fun K hK => hK.1 (by rw [p6, ho]), b6x_fits0 s _ _ _ _⟩
      · have hJ : b6xJ ⟨s, i, 0, o⟩ = b6xM (.slice 6 0 o.length false 0 0) 0 0 (bys s) ++ [.row (bys o) 5 1] := by rw [b6x_J _ _ _ _ ho, e]; rfl
        rw [eV, hJ, b_round0, hb, cond_false, hi]
        exact ⟨_, _, fun K hK => hK.2.1 o ho (show o.length ≤ 2 * s.length by omega) p6, b6x_fits s o _ _ _ _ _ 6 _ rfl rfl rfl rfl rfl rfl rfl (by omega)⟩
    | cons c r =>
      obtain ⟨d1, d2, d3⟩ := drop_cons hd
      have hc := c.toNat_lt
      have hb : decide (((i : Nat) : Int) < (s.length : Int)) = true := decide_eq_true (by omega)
      have hbb : (decide ((0 : Int) ≤ (i : Int)) && true) = true := by rw [Bool.and_true]; exact decide_eq_true (by omega)
      have hbl : i.blt (bys s).length = true := Nat.ble_eq_true_of_le (by rw [bys_len]; omega)
      rw [hd] at p6
      have p6 : letB s = (o ++ [B64.let64 (c.toNat / 4)]) ++ encL 2 (c.toNat % 4) (s.drop (i + 1)) := by
        rw [p6, d2, List.append_assoc]; rfl
      have hq : c.toNat / 4 % 64 = c.toNat / 4 := by omega
      by_cases ho : o = []
      · have hJ : b6xJ ⟨s, i, 0, o⟩ = b6xM .nilSlice 0 0 (bys s) := by rw [ho]; unfold b6xJ; simp only [e]; rfl
        have hi := hi0 ho
        rw [eV, hJ, b_round0n]
        simp only [hb, hw d3, Int.toNat_natCast, e0, bys_getD d3, d1, intOf_int, or0c (b := c.toNat) (by omega), fd4, and63 (x := c.toNat / 4) (by omega), and3 (x := c.toNat) (by omega), hbb, hbl, hq]
        refine must_intro ?_ ?_
        · simp only [Bool.and_true, Bool.true_and]; exact Nat.ble_eq_true_of_le (by omega)
        · refine ⟨⟨s, i + 1, c.toNat % 4, o ++ [B64.let64 (c.toNat / 4)]⟩, ?_, ?_, by simp only [b6xMu]; omega, fun K hK => hK⟩
          · exact b6x_next p0 d3 (by simp) (by omega) (by rw [List.length_append, List.length_singleton]; omega) (by rw [e']; omega) (by rw [e']; exact p6)
          · have hV : b6xV ⟨s, i + 1, c.toNat % 4, o ++ [B64.let64 (c.toNat / 4)]⟩ = b6xVs s 2 ((i + 1 : Nat) : Int) := by unfold b6xV; simp only [e']; rfl
            rw [b6x_J _ _ _ _ (by simp), hV, e', ho]
            exact b6x_fits s _ _ _ _ _ _ 7 _ rfl rfl rfl rfl rfl rfl rfl (by omega)
      · have hJ : b6xJ ⟨s, i, 0, o⟩ = b6xM (.slice 6 0 o.length false 0 0) 0 0 (bys s) ++ [.row (bys o) 5 1] := by rw [b6x_J _ _ _ _ ho, e]; rfl
        rw [eV, hJ, b_round0]
        simp only [hb, hw d3, Int.toNat_natCast, e0, bys_getD d3, d1, intOf_int, or0c (b := c.toNat) (by omega), fd4, and63 (x := c.toNat / 4) (by omega), and3 (x := c.toNat) (by omega), hbb, hbl, hq, snoc_b]
        refine must_intro ?_ ?_
        · simp only [Bool.and_true, Bool.true_and, Bool.and_eq_true]; exact ⟨Nat.ble_eq_true_of_le (by omega), by rw [bys_len]; exact Nat.beq_refl _, Nat.ble_eq_true_of_le (by omega)⟩
        · refine ⟨⟨s, i + 1, c.toNat % 4, o ++ [B64.let64 (c.toNat / 4)]⟩, ?_, ?_, by simp only [b6xMu]; omega, fun K hK => hK⟩
          · exact b6x_next p0 d3 (by simp) (by omega) (by rw [List.length_append, List.length_singleton]; omega) (by rw [e']; omega) (by rw [e']; exact p6)
          · have hV : b6xV ⟨s, i + 1, c.toNat % 4, o ++ [B64.let64 (c.toNat / 4)]⟩ = b6xVs s 2 ((i + 1 : Nat) : Int) := by unfold b6xV; simp only [e']; rfl
            rw [b6x_J _ _ _ _ (by simp), hV, e', List.length_append, List.length_singleton]
            exact b6x_fits s _ _ _ _ _ _ 8 _ rfl rfl rfl rfl rfl rfl rfl (by omega)
  · have e : bHave i = 2 := by unfold bHave; omega
    have e' : bHave (i + 1) = 4 := by unfold bHave; omega
    have hh : h < 4 := by rw [e] at p5; exact p5
    rw [e] at p6
    have eV : b6xV ⟨s, i, h, o⟩ = b6xVs s 2 (i : Int) := by unfold b6xV; simp only [e]; rfl
    have ho : o ≠ [] := hne0 (by omega)
    have hJ : b6xJ ⟨s, i, h, o⟩ = b6xM (.slice 6 0 o.length false 0 0) (h : Int) 2 (bys s) ++ [.row (bys o) 5 1] := by rw [b6x_J _ _ _ _ ho, e]; rfl
    rw [eV, hJ, b_round2]
    cases hd : s.drop i with
    | nil =>
      have hi := drop_nil hd p2
      rw [hd] at p6
      have hb : decide (((i : Nat) : Int) < (s.length : Int)) = false := decide_eq_false (by omega)
      rw [hb, cond_false, hi]
      exact ⟨_, _, fun K hK => hK.2.2.1 o h ho (show o.length ≤ 2 * s.length by omega) hh p6, b6x_fits s o _ _ _ _ _ 6 _ rfl rfl rfl rfl rfl rfl rfl (by omega)⟩
    | cons c r =>
      obtain ⟨d1, d2, d3⟩ := drop_cons hd
      have hc := c.toNat_lt
      have hb : decide (((i : Nat) : Int) < (s.length : Int)) = true := decide_eq_true (by omega)
      have hbb : (decide ((0 : Int) ≤ (i : Int)) && true) = true := by rw [Bool.and_true]; exact decide_eq_true (by omega)
      have hbl : i.blt (bys s).length = true := Nat.ble_eq_true_of_le (by rw [bys_len]; omega)
      rw [hd] at p6
      have p6 : letB s = (o ++ [B64.let64 (h * 16 + c.toNat / 16)]) ++ encL 4 (c.toNat % 16) (s.drop (i + 1)) := by
        rw [p6, d2, List.append_assoc]; rfl
      have hq : (h * 256 + c.toNat) / 16 % 64 = h * 16 + c.toNat / 16 := by omega
      have hq2 : (h * 256 + c.toNat) % 16 = c.toNat % 16 := by omega
      simp only [hb, hw d3, Int.toNat_natCast, e0, bys_getD d3, d1, intOf_int, or256 (a := h) (b := c.toNat) hc (by omega), fd16, and63 (x := (h * 256 + c.toNat) / 16) (by omega), and15' (x := h * 256 + c.toNat) (by omega), hbb, hbl, hq, hq2, snoc_b]
      refine must_intro ?_ ?_
      · simp only [Bool.and_true, Bool.true_and, Bool.and_eq_true]; exact ⟨Nat.ble_eq_true_of_le (by omega), by rw [bys_len]; exact Nat.beq_refl _, Nat.ble_eq_true_of_le (by omega)⟩
      · refine ⟨⟨s, i + 1, c.toNat % 16, o ++ [B64.let64 (h * 16 + c.toNat / 16)]⟩, ?_, ?_, by simp only [b6xMu]; omega, fun K hK => hK⟩
        · exact b6x_next p0 d3 (by simp) (by omega) (by rw [List.length_append, List.length_singleton]; omega) (by rw [e']; omega) (by rw [e']; exact p6)
        · have hV : b6xV ⟨s, i + 1, c.toNat % 16, o ++ [B64.let64 (h * 16 + c.toNat / 16)]⟩ = b6xVs s 4 ((i + 1 : Nat) : Int) := by unfold b6xV; simp only [e']; rfl
          rw [b6x_J _ _ _ _ (by simp), hV, e', List.length_append, List.length_singleton]
          exact b6x_fits s _ _ _ _ _ _ 8 _ rfl rfl rfl rfl rfl rfl rfl (by omega)
  · have e : bHave i = 4 := by unfold bHave; omega
    have e' : bHave (i + 1) = 0 := by unfold bHave; omega
    have hh : h < 16 := by rw [e] at p5; exact p5
    rw [e] at p6
    have eV : b6xV ⟨s, i, h, o⟩ = b6xVs s 4 (i : Int) := by unfold b6xV; simp only [e]; rfl
    have ho : o ≠ [] := hne0 (by omega)
    have hJ : b6xJ ⟨s, i, h, o⟩ = b6xM (.slice 6 0 o.length false 0 0) (h : Int) 4 (bys s) ++ [.row (bys o) 5 1] := by rw [b6x_J _ _ _ _ ho, e]; rfl
    rw [eV, hJ, b_round4]
    cases hd : s.drop i with
    | nil =>
      have hi := drop_nil hd p2
      rw [hd] at p6
      have hb : decide (((i : Nat) : Int) < (s.length : Int)) = false := decide_eq_false (by omega)
      rw [hb, cond_false, hi]
      exact ⟨_, _, fun K hK => hK.2.2.2 o h ho (show o.length ≤ 2 * s.length by omega) hh p6, b6x_fits s o _ _ _ _ _ 6 _ rfl rfl rfl rfl rfl rfl rfl (by omega)⟩
    | cons c r =>
      obtain ⟨d1, d2, d3⟩ := drop_cons hd
      have hc := c.toNat_lt
      have hb : decide (((i : Nat) : Int) < (s.length : Int)) = true := decide_eq_true (by omega)
      have hbb : (decide ((0 : Int) ≤ (i : Int)) && true) = true := by rw [Bool.and_true]; exact decide_eq_true (by omega)
      have hbl : i.blt (bys s).length = true := Nat.ble_eq_true_of_le (by rw [bys_len]; omega)
      rw [hd] at p6
      have p6 : letB s = ((o ++ [B64.let64 (h * 4 + c.toNat / 64)]) ++ [B64.let64 (c.toNat % 64)]) ++ encL 0 0 (s.drop (i + 1)) := by
        rw [p6, d2, List.append_assoc, List.append_assoc]; rfl
      have hq : (h * 256 + c.toNat) / 64 % 64 = h * 4 + c.toNat / 64 := by omega
      have hq2 : (h * 256 + c.toNat) % 64 = c.toNat % 64 := by omega
      simp only [hb, hw d3, Int.toNat_natCast, e0, bys_getD d3, d1, intOf_int, or256 (a := h) (b := c.toNat) hc (by omega), fd64, fd1, and63 (x := (h * 256 + c.toNat) / 64) (by omega), and63 (x := h * 256 + c.toNat) (by omega), and0' (x := h * 256 + c.toNat) (by omega), hbb, hbl, hq, hq2, snoc_b]
      refine must_intro ?_ (must_intro ?_ ?_)
      · simp only [Bool.and_true, Bool.true_and, Bool.and_eq_true]; exact ⟨Nat.ble_eq_true_of_le (by omega), by rw [bys_len]; exact Nat.beq_refl _, Nat.ble_eq_true_of_le (by omega)⟩
      · simp only [Bool.and_true, Bool.true_and, Bool.and_eq_true]; exact ⟨Nat.ble_eq_true_of_le (by omega), by rw [bys_len, List.length_append, List.length_singleton]; exact Nat.beq_refl _, Nat.ble_eq_true_of_le (by omega)⟩
      · refine ⟨⟨s, i + 1, 0, (o ++ [B64.let64 (h * 4 + c.toNat / 64)]) ++ [B64.let64 (c.toNat % 64)]⟩, ?_, ?_, by simp only [b6xMu]; omega, fun K hK => hK⟩
        · exact b6x_next p0 d3 (by simp) (by omega) (by simp only [List.length_append, List.length_singleton]; omega) (by rw [e']; omega) (by rw [e']; exact p6)
        · have hV : b6xV ⟨s, i + 1, 0, (o ++ [B64.let64 (h * 4 + c.toNat / 64)]) ++ [B64.let64 (c.toNat % 64)]⟩ = b6xVs s 0 ((i + 1 : Nat) : Int) := by unfold b6xV; simp only [e']; rfl
          rw [b6x_J _ _ _ _ (by simp), hV, e', List.length_append, List.length_singleton, List.length_append, List.length_singleton]
          exact b6x_fits s _ _ _ _ _ _ 10 _ rfl rfl rfl rfl rfl rfl rfl (by omega)
/-! ### the fill -/
theorem f_round0 (R : Exit → List (Option V) → St → Prop) : roundW Tryd.prog TB 9 10 (rounds 9) 12 508 [3] [.ptr 0 0] [.row [.nilSlice] 37 1] R =
   (
 R (Exit.exit 2) [some (V.ptr 0 0)] [Blk.row [V.nilSlice] 37 1]) := by kernel_rfl
structure FX where
  cs : List V
def fxV (_ : FX) : List V := [.ptr 0 0]
def fxJ (x : FX) : St := match x.cs with
  | [] => [.row [.nilSlice] 37 1]
  | c :: r => [.row [.slice 1 0 (c :: r).length false 0 0] 37 1, .row (c :: r) 5 1]
def fxPre (x : FX) : Bool := flatL x.cs && Nat.ble x.cs.length 1000000
def fxN (n : Nat) : Nat := (4 - n % 4) % 4
def fxMu (x : FX) : Nat := fxN x.cs.length
def fxP (cs : List V) : List V := cs ++ List.replicate (fxN cs.length) (.int .u8 61)
def fxDec : List (Option V) → St → Option FX
  | [some (.ptr 0 0)], .row [.nilSlice] _ _ :: _ => some ⟨[]⟩
  | [some (.ptr 0 0)], .row [.slice 1 0 _ false 0 0] _ _ :: r => match r with
    | .row cs _ _ :: _ => some ⟨cs⟩
    | _ => none
  | [some (.ptr 0 0)], .row [.slice 6 0 _ false 0 0] _ _ :: r => match r with
    | _ :: _ :: _ :: _ :: _ :: .row cs _ _ :: _ => some ⟨cs⟩
    | _ => none
  | [some (.ptr 0 0)], .row [.slice 8 0 _ false 0 0] _ _ :: r => match r with
    | _ :: _ :: _ :: _ :: _ :: _ :: _ :: .row cs _ _ :: _ => some ⟨cs⟩
    | _ => none
  | _, _ => none
def fxOutG (FP : List V → List V) : Asks FX := fun x K => bif Nat.beq x.cs.length 0 then K (.exit 2) [.ptr 0 0] [.row [.nilSlice] 37 1] else K (.exit 2) [.ptr 0 0] [.row [.slice 1 0 (FP x.cs).length false 0 0] 37 1, .row (FP x.cs) 5 1]
theorem fx_fits (cs : List V) (hf : flatL cs = true) (k c : Nat) (st : St) (h0 : st[0]? = some (.row [.slice c 0 k false 0 0] 37 1)) (hc : st[c]? = some (.row cs 5 1)) (hc0 : c ≠ 0) : Fits 0 [.ptr 0 0] [.row [.slice 1 0 k false 0 0] 37 1, .row cs 5 1] [some (.ptr 0 0)] st :=
  ⟨[0, c], [.ptr 0 0], rfl, rfl, FitsM.of ⟨.inr ⟨_, .inl rfl, h0⟩, fb hf hc, trivial⟩, by simp; omega, fun i hi => by omega⟩
theorem fx_fits0 (st : St) (h0 : st[0]? = some (.row [.nilSlice] 37 1)) : Fits 0 [.ptr 0 0] [.row [.nilSlice] 37 1] [some (.ptr 0 0)] st :=
  ⟨[0], [.ptr 0 0], rfl, rfl, FitsM.of ⟨.inr ⟨_, .inl rfl, h0⟩, trivial⟩, by simp, fun i hi => by omega⟩
theorem fx_roundOk (x : FX) (hx : fxPre x = true) : roundW Tryd.prog TB 9 10 (rounds 9) 12 508 [3] (fxV x) (fxJ x) (RoundOkA 0 fxPre fxV fxJ fxMu (fxOutG fxP) x) := by
  obtain ⟨cs⟩ := x
  unfold fxPre at hx
  rw [Bool.and_eq_true] at hx
  have p1 : flatL cs = true := hx.1
  have p2 : cs.length ≤ 1000000 := Nat.le_of_ble_eq_true hx.2
  cases cs with
  | nil =>
    show roundW Tryd.prog TB 9 10 (rounds 9) 12 508 [3] [.ptr 0 0] [.row [.nilSlice] 37 1] _
    rw [f_round0]
    exact ⟨_, _, fun K hK => hK, fx_fits0 _ rfl⟩
  | cons c r =>
    show roundW Tryd.prog TB 9 10 (rounds 9) 12 508 [3] [.ptr 0 0] [.row [.slice 1 0 (c :: r).length false 0 0] 37 1, .row (c :: r) 5 1] _
    generalize hn : (c :: r).length = n at *
    rw [f_round []]
    have hm : (n : Int).tmod 4 = ((n % 4 : Nat) : Int) := by rw [Int.tmod_eq_emod_of_nonneg (by omega)]; omega
    rw [hm]
    refine bif_intro (fun h => ?_) (fun h => ?_)
    · have h : n % 4 ≠ 0 := by
        intro h0
        rw [h0] at h
        simp at h
      refine must_intro (by rw [Nat.mul_one, hn]; exact Nat.beq_refl _) (must_intro (by rw [Bool.and_eq_true]; exact ⟨Nat.ble_eq_true_of_le (by omega), Nat.ble_eq_true_of_le (by omega)⟩) ?_)
      have hl : ((c :: r) ++ [V.int .u8 61]).length = n + 1 := by rw [List.length_append, hn]; rfl
      have hf : flatL ((c :: r) ++ [V.int .u8 61]) = true := flatL_append p1 rfl
      refine ⟨⟨(c :: r) ++ [.int .u8 61]⟩, ?_, ?_, ?_, fun K hK => ?_⟩
      · unfold fxPre
        rw [Bool.and_eq_true]
        refine ⟨hf, Nat.ble_eq_true_of_le ?_⟩
        show ((c :: r) ++ [V.int .u8 61]).length ≤ 1000000
        rw [hl]; omega
      · show Fits 0 [.ptr 0 0] [.row [.slice 1 0 ((c :: r) ++ [V.int .u8 61]).length false 0 0] 37 1, .row ((c :: r) ++ [V.int .u8 61]) 5 1] _ _
        rw [hl]
        exact fx_fits _ hf _ 3 _ rfl rfl (by omega)
      · show fxN ((c :: r) ++ [V.int .u8 61]).length < fxN (c :: r).length
        rw [hl, hn]; unfold fxN; omega
      · have hK : K (.exit 2) [.ptr 0 0] [.row [.slice 1 0 (fxP (c :: r)).length false 0 0] 37 1, .row (fxP (c :: r)) 5 1] := hK
        have : fxP ((c :: r) ++ [.int .u8 61]) = fxP (c :: r) := by
          unfold fxP
          rw [hl, hn, List.append_assoc]
          have : fxN n = fxN (n + 1) + 1 := by unfold fxN; omega
          rw [this, List.replicate_succ]; rfl
        show K (.exit 2) [.ptr 0 0] [.row [.slice 1 0 (fxP ((c :: r) ++ [V.int .u8 61])).length false 0 0] 37 1, .row (fxP ((c :: r) ++ [V.int .u8 61])) 5 1]
        rw [this]; exact hK
    · have h : n % 4 = 0 := by
        have : ((n % 4 : Nat) : Int) = 0 := by simpa using h
        omega
      refine ⟨[.ptr 0 0], [.row [.slice 1 0 n false 0 0] 37 1, .row (c :: r) 5 1], fun K hK => ?_, fx_fits _ p1 _ 1 _ rfl rfl (by omega)⟩
      have hK : K (.exit 2) [.ptr 0 0] [.row [.slice 1 0 (fxP (c :: r)).length false 0 0] 37 1, .row (fxP (c :: r)) 5 1] := hK
      have : fxP (c :: r) = c :: r := by
        unfold fxP
        have : fxN (c :: r).length = 0 := by rw [hn]; unfold fxN; omega
        rw [this, List.replicate_zero, List.append_nil]
      rw [this, hn] at hK
      exact hK
theorem b6x_loop {f : Fr} {st : St} {Q : Exit → Fr → St → Prop} (h : loopA 0 (szOf Tryd.prog 12) [0,3,4,5,11,12,13] b6xDec b6xPre b6xV b6xJ (b6xOutG letB) f st Q) : CodeSatW Tryd.prog none 0 (.loop (loopOf Tryd.prog 12 250)) f st Q :=
  loopA_ok (P := Tryd.prog) (T := TB) (k := 0) (lim := 9) (n := 10) (g := 12) (p0 := 250) (lk := rounds 9) mixed TB_ok (roundsW 9 _ _) b6xMu b_round_ok h
theorem fx_loop {f : Fr} {st : St} {Q : Exit → Fr → St → Prop} (h : loopA 0 (szOf Tryd.prog 12) [3] fxDec fxPre fxV fxJ (fxOutG fxP) f st Q) : CodeSatW Tryd.prog none 0 (.loop (loopOf Tryd.prog 12 508)) f st Q :=
  loopA_ok (P := Tryd.prog) (T := TB) (k := 0) (lim := 9) (n := 10) (g := 12) (p0 := 508) (lk := rounds 9) mixed TB_ok (roundsW 9 _ _) fxMu fx_roundOk h
noncomputable def lkBG (LB : List UInt8 → List UInt8) (FP : List V → List V) : Nat → Trans → Trans := withLoop 508 (loopA 0 (szOf Tryd.prog 12) [3] fxDec fxPre fxV fxJ (fxOutG FP)) (withLoop 250 (loopA 0 (szOf Tryd.prog 12) [0,3,4,5,11,12,13] b6xDec b6xPre b6xV b6xJ (b6xOutG LB)) (rounds 9))
theorem lkB_ok : FnLoopsW Tryd.prog 0 (lkBG letB fxP) 12 := by
  unfold lkBG
  exact fnLoopW (fnLoopW (fnRoundsW 9 0 12) (by kernel_rfl) fun f st Q h => b6x_loop h) (by kernel_rfl) fun f st Q h => fx_loop h
noncomputable def TB2 (LB : List UInt8 → List UInt8) (FP : List V → List V) : Tab := ⟨noT, addS (addS noL 26 tellT) 29 tellUT, addLk (noLks 9) 12 0 (lkBG LB FP)⟩
theorem TB2_ok : TabOk3 Tryd.prog (TB2 letB fxP) := ⟨noT_ok, addS_ok (addS_ok noL_ok tell_ok) tellU_ok, addLk_ok (noLks_ok 9) lkB_ok⟩
theorem b64_tree (LB : List UInt8 → List UInt8) (FP : List V → List V) (s : List UInt8) (R : V → Prop) : runW Tryd.prog (TB2 LB FP) 9 10 12 [.str s] R =
   (
    bif s.length.ble 281474976710656 then
      Fits 0
          [V.str s, V.ptr 0 0, V.func (Fn.func 39) [] [V.ptr 3 0, V.ptr 4 0, V.ptr 1 0, V.ptr 2 0], V.int IntKind.i64 0,
            V.slice 5 0 s.length false 0 0, V.int IntKind.i64 (↑s.length : Int), V.int IntKind.i64 0]
          [Blk.row [V.nilSlice] 37 1, Blk.row [V.int IntKind.i64 6] 3 1, Blk.row [V.func (Fn.func 26) [] [V.ptr 0 0]] 41 1,
            Blk.row [V.int IntKind.u64 0] 38 1, Blk.row [V.int IntKind.i64 0] 3 1, Blk.row (bys s) 5 1]
          [some (V.str s), some (V.ptr 0 0), some (V.func (Fn.func 39) [] [V.ptr 3 0, V.ptr 4 0, V.ptr 1 0, V.ptr 2 0]),
            some (V.int IntKind.i64 0), some (V.slice 5 0 s.length false 0 0), some (V.int IntKind.i64 (↑s.length : Int)),
            some (V.int IntKind.i64 0)]
          [Blk.row [V.nilSlice] 37 1, Blk.row [V.int IntKind.i64 6] 3 1, Blk.row [V.func (Fn.func 26) [] [V.ptr 0 0]] 41 1,
            Blk.row [V.int IntKind.u64 0] 38 1, Blk.row [V.int IntKind.i64 0] 3 1,
            Blk.row (List.map (fun b => V.int IntKind.u8 (↑b.toNat : Int)) s) 5 1] ∧
        bif b6xPre { s := s, i := 0, h := 0, o := [] } then
          (LB s = [] →
              Fits 0 [V.ptr 0 0] [Blk.row [V.nilSlice] 37 1] [some (V.ptr 0 0)]
                  [Blk.row [V.nilSlice] 37 1, Blk.row [V.int IntKind.i64 6] 3 1,
                    Blk.row [V.func (Fn.func 26) [] [V.ptr 0 0]] 41 1, Blk.row [V.int IntKind.u64 0] 38 1,
                    Blk.row [V.int IntKind.i64 0] 3 1, Blk.row (bys s) 5 1] ∧
                R (V.str [])) ∧
            (∀ (o : List UInt8),
                o ≠ [] →
                  o.length ≤ 2 * s.length →
                    LB s = o →
                      Fits 0 [V.ptr 0 0] (fxJ { cs := bys o }) [some (V.ptr 0 0)]
                          [Blk.row [V.slice 6 0 o.length false 0 0] 37 1, Blk.row [V.int IntKind.i64 6] 3 1,
                            Blk.row [V.func (Fn.func 26) [] [V.ptr 0 0]] 41 1, Blk.row [V.int IntKind.u64 0] 38 1,
                            Blk.row [V.int IntKind.i64 0] 3 1, Blk.row (bys s) 5 1, Blk.row (bys o) 5 1] ∧
                        bif fxPre { cs := bys o } then
                          bif (bys o).length.beq 0 then R (V.str [])
                          else
                            bif (0 + (FP (bys o)).length).ble (FP (bys o)).length then
                              bif (List.take (FP (bys o)).length (FP (bys o))).all isByte then
                                R (V.str (List.map Vm.byteOf (List.take (FP (bys o)).length (FP (bys o)))))
                              else False
                            else False
                        else False) ∧
              (∀ (o : List UInt8) (h : Nat),
                  o ≠ [] →
                    o.length ≤ 2 * s.length →
                      h < 4 →
                        LB s = o ++ [B64.let64 (h * 16)] →
                          bif
                              true &&
                                  (IntKind.u64.wrap
                                          (↑(BitVec.ofInt 64
                                                    ((IntKind.u64.wrap
                                                          (↑(BitVec.ofInt 64 (IntKind.u64.wrap ((↑h : Int) * 16)) |||
                                                                  BitVec.ofInt 64 0).toNat :
                                                            Int)).fdiv
                                                      1) &&&
                                                  BitVec.ofInt 64 63).toNat :
                                            Int)).toNat.blt
                                    64 &&
                                ((bys o).length.beq o.length && o.length.ble 1000000) then
                            Fits 0 [V.ptr 0 0]
                                (fxJ
                                  {
                                    cs :=
                                      bys o ++
                                        [V.int IntKind.u8
                                            (↑(B64.let64
                                                    (IntKind.u64.wrap
                                                        (↑(BitVec.ofInt 64
                                                                  ((IntKind.u64.wrap
                                                                        (↑(BitVec.ofInt 64
                                                                                  (IntKind.u64.wrap ((↑h : Int) * 16)) |||
                                                                                BitVec.ofInt 64 0).toNat :
                                                                          Int)).fdiv
                                                                    1) &&&
                                                                BitVec.ofInt 64 63).toNat :
                                                          Int)).toNat).toNat :
                                              Int)] })
                                [some (V.ptr 0 0)]
                                [Blk.row [V.slice 8 0 (o.length + 1) false 0 0] 37 1, Blk.row [V.int IntKind.i64 6] 3 1,
                                  Blk.row [V.func (Fn.func 26) [] [V.ptr 0 0]] 41 1,
                                  Blk.row
                                    [V.int IntKind.u64
                                        (IntKind.u64.wrap
                                          (↑(BitVec.ofInt 64
                                                    (IntKind.u64.wrap
                                                      (↑(BitVec.ofInt 64 (IntKind.u64.wrap ((↑h : Int) * 16)) |||
                                                              BitVec.ofInt 64 0).toNat :
                                                        Int)) &&&
                                                  BitVec.ofInt 64 0).toNat :
                                            Int))]
                                    38 1,
                                  Blk.row [V.int IntKind.i64 0] 3 1, Blk.row (bys s) 5 1, Blk.dead,
                                  Blk.row
                                    [V.int IntKind.u8
                                        (↑(B64.let64
                                                (IntKind.u64.wrap
                                                    (↑(BitVec.ofInt 64
                                                              ((IntKind.u64.wrap
                                                                    (↑(BitVec.ofInt 64
                                                                              (IntKind.u64.wrap ((↑h : Int) * 16)) |||
                                                                            BitVec.ofInt 64 0).toNat :
                                                                      Int)).fdiv
                                                                1) &&&
                                                            BitVec.ofInt 64 63).toNat :
                                                      Int)).toNat).toNat :
                                          Int)]
                                    5 1,
                                  Blk.row
                                    (bys o ++
                                      [V.int IntKind.u8
                                          (↑(B64.let64
                                                  (IntKind.u64.wrap
                                                      (↑(BitVec.ofInt 64
                                                                ((IntKind.u64.wrap
                                                                      (↑(BitVec.ofInt 64
                                                                                (IntKind.u64.wrap ((↑h : Int) * 16)) |||
                                                                              BitVec.ofInt 64 0).toNat :
                                                                        Int)).fdiv
                                                                  1) &&&
                                                              BitVec.ofInt 64 63).toNat :
                                                        Int)).toNat).toNat :
                                            Int)])
                                    5 1] ∧
                              bif
                                  fxPre
                                    {
                                      cs :=
                                        bys o ++
                                          [V.int IntKind.u8
                                              (↑(B64.let64
                                                      (IntKind.u64.wrap
                                                          (↑(BitVec.ofInt 64
                                                                    ((IntKind.u64.wrap
                                                                          (↑(BitVec.ofInt 64
                                                                                    (IntKind.u64.wrap ((↑h : Int) * 16)) |||
                                                                                  BitVec.ofInt 64 0).toNat :
                                                                            Int)).fdiv
                                                                      1) &&&
                                                                  BitVec.ofInt 64 63).toNat :
                                                            Int)).toNat).toNat :
                                                Int)] } then
                                bif
                                    (bys o ++
                                            [V.int IntKind.u8
                                                (↑(B64.let64
                                                        (IntKind.u64.wrap
                                                            (↑(BitVec.ofInt 64
                                                                      ((IntKind.u64.wrap
                                                                            (↑(BitVec.ofInt 64
                                                                                      (IntKind.u64.wrap
                                                                                        ((↑h : Int) * 16)) |||
                                                                                    BitVec.ofInt 64 0).toNat :
                                                                              Int)).fdiv
                                                                        1) &&&
                                                                    BitVec.ofInt 64 63).toNat :
                                                              Int)).toNat).toNat :
                                                  Int)]).length.beq
                                      0 then
                                  R (V.str [])
                                else
                                  bif
                                      (0 +
                                            (FP
                                                (bys o ++
                                                  [V.int IntKind.u8
                                                      (↑(B64.let64
                                                              (IntKind.u64.wrap
                                                                  (↑(BitVec.ofInt 64
                                                                            ((IntKind.u64.wrap
                                                                                  (↑(BitVec.ofInt 64
                                                                                            (IntKind.u64.wrap
                                                                                              ((↑h : Int) * 16)) |||
                                                                                          BitVec.ofInt 64 0).toNat :
                                                                                    Int)).fdiv
                                                                              1) &&&
                                                                          BitVec.ofInt 64 63).toNat :
                                                                    Int)).toNat).toNat :
                                                        Int)])).length).ble
                                        (FP
                                            (bys o ++
                                              [V.int IntKind.u8
                                                  (↑(B64.let64
                                                          (IntKind.u64.wrap
                                                              (↑(BitVec.ofInt 64
                                                                        ((IntKind.u64.wrap
                                                                              (↑(BitVec.ofInt 64
                                                                                        (IntKind.u64.wrap
                                                                                          ((↑h : Int) * 16)) |||
                                                                                      BitVec.ofInt 64 0).toNat :
                                                                                Int)).fdiv
                                                                          1) &&&
                                                                      BitVec.ofInt 64 63).toNat :
                                                                Int)).toNat).toNat :
                                                    Int)])).length then
                                    bif
                                        (List.take
                                              (FP
                                                  (bys o ++
                                                    [V.int IntKind.u8
                                                        (↑(B64.let64
                                                                (IntKind.u64.wrap
                                                                    (↑(BitVec.ofInt 64
                                                                              ((IntKind.u64.wrap
                                                                                    (↑(BitVec.ofInt 64
                                                                                              (IntKind.u64.wrap
                                                                                                ((↑h : Int) * 16)) |||
                                                                                            BitVec.ofInt 64 0).toNat :
                                                                                      Int)).fdiv
                                                                                1) &&&
                                                                            BitVec.ofInt 64 63).toNat :
                                                                      Int)).toNat).toNat :
                                                          Int)])).length
                                              (FP
                                                (bys o ++
                                                  [V.int IntKind.u8
                                                      (↑(B64.let64
                                                              (IntKind.u64.wrap
                                                                  (↑(BitVec.ofInt 64
                                                                            ((IntKind.u64.wrap
                                                                                  (↑(BitVec.ofInt 64
                                                                                            (IntKind.u64.wrap
                                                                                              ((↑h : Int) * 16)) |||
                                                                                          BitVec.ofInt 64 0).toNat :
                                                                                    Int)).fdiv
                                                                              1) &&&
                                                                          BitVec.ofInt 64 63).toNat :
                                                                    Int)).toNat).toNat :
                                                        Int)]))).all
                                          isByte then
                                      R
                                        (V.str
                                          (List.map Vm.byteOf
                                            (List.take
                                              (FP
                                                  (bys o ++
                                                    [V.int IntKind.u8
                                                        (↑(B64.let64
                                                                (IntKind.u64.wrap
                                                                    (↑(BitVec.ofInt 64
                                                                              ((IntKind.u64.wrap
                                                                                    (↑(BitVec.ofInt 64
                                                                                              (IntKind.u64.wrap
                                                                                                ((↑h : Int) * 16)) |||
                                                                                            BitVec.ofInt 64 0).toNat :
                                                                                      Int)).fdiv
                                                                                1) &&&
                                                                            BitVec.ofInt 64 63).toNat :
                                                                      Int)).toNat).toNat :
                                                          Int)])).length
                                              (FP
                                                (bys o ++
                                                  [V.int IntKind.u8
                                                      (↑(B64.let64
                                                              (IntKind.u64.wrap
                                                                  (↑(BitVec.ofInt 64
                                                                            ((IntKind.u64.wrap
                                                                                  (↑(BitVec.ofInt 64
                                                                                            (IntKind.u64.wrap
                                                                                              ((↑h : Int) * 16)) |||
                                                                                          BitVec.ofInt 64 0).toNat :
                                                                                    Int)).fdiv
                                                                              1) &&&
                                                                          BitVec.ofInt 64 63).toNat :
                                                                    Int)).toNat).toNat :
                                                        Int)])))))
                                    else False
                                  else False
                              else False
                          else False) ∧
                ∀ (o : List UInt8) (h : Nat),
                  o ≠ [] →
                    o.length ≤ 2 * s.length →
                      h < 16 →
                        LB s = o ++ [B64.let64 (h * 4)] →
                          bif
                              true &&
                                  (IntKind.u64.wrap
                                          (↑(BitVec.ofInt 64
                                                    ((IntKind.u64.wrap
                                                          (↑(BitVec.ofInt 64 (IntKind.u64.wrap ((↑h : Int) * 4)) |||
                                                                  BitVec.ofInt 64 0).toNat :
                                                            Int)).fdiv
                                                      1) &&&
                                                  BitVec.ofInt 64 63).toNat :
                                            Int)).toNat.blt
                                    64 &&
                                ((bys o).length.beq o.length && o.length.ble 1000000) then
                            Fits 0 [V.ptr 0 0]
                                (fxJ
                                  {
                                    cs :=
                                      bys o ++
                                        [V.int IntKind.u8
                                            (↑(B64.let64
                                                    (IntKind.u64.wrap
                                                        (↑(BitVec.ofInt 64
                                                                  ((IntKind.u64.wrap
                                                                        (↑(BitVec.ofInt 64
                                                                                  (IntKind.u64.wrap ((↑h : Int) * 4)) |||
                                                                                BitVec.ofInt 64 0).toNat :
                                                                          Int)).fdiv
                                                                    1) &&&
                                                                BitVec.ofInt 64 63).toNat :
                                                          Int)).toNat).toNat :
                                              Int)] })
                                [some (V.ptr 0 0)]
                                [Blk.row [V.slice 8 0 (o.length + 1) false 0 0] 37 1, Blk.row [V.int IntKind.i64 6] 3 1,
                                  Blk.row [V.func (Fn.func 26) [] [V.ptr 0 0]] 41 1,
                                  Blk.row
                                    [V.int IntKind.u64
                                        (IntKind.u64.wrap
                                          (↑(BitVec.ofInt 64
                                                    (IntKind.u64.wrap
                                                      (↑(BitVec.ofInt 64 (IntKind.u64.wrap ((↑h : Int) * 4)) |||
                                                              BitVec.ofInt 64 0).toNat :
                                                        Int)) &&&
                                                  BitVec.ofInt 64 0).toNat :
                                            Int))]
                                    38 1,
                                  Blk.row [V.int IntKind.i64 0] 3 1, Blk.row (bys s) 5 1, Blk.dead,
                                  Blk.row
                                    [V.int IntKind.u8
                                        (↑(B64.let64
                                                (IntKind.u64.wrap
                                                    (↑(BitVec.ofInt 64
                                                              ((IntKind.u64.wrap
                                                                    (↑(BitVec.ofInt 64
                                                                              (IntKind.u64.wrap ((↑h : Int) * 4)) |||
                                                                            BitVec.ofInt 64 0).toNat :
                                                                      Int)).fdiv
                                                                1) &&&
                                                            BitVec.ofInt 64 63).toNat :
                                                      Int)).toNat).toNat :
                                          Int)]
                                    5 1,
                                  Blk.row
                                    (bys o ++
                                      [V.int IntKind.u8
                                          (↑(B64.let64
                                                  (IntKind.u64.wrap
                                                      (↑(BitVec.ofInt 64
                                                                ((IntKind.u64.wrap
                                                                      (↑(BitVec.ofInt 64
                                                                                (IntKind.u64.wrap ((↑h : Int) * 4)) |||
                                                                              BitVec.ofInt 64 0).toNat :
                                                                        Int)).fdiv
                                                                  1) &&&
                                                              BitVec.ofInt 64 63).toNat :
                                                        Int)).toNat).toNat :
                                            Int)])
                                    5 1] ∧
                              bif
                                  fxPre
                                    {
                                      cs :=
                                        bys o ++
                                          [V.int IntKind.u8
                                              (↑(B64.let64
                                                      (IntKind.u64.wrap
                                                          (↑(BitVec.ofInt 64
                                                                    ((IntKind.u64.wrap
                                                                          (↑(BitVec.ofInt 64
                                                                                    (IntKind.u64.wrap ((↑h : Int) * 4)) |||
                                                                                  BitVec.ofInt 64 0).toNat :
                                                                            Int)).fdiv
                                                                      1) &&&
                                                                  BitVec.ofInt 64 63).toNat :
                                                            Int)).toNat).toNat :
                                                Int)] } then
                                bif
                                    (bys o ++
                                            [V.int IntKind.u8
                                                (↑(B64.let64
                                                        (IntKind.u64.wrap
                                                            (↑(BitVec.ofInt 64
                                                                      ((IntKind.u64.wrap
                                                                            (↑(BitVec.ofInt 64
                                                                                      (IntKind.u64.wrap
                                                                                        ((↑h : Int) * 4)) |||
                                                                                    BitVec.ofInt 64 0).toNat :
                                                                              Int)).fdiv
                                                                        1) &&&
                                                                    BitVec.ofInt 64 63).toNat :
                                                              Int)).toNat).toNat :
                                                  Int)]).length.beq
                                      0 then
                                  R (V.str [])
                                else
                                  bif
                                      (0 +
                                            (FP
                                                (bys o ++
                                                  [V.int IntKind.u8
                                                      (↑(B64.let64
                                                              (IntKind.u64.wrap
                                                                  (↑(BitVec.ofInt 64
                                                                            ((IntKind.u64.wrap
                                                                                  (↑(BitVec.ofInt 64
                                                                                            (IntKind.u64.wrap
                                                                                              ((↑h : Int) * 4)) |||
                                                                                          BitVec.ofInt 64 0).toNat :
                                                                                    Int)).fdiv
                                                                              1) &&&
                                                                          BitVec.ofInt 64 63).toNat :
                                                                    Int)).toNat).toNat :
                                                        Int)])).length).ble
                                        (FP
                                            (bys o ++
                                              [V.int IntKind.u8
                                                  (↑(B64.let64
                                                          (IntKind.u64.wrap
                                                              (↑(BitVec.ofInt 64
                                                                        ((IntKind.u64.wrap
                                                                              (↑(BitVec.ofInt 64
                                                                                        (IntKind.u64.wrap
                                                                                          ((↑h : Int) * 4)) |||
                                                                                      BitVec.ofInt 64 0).toNat :
                                                                                Int)).fdiv
                                                                          1) &&&
                                                                      BitVec.ofInt 64 63).toNat :
                                                                Int)).toNat).toNat :
                                                    Int)])).length then
                                    bif
                                        (List.take
                                              (FP
                                                  (bys o ++
                                                    [V.int IntKind.u8
                                                        (↑(B64.let64
                                                                (IntKind.u64.wrap
                                                                    (↑(BitVec.ofInt 64
                                                                              ((IntKind.u64.wrap
                                                                                    (↑(BitVec.ofInt 64
                                                                                              (IntKind.u64.wrap
                                                                                                ((↑h : Int) * 4)) |||
                                                                                            BitVec.ofInt 64 0).toNat :
                                                                                      Int)).fdiv
                                                                                1) &&&
                                                                            BitVec.ofInt 64 63).toNat :
                                                                      Int)).toNat).toNat :
                                                          Int)])).length
                                              (FP
                                                (bys o ++
                                                  [V.int IntKind.u8
                                                      (↑(B64.let64
                                                              (IntKind.u64.wrap
                                                                  (↑(BitVec.ofInt 64
                                                                            ((IntKind.u64.wrap
                                                                                  (↑(BitVec.ofInt 64
                                                                                            (IntKind.u64.wrap
                                                                                              ((↑h : Int) * 4)) |||
                                                                                          BitVec.ofInt 64 0).toNat :
                                                                                    Int)).fdiv
                                                                              1) &&&
                                                                          BitVec.ofInt 64 63).toNat :
                                                                    Int)).toNat).toNat :
                                                        Int)]))).all
                                          isByte then
                                      R
                                        (V.str
                                          (List.map Vm.byteOf
                                            (List.take
                                              (FP
                                                  (bys o ++
                                                    [V.int IntKind.u8
                                                        (↑(B64.let64
                                                                (IntKind.u64.wrap
                                                                    (↑(BitVec.ofInt 64
                                                                              ((IntKind.u64.wrap
                                                                                    (↑(BitVec.ofInt 64
                                                                                              (IntKind.u64.wrap
                                                                                                ((↑h : Int) * 4)) |||
                                                                                            BitVec.ofInt 64 0).toNat :
                                                                                      Int)).fdiv
                                                                                1) &&&
                                                                            BitVec.ofInt 64 63).toNat :
                                                                      Int)).toNat).toNat :
                                                          Int)])).length
                                              (FP
                                                (bys o ++
                                                  [V.int IntKind.u8
                                                      (↑(B64.let64
                                                              (IntKind.u64.wrap
                                                                  (↑(BitVec.ofInt 64
                                                                            ((IntKind.u64.wrap
                                                                                  (↑(BitVec.ofInt 64
                                                                                            (IntKind.u64.wrap
                                                                                              ((↑h : Int) * 4)) |||
                                                                                          BitVec.ofInt 64 0).toNat :
                                                                                    Int)).fdiv
                                                                              1) &&&
                                                                          BitVec.ofInt 64 63).toNat :
                                                                    Int)).toNat).toNat :
                                                        Int)])))))
                                    else False
                                  else False
                              else False
                          else False
        else False
    else False) := by kernel_rfl
theorem letB_len (s : List UInt8) : (letB s).length = (s.length * 4 + 2) / 3 := by unfold letB; rw [List.length_map, B64.body_len]
theorem fxP_b64 (s : List UInt8) : fxP (bys (letB s)) = bys (B64.b64 s) := by
  unfold fxP
  rw [bys_len, B64.b64_body, bys_append]
  congr 1
  have : fxN (letB s).length = B64.fillN s.length := by
    rw [B64.fill_body]; unfold letB fxN; rw [List.length_map]
  rw [this]
  unfold bys
  rw [List.map_replicate]; rfl
def b64T : List V → Option (List (Bool × (V × St)))
  | [.str s] => some [(okL s, (.str (B64.b64 s), []))]
  | _ => none
theorem fx_ready {o : List UInt8} (h : o.length ≤ 1000000) : fxPre ⟨bys o⟩ = true := by
  unfold fxPre
  rw [Bool.and_eq_true]
  exact ⟨bys_flat o, Nat.ble_eq_true_of_le (by show (bys o).length ≤ _; rw [bys_len]; exact h)⟩
theorem fx_ne {o : List UInt8} (h : o ≠ []) : Nat.beq (bys o).length 0 = false := by
  cases o with
  | nil => exact absurd rfl h
  | cons c r => rfl
theorem fx_J {o : List UInt8} (h : o ≠ []) : fxJ ⟨bys o⟩ = [.row [.slice 1 0 (bys o).length false 0 0] 37 1, .row (bys o) 5 1] := by
  cases o with
  | nil => exact absurd rfl h
  | cons c r => rfl
theorem b64_ok (args : List V) (l : List (Bool × (V × St))) (o : V × St) (h : b64T args = some l) (ho : pickO l = some o) : FnSat Tryd.prog 12 args [] (Is o) := by
  unfold b64T at h
  split at h
  · rename_i s
    cases h
    cases hk : okL s with
    | false => rw [hk] at ho; cases ho
    | true =>
      rw [hk] at ho
      cases ho
      have p1 := okL_le hk
      have hlen := letB_len s
      refine pureW_of (lim := 9) (n := 10) mixed TB2_ok rfl rfl ?_
      rw [b64_tree]
      have fin : letB s ≠ [] → (bif Nat.beq (bys (letB s)).length 0 then V.str [] = V.str (B64.b64 s) else must (Nat.ble (0 + (fxP (bys (letB s))).length) (fxP (bys (letB s))).length) (must ((List.take (fxP (bys (letB s))).length (fxP (bys (letB s)))).all isByte) (V.str (List.map Vm.byteOf (List.take (fxP (bys (letB s))).length (fxP (bys (letB s))))) = V.str (B64.b64 s)))) := by
        intro hne
        rw [fx_ne hne, cond_false, fxP_b64, List.take_length]
        refine must_intro (Nat.ble_eq_true_of_le (by omega)) (must_intro (isByte_bys _) ?_)
        rw [byteOf_bys]
      refine must_intro (Nat.ble_eq_true_of_le (by omega)) ⟨b6x_fits0 s _ _ _ _, must_intro ?_ ⟨fun he => ⟨fx_fits0 _ rfl, ?_⟩, fun o hne hl he => ?_, fun o h hne hl hh he => ?_, fun o h hne hl hh he => ?_⟩⟩
      · unfold b6xPre
        simp only [Bool.and_eq_true]
        refine ⟨hk, rfl, rfl, rfl, rfl, ?_⟩
        show (letB s == [] ++ encL 0 0 s) = true
        unfold encL
        rw [enc_body]; exact beq_self_eq_true _
      · have hs : s = [] := by
          rw [he] at hlen
          exact List.length_eq_zero_iff.1 (by simp only [List.length_nil] at hlen; omega)
        subst hs; rfl
      · subst he
        rw [fx_J hne]
        refine ⟨?_, must_intro (fx_ready (by omega)) (fin hne)⟩
        have := fx_fits (bys (letB s)) (bys_flat _) (bys (letB s)).length 6
        rw [bys_len] at this ⊢
        exact this _ rfl rfl (by omega)
      · have e16 : (h : Int) * 16 = ((h * 16 : Nat) : Int) := by omega
        have hq : h * 16 % 64 = h * 16 := by omega
        simp only [e16, or0 (a := h * 16) (by omega), fd1, and63 (x := h * 16) (by omega), Int.toNat_natCast, hq, snoc_b, ← he]
        have hne2 : letB s ≠ [] := by rw [he]; simp
        rw [fx_J hne2]
        refine must_intro ?_ ⟨?_, must_intro (fx_ready (by omega)) (fin hne2)⟩
        · simp only [Bool.true_and, Bool.and_eq_true]; exact ⟨Nat.ble_eq_true_of_le (by omega), by rw [bys_len]; exact Nat.beq_refl _, Nat.ble_eq_true_of_le (by omega)⟩
        · have e : (bys (letB s)).length = o.length + 1 := by rw [bys_len, he, List.length_append, List.length_singleton]
          rw [e]
          exact fx_fits (bys (letB s)) (bys_flat _) _ 8 _ rfl rfl (by omega)
      · have e4 : (h : Int) * 4 = ((h * 4 : Nat) : Int) := by omega
        have hq : h * 4 % 64 = h * 4 := by omega
        simp only [e4, or0 (a := h * 4) (by omega), fd1, and63 (x := h * 4) (by omega), Int.toNat_natCast, hq, snoc_b, ← he]
        have hne2 : letB s ≠ [] := by rw [he]; simp
        rw [fx_J hne2]
        refine must_intro ?_ ⟨?_, must_intro (fx_ready (by omega)) (fin hne2)⟩
        · simp only [Bool.true_and, Bool.and_eq_true]; exact ⟨Nat.ble_eq_true_of_le (by omega), by rw [bys_len]; exact Nat.beq_refl _, Nat.ble_eq_true_of_le (by omega)⟩
        · have e : (bys (letB s)).length = o.length + 1 := by rw [bys_len, he, List.length_append, List.length_singleton]
          rw [e]
          exact fx_fits (bys (letB s)) (bys_flat _) _ 8 _ rfl rfl (by omega)
  · cases h
end Go.Proofs.YtlgapohnmcmhdaaDoor
