/- The program's digest of bytes: what it comes to. -/
import Derived.Test.YthcoeoibejgaiaaDoorBys
namespace Go.Proofs.YthcoeoibejgaiaaDoor
open Go Go.Vm Go.RowKit
set_option linter.unusedVariables false
set_option maxRecDepth 100000
set_option linter.unusedSectionVars false
variable [Φ : Frz]
def mixTG (OK : List V → Bool) (M : W8 → List V → W8) : List V → Option (List (Bool × (V × St)))
 | [.agg [.int .u32 a, .int .u32 b, .int .u32 c, .int .u32 d, .int .u32 e, .int .u32 f, .int .u32 g, .int .u32 h], .agg ws] => some [(OK ws, (.agg (M ⟨a, b, c, d, e, f, g, h⟩ ws).cells, []))]
 | _ => none
def blkTG (OB : List V → Nat → Bool) (BL : List V → Nat → Nat → Int) : List V → St → Option (List (Bool × (V × St)))
 | [.slice 0 off 64 false c z], [.ro false la] => some [(OB la off, (.agg (cells64 (BL la off)), []))]
 | _, _ => none
noncomputable def TD (OK : List V → Bool) (M : W8 → List V → W8) (OB : List V → Nat → Bool) (BL : List V → Nat → Nat → Int) : Tab := ⟨addT noT 49 (mixTG OK M), addM noL 50 (blkTG OB BL), noLks 10⟩
theorem d1_round (s : List UInt8) (cs v : List V) (k : Nat) (R : Exit → List (Option V) → St → Prop) : roundW Tryd.prog T3 9 10 (rounds 9) 28 60 [0,3,4] [.str s, .ptr 0 0, .slice 1 0 k false 0 0] [.row v 86 8, .row cs 5 1] R =
  (
 bif (↑k : Int).tmod 64 != 56 then bif cs.length.beq (k * 1) then bif (k + 1).ble 9223372036854775807 && ((k + 1) * 1).ble 140737488355328 then R Exit.normal [some (V.str
 s), some (V.ptr 0 0), some (V.slice 3 0 (k + 1) false 0 0)] [Blk.row v 86 8, Blk.dead, Blk.row [V.int IntKind.u8 0] 5 1, Blk.row (cs ++ [V.int IntKind.u8 0]) 5 1] else
 False else False else R (Exit.exit 0) [some (V.str s), some (V.ptr 0 0), some (V.slice 1 0 k false 0 0)] [Blk.row v 86 8, Blk.row cs 5 1]) := by kernel_rfl
theorem d3_round (OK : List V → Bool) (M : W8 → List V → W8) (OB : List V → Nat → Bool) (BL : List V → Nat → Nat → Int) (a b c d e f g h : Int) (la : List V) (off len cc z : Nat) (R : Exit → List (Option V) → St → Prop) : roundW Tryd.prog (TD OK M OB BL) 10 10 (rounds 10) 28 508 [3,4] [.ptr 0 0, .slice 1 off len false cc z] [.row [.int .u32 a, .int .u32 b, .int .u32 c, .int .u32 d, .int .u32 e, .int .u32 f, .int .u32 g, .int .u32 h] 86 8, .row la 5 1] R =
  (
 bif decide ((↑len : Int) > 0) then bif true && Nat.ble 64 len then bif OB la (off + 0) then bif OK [V.int IntKind.u32 (BL la (off + 0) 0), V.int IntKind.u32 (BL la (off +
 0) 1), V.int IntKind.u32 (BL la (off + 0) 2), V.int IntKind.u32 (BL la (off + 0) 3), V.int IntKind.u32 (BL la (off + 0) 4), V.int IntKind.u32 (BL la (off + 0) 5), V.int
 IntKind.u32 (BL la (off + 0) 6), V.int IntKind.u32 (BL la (off + 0) 7), V.int IntKind.u32 (BL la (off + 0) 8), V.int IntKind.u32 (BL la (off + 0) 9), V.int IntKind.u32
 (BL la (off + 0) 10), V.int IntKind.u32 (BL la (off + 0) 11), V.int IntKind.u32 (BL la (off + 0) 12), V.int IntKind.u32 (BL la (off + 0) 13), V.int IntKind.u32 (BL la
 (off + 0) 14), V.int IntKind.u32 (BL la (off + 0) 15), V.int IntKind.u32 (BL la (off + 0) 16), V.int IntKind.u32 (BL la (off + 0) 17), V.int IntKind.u32 (BL la (off + 0)
 18), V.int IntKind.u32 (BL la (off + 0) 19), V.int IntKind.u32 (BL la (off + 0) 20), V.int IntKind.u32 (BL la (off + 0) 21), V.int IntKind.u32 (BL la (off + 0) 22), V.int
 IntKind.u32 (BL la (off + 0) 23), V.int IntKind.u32 (BL la (off + 0) 24), V.int IntKind.u32 (BL la (off + 0) 25), V.int IntKind.u32 (BL la (off + 0) 26), V.int
 IntKind.u32 (BL la (off + 0) 27), V.int IntKind.u32 (BL la (off + 0) 28), V.int IntKind.u32 (BL la (off + 0) 29), V.int IntKind.u32 (BL la (off + 0) 30), V.int
 IntKind.u32 (BL la (off + 0) 31), V.int IntKind.u32 (BL la (off + 0) 32), V.int IntKind.u32 (BL la (off + 0) 33), V.int IntKind.u32 (BL la (off + 0) 34), V.int
 IntKind.u32 (BL la (off + 0) 35), V.int IntKind.u32 (BL la (off + 0) 36), V.int IntKind.u32 (BL la (off + 0) 37), V.int IntKind.u32 (BL la (off + 0) 38), V.int
 IntKind.u32 (BL la (off + 0) 39), V.int IntKind.u32 (BL la (off + 0) 40), V.int IntKind.u32 (BL la (off + 0) 41), V.int IntKind.u32 (BL la (off + 0) 42), V.int
 IntKind.u32 (BL la (off + 0) 43), V.int IntKind.u32 (BL la (off + 0) 44), V.int IntKind.u32 (BL la (off + 0) 45), V.int IntKind.u32 (BL la (off + 0) 46), V.int
 IntKind.u32 (BL la (off + 0) 47), V.int IntKind.u32 (BL la (off + 0) 48), V.int IntKind.u32 (BL la (off + 0) 49), V.int IntKind.u32 (BL la (off + 0) 50), V.int
 IntKind.u32 (BL la (off + 0) 51), V.int IntKind.u32 (BL la (off + 0) 52), V.int IntKind.u32 (BL la (off + 0) 53), V.int IntKind.u32 (BL la (off + 0) 54), V.int
 IntKind.u32 (BL la (off + 0) 55), V.int IntKind.u32 (BL la (off + 0) 56), V.int IntKind.u32 (BL la (off + 0) 57), V.int IntKind.u32 (BL la (off + 0) 58), V.int
 IntKind.u32 (BL la (off + 0) 59), V.int IntKind.u32 (BL la (off + 0) 60), V.int IntKind.u32 (BL la (off + 0) 61), V.int IntKind.u32 (BL la (off + 0) 62), V.int
 IntKind.u32 (BL la (off + 0) 63)] then bif Nat.ble 64 len && len.ble len then R Exit.normal [some (V.ptr 0 0), some (V.slice 1 (off + 64) (len - 64) false (if false =
 true then cc - 64 else cc + 64) (if 64 = 0 then z else off))] [Blk.row [V.int IntKind.u32 (M { a := a, b := b, c := c, d := d, e := e, f := f, g := g, h := h } [V.int
 IntKind.u32 (BL la (off + 0) 0), V.int IntKind.u32 (BL la (off + 0) 1), V.int IntKind.u32 (BL la (off + 0) 2), V.int IntKind.u32 (BL la (off + 0) 3), V.int IntKind.u32
 (BL la (off + 0) 4), V.int IntKind.u32 (BL la (off + 0) 5), V.int IntKind.u32 (BL la (off + 0) 6), V.int IntKind.u32 (BL la (off + 0) 7), V.int IntKind.u32 (BL la (off +
 0) 8), V.int IntKind.u32 (BL la (off + 0) 9), V.int IntKind.u32 (BL la (off + 0) 10), V.int IntKind.u32 (BL la (off + 0) 11), V.int IntKind.u32 (BL la (off + 0) 12),
 V.int IntKind.u32 (BL la (off + 0) 13), V.int IntKind.u32 (BL la (off + 0) 14), V.int IntKind.u32 (BL la (off + 0) 15), V.int IntKind.u32 (BL la (off + 0) 16), V.int
 IntKind.u32 (BL la (off + 0) 17), V.int IntKind.u32 (BL la (off + 0) 18), V.int IntKind.u32 (BL la (off + 0) 19), V.int IntKind.u32 (BL la (off + 0) 20), V.int
 IntKind.u32 (BL la (off + 0) 21), V.int IntKind.u32 (BL la (off + 0) 22), V.int IntKind.u32 (BL la (off + 0) 23), V.int IntKind.u32 (BL la (off + 0) 24), V.int
 IntKind.u32 (BL la (off + 0) 25), V.int IntKind.u32 (BL la (off + 0) 26), V.int IntKind.u32 (BL la (off + 0) 27), V.int IntKind.u32 (BL la (off + 0) 28), V.int
 IntKind.u32 (BL la (off + 0) 29), V.int IntKind.u32 (BL la (off + 0) 30), V.int IntKind.u32 (BL la (off + 0) 31), V.int IntKind.u32 (BL la (off + 0) 32), V.int
 IntKind.u32 (BL la (off + 0) 33), V.int IntKind.u32 (BL la (off + 0) 34), V.int IntKind.u32 (BL la (off + 0) 35), V.int IntKind.u32 (BL la (off + 0) 36), V.int
 IntKind.u32 (BL la (off + 0) 37), V.int IntKind.u32 (BL la (off + 0) 38), V.int IntKind.u32 (BL la (off + 0) 39), V.int IntKind.u32 (BL la (off + 0) 40), V.int
 IntKind.u32 (BL la (off + 0) 41), V.int IntKind.u32 (BL la (off + 0) 42), V.int IntKind.u32 (BL la (off + 0) 43), V.int IntKind.u32 (BL la (off + 0) 44), V.int
 IntKind.u32 (BL la (off + 0) 45), V.int IntKind.u32 (BL la (off + 0) 46), V.int IntKind.u32 (BL la (off + 0) 47), V.int IntKind.u32 (BL la (off + 0) 48), V.int
 IntKind.u32 (BL la (off + 0) 49), V.int IntKind.u32 (BL la (off + 0) 50), V.int IntKind.u32 (BL la (off + 0) 51), V.int IntKind.u32 (BL la (off + 0) 52), V.int
 IntKind.u32 (BL la (off + 0) 53), V.int IntKind.u32 (BL la (off + 0) 54), V.int IntKind.u32 (BL la (off + 0) 55), V.int IntKind.u32 (BL la (off + 0) 56), V.int
 IntKind.u32 (BL la (off + 0) 57), V.int IntKind.u32 (BL la (off + 0) 58), V.int IntKind.u32 (BL la (off + 0) 59), V.int IntKind.u32 (BL la (off + 0) 60), V.int
 IntKind.u32 (BL la (off + 0) 61), V.int IntKind.u32 (BL la (off + 0) 62), V.int IntKind.u32 (BL la (off + 0) 63)]).a, V.int IntKind.u32 (M { a := a, b := b, c := c, d := d, e := e, f := f, g := g, h := h }
 [V.int IntKind.u32 (BL la (off + 0) 0), V.int IntKind.u32 (BL la (off + 0) 1), V.int IntKind.u32 (BL la (off + 0) 2), V.int IntKind.u32 (BL la (off + 0) 3), V.int
 IntKind.u32 (BL la (off + 0) 4), V.int IntKind.u32 (BL la (off + 0) 5), V.int IntKind.u32 (BL la (off + 0) 6), V.int IntKind.u32 (BL la (off + 0) 7), V.int IntKind.u32
 (BL la (off + 0) 8), V.int IntKind.u32 (BL la (off + 0) 9), V.int IntKind.u32 (BL la (off + 0) 10), V.int IntKind.u32 (BL la (off + 0) 11), V.int IntKind.u32 (BL la (off
 + 0) 12), V.int IntKind.u32 (BL la (off + 0) 13), V.int IntKind.u32 (BL la (off + 0) 14), V.int IntKind.u32 (BL la (off + 0) 15), V.int IntKind.u32 (BL la (off + 0) 16),
 V.int IntKind.u32 (BL la (off + 0) 17), V.int IntKind.u32 (BL la (off + 0) 18), V.int IntKind.u32 (BL la (off + 0) 19), V.int IntKind.u32 (BL la (off + 0) 20), V.int
 IntKind.u32 (BL la (off + 0) 21), V.int IntKind.u32 (BL la (off + 0) 22), V.int IntKind.u32 (BL la (off + 0) 23), V.int IntKind.u32 (BL la (off + 0) 24), V.int
 IntKind.u32 (BL la (off + 0) 25), V.int IntKind.u32 (BL la (off + 0) 26), V.int IntKind.u32 (BL la (off + 0) 27), V.int IntKind.u32 (BL la (off + 0) 28), V.int
 IntKind.u32 (BL la (off + 0) 29), V.int IntKind.u32 (BL la (off + 0) 30), V.int IntKind.u32 (BL la (off + 0) 31), V.int IntKind.u32 (BL la (off + 0) 32), V.int
 IntKind.u32 (BL la (off + 0) 33), V.int IntKind.u32 (BL la (off + 0) 34), V.int IntKind.u32 (BL la (off + 0) 35), V.int IntKind.u32 (BL la (off + 0) 36), V.int
 IntKind.u32 (BL la (off + 0) 37), V.int IntKind.u32 (BL la (off + 0) 38), V.int IntKind.u32 (BL la (off + 0) 39), V.int IntKind.u32 (BL la (off + 0) 40), V.int
 IntKind.u32 (BL la (off + 0) 41), V.int IntKind.u32 (BL la (off + 0) 42), V.int IntKind.u32 (BL la (off + 0) 43), V.int IntKind.u32 (BL la (off + 0) 44), V.int
 IntKind.u32 (BL la (off + 0) 45), V.int IntKind.u32 (BL la (off + 0) 46), V.int IntKind.u32 (BL la (off + 0) 47), V.int IntKind.u32 (BL la (off + 0) 48), V.int
 IntKind.u32 (BL la (off + 0) 49), V.int IntKind.u32 (BL la (off + 0) 50), V.int IntKind.u32 (BL la (off + 0) 51), V.int IntKind.u32 (BL la (off + 0) 52), V.int
 IntKind.u32 (BL la (off + 0) 53), V.int IntKind.u32 (BL la (off + 0) 54), V.int IntKind.u32 (BL la (off + 0) 55), V.int IntKind.u32 (BL la (off + 0) 56), V.int
 IntKind.u32 (BL la (off + 0) 57), V.int IntKind.u32 (BL la (off + 0) 58), V.int IntKind.u32 (BL la (off + 0) 59), V.int IntKind.u32 (BL la (off + 0) 60), V.int
 IntKind.u32 (BL la (off + 0) 61), V.int IntKind.u32 (BL la (off + 0) 62), V.int IntKind.u32 (BL la (off + 0) 63)]).b, V.int IntKind.u32 (M { a := a, b := b, c := c, d := d, e := e, f := f, g := g, h := h }
 [V.int IntKind.u32 (BL la (off + 0) 0), V.int IntKind.u32 (BL la (off + 0) 1), V.int IntKind.u32 (BL la (off + 0) 2), V.int IntKind.u32 (BL la (off + 0) 3), V.int
 IntKind.u32 (BL la (off + 0) 4), V.int IntKind.u32 (BL la (off + 0) 5), V.int IntKind.u32 (BL la (off + 0) 6), V.int IntKind.u32 (BL la (off + 0) 7), V.int IntKind.u32
 (BL la (off + 0) 8), V.int IntKind.u32 (BL la (off + 0) 9), V.int IntKind.u32 (BL la (off + 0) 10), V.int IntKind.u32 (BL la (off + 0) 11), V.int IntKind.u32 (BL la (off
 + 0) 12), V.int IntKind.u32 (BL la (off + 0) 13), V.int IntKind.u32 (BL la (off + 0) 14), V.int IntKind.u32 (BL la (off + 0) 15), V.int IntKind.u32 (BL la (off + 0) 16),
 V.int IntKind.u32 (BL la (off + 0) 17), V.int IntKind.u32 (BL la (off + 0) 18), V.int IntKind.u32 (BL la (off + 0) 19), V.int IntKind.u32 (BL la (off + 0) 20), V.int
 IntKind.u32 (BL la (off + 0) 21), V.int IntKind.u32 (BL la (off + 0) 22), V.int IntKind.u32 (BL la (off + 0) 23), V.int IntKind.u32 (BL la (off + 0) 24), V.int
 IntKind.u32 (BL la (off + 0) 25), V.int IntKind.u32 (BL la (off + 0) 26), V.int IntKind.u32 (BL la (off + 0) 27), V.int IntKind.u32 (BL la (off + 0) 28), V.int
 IntKind.u32 (BL la (off + 0) 29), V.int IntKind.u32 (BL la (off + 0) 30), V.int IntKind.u32 (BL la (off + 0) 31), V.int IntKind.u32 (BL la (off + 0) 32), V.int
 IntKind.u32 (BL la (off + 0) 33), V.int IntKind.u32 (BL la (off + 0) 34), V.int IntKind.u32 (BL la (off + 0) 35), V.int IntKind.u32 (BL la (off + 0) 36), V.int
 IntKind.u32 (BL la (off + 0) 37), V.int IntKind.u32 (BL la (off + 0) 38), V.int IntKind.u32 (BL la (off + 0) 39), V.int IntKind.u32 (BL la (off + 0) 40), V.int
 IntKind.u32 (BL la (off + 0) 41), V.int IntKind.u32 (BL la (off + 0) 42), V.int IntKind.u32 (BL la (off + 0) 43), V.int IntKind.u32 (BL la (off + 0) 44), V.int
 IntKind.u32 (BL la (off + 0) 45), V.int IntKind.u32 (BL la (off + 0) 46), V.int IntKind.u32 (BL la (off + 0) 47), V.int IntKind.u32 (BL la (off + 0) 48), V.int
 IntKind.u32 (BL la (off + 0) 49), V.int IntKind.u32 (BL la (off + 0) 50), V.int IntKind.u32 (BL la (off + 0) 51), V.int IntKind.u32 (BL la (off + 0) 52), V.int
 IntKind.u32 (BL la (off + 0) 53), V.int IntKind.u32 (BL la (off + 0) 54), V.int IntKind.u32 (BL la (off + 0) 55), V.int IntKind.u32 (BL la (off + 0) 56), V.int
 IntKind.u32 (BL la (off + 0) 57), V.int IntKind.u32 (BL la (off + 0) 58), V.int IntKind.u32 (BL la (off + 0) 59), V.int IntKind.u32 (BL la (off + 0) 60), V.int
 IntKind.u32 (BL la (off + 0) 61), V.int IntKind.u32 (BL la (off + 0) 62), V.int IntKind.u32 (BL la (off + 0) 63)]).c, V.int IntKind.u32 (M { a := a, b := b, c := c, d := d, e := e, f := f, g := g, h := h }
 [V.int IntKind.u32 (BL la (off + 0) 0), V.int IntKind.u32 (BL la (off + 0) 1), V.int IntKind.u32 (BL la (off + 0) 2), V.int IntKind.u32 (BL la (off + 0) 3), V.int
 IntKind.u32 (BL la (off + 0) 4), V.int IntKind.u32 (BL la (off + 0) 5), V.int IntKind.u32 (BL la (off + 0) 6), V.int IntKind.u32 (BL la (off + 0) 7), V.int IntKind.u32
 (BL la (off + 0) 8), V.int IntKind.u32 (BL la (off + 0) 9), V.int IntKind.u32 (BL la (off + 0) 10), V.int IntKind.u32 (BL la (off + 0) 11), V.int IntKind.u32 (BL la (off
 + 0) 12), V.int IntKind.u32 (BL la (off + 0) 13), V.int IntKind.u32 (BL la (off + 0) 14), V.int IntKind.u32 (BL la (off + 0) 15), V.int IntKind.u32 (BL la (off + 0) 16),
 V.int IntKind.u32 (BL la (off + 0) 17), V.int IntKind.u32 (BL la (off + 0) 18), V.int IntKind.u32 (BL la (off + 0) 19), V.int IntKind.u32 (BL la (off + 0) 20), V.int
 IntKind.u32 (BL la (off + 0) 21), V.int IntKind.u32 (BL la (off + 0) 22), V.int IntKind.u32 (BL la (off + 0) 23), V.int IntKind.u32 (BL la (off + 0) 24), V.int
 IntKind.u32 (BL la (off + 0) 25), V.int IntKind.u32 (BL la (off + 0) 26), V.int IntKind.u32 (BL la (off + 0) 27), V.int IntKind.u32 (BL la (off + 0) 28), V.int
 IntKind.u32 (BL la (off + 0) 29), V.int IntKind.u32 (BL la (off + 0) 30), V.int IntKind.u32 (BL la (off + 0) 31), V.int IntKind.u32 (BL la (off + 0) 32), V.int
 IntKind.u32 (BL la (off + 0) 33), V.int IntKind.u32 (BL la (off + 0) 34), V.int IntKind.u32 (BL la (off + 0) 35), V.int IntKind.u32 (BL la (off + 0) 36), V.int
 IntKind.u32 (BL la (off + 0) 37), V.int IntKind.u32 (BL la (off + 0) 38), V.int IntKind.u32 (BL la (off + 0) 39), V.int IntKind.u32 (BL la (off + 0) 40), V.int
 IntKind.u32 (BL la (off + 0) 41), V.int IntKind.u32 (BL la (off + 0) 42), V.int IntKind.u32 (BL la (off + 0) 43), V.int IntKind.u32 (BL la (off + 0) 44), V.int
 IntKind.u32 (BL la (off + 0) 45), V.int IntKind.u32 (BL la (off + 0) 46), V.int IntKind.u32 (BL la (off + 0) 47), V.int IntKind.u32 (BL la (off + 0) 48), V.int
 IntKind.u32 (BL la (off + 0) 49), V.int IntKind.u32 (BL la (off + 0) 50), V.int IntKind.u32 (BL la (off + 0) 51), V.int IntKind.u32 (BL la (off + 0) 52), V.int
 IntKind.u32 (BL la (off + 0) 53), V.int IntKind.u32 (BL la (off + 0) 54), V.int IntKind.u32 (BL la (off + 0) 55), V.int IntKind.u32 (BL la (off + 0) 56), V.int
 IntKind.u32 (BL la (off + 0) 57), V.int IntKind.u32 (BL la (off + 0) 58), V.int IntKind.u32 (BL la (off + 0) 59), V.int IntKind.u32 (BL la (off + 0) 60), V.int
 IntKind.u32 (BL la (off + 0) 61), V.int IntKind.u32 (BL la (off + 0) 62), V.int IntKind.u32 (BL la (off + 0) 63)]).d, V.int IntKind.u32 (M { a := a, b := b, c := c, d := d, e := e, f := f, g := g, h := h }
 [V.int IntKind.u32 (BL la (off + 0) 0), V.int IntKind.u32 (BL la (off + 0) 1), V.int IntKind.u32 (BL la (off + 0) 2), V.int IntKind.u32 (BL la (off + 0) 3), V.int
 IntKind.u32 (BL la (off + 0) 4), V.int IntKind.u32 (BL la (off + 0) 5), V.int IntKind.u32 (BL la (off + 0) 6), V.int IntKind.u32 (BL la (off + 0) 7), V.int IntKind.u32
 (BL la (off + 0) 8), V.int IntKind.u32 (BL la (off + 0) 9), V.int IntKind.u32 (BL la (off + 0) 10), V.int IntKind.u32 (BL la (off + 0) 11), V.int IntKind.u32 (BL la (off
 + 0) 12), V.int IntKind.u32 (BL la (off + 0) 13), V.int IntKind.u32 (BL la (off + 0) 14), V.int IntKind.u32 (BL la (off + 0) 15), V.int IntKind.u32 (BL la (off + 0) 16),
 V.int IntKind.u32 (BL la (off + 0) 17), V.int IntKind.u32 (BL la (off + 0) 18), V.int IntKind.u32 (BL la (off + 0) 19), V.int IntKind.u32 (BL la (off + 0) 20), V.int
 IntKind.u32 (BL la (off + 0) 21), V.int IntKind.u32 (BL la (off + 0) 22), V.int IntKind.u32 (BL la (off + 0) 23), V.int IntKind.u32 (BL la (off + 0) 24), V.int
 IntKind.u32 (BL la (off + 0) 25), V.int IntKind.u32 (BL la (off + 0) 26), V.int IntKind.u32 (BL la (off + 0) 27), V.int IntKind.u32 (BL la (off + 0) 28), V.int
 IntKind.u32 (BL la (off + 0) 29), V.int IntKind.u32 (BL la (off + 0) 30), V.int IntKind.u32 (BL la (off + 0) 31), V.int IntKind.u32 (BL la (off + 0) 32), V.int
 IntKind.u32 (BL la (off + 0) 33), V.int IntKind.u32 (BL la (off + 0) 34), V.int IntKind.u32 (BL la (off + 0) 35), V.int IntKind.u32 (BL la (off + 0) 36), V.int
 IntKind.u32 (BL la (off + 0) 37), V.int IntKind.u32 (BL la (off + 0) 38), V.int IntKind.u32 (BL la (off + 0) 39), V.int IntKind.u32 (BL la (off + 0) 40), V.int
 IntKind.u32 (BL la (off + 0) 41), V.int IntKind.u32 (BL la (off + 0) 42), V.int IntKind.u32 (BL la (off + 0) 43), V.int IntKind.u32 (BL la (off + 0) 44), V.int
 IntKind.u32 (BL la (off + 0) 45), V.int IntKind.u32 (BL la (off + 0) 46), V.int IntKind.u32 (BL la (off + 0) 47), V.int IntKind.u32 (BL la (off + 0) 48), V.int
 IntKind.u32 (BL la (off + 0) 49), V.int IntKind.u32 (BL la (off + 0) 50), V.int IntKind.u32 (BL la (off + 0) 51), V.int IntKind.u32 (BL la (off + 0) 52), V.int
 IntKind.u32 (BL la (off + 0) 53), V.int IntKind.u32 (BL la (off + 0) 54), V.int IntKind.u32 (BL la (off + 0) 55), V.int IntKind.u32 (BL la (off + 0) 56), V.int
 IntKind.u32 (BL la (off + 0) 57), V.int IntKind.u32 (BL la (off + 0) 58), V.int IntKind.u32 (BL la (off + 0) 59), V.int IntKind.u32 (BL la (off + 0) 60), V.int
 IntKind.u32 (BL la (off + 0) 61), V.int IntKind.u32 (BL la (off + 0) 62), V.int IntKind.u32 (BL la (off + 0) 63)]).e, V.int IntKind.u32 (M { a := a, b := b, c := c, d := d, e := e, f := f, g := g, h := h }
 [V.int IntKind.u32 (BL la (off + 0) 0), V.int IntKind.u32 (BL la (off + 0) 1), V.int IntKind.u32 (BL la (off + 0) 2), V.int IntKind.u32 (BL la (off + 0) 3), V.int
 IntKind.u32 (BL la (off + 0) 4), V.int IntKind.u32 (BL la (off + 0) 5), V.int IntKind.u32 (BL la (off + 0) 6), V.int IntKind.u32 (BL la (off + 0) 7), V.int IntKind.u32
 (BL la (off + 0) 8), V.int IntKind.u32 (BL la (off + 0) 9), V.int IntKind.u32 (BL la (off + 0) 10), V.int IntKind.u32 (BL la (off + 0) 11), V.int IntKind.u32 (BL la (off
 + 0) 12), V.int IntKind.u32 (BL la (off + 0) 13), V.int IntKind.u32 (BL la (off + 0) 14), V.int IntKind.u32 (BL la (off + 0) 15), V.int IntKind.u32 (BL la (off + 0) 16),
 V.int IntKind.u32 (BL la (off + 0) 17), V.int IntKind.u32 (BL la (off + 0) 18), V.int IntKind.u32 (BL la (off + 0) 19), V.int IntKind.u32 (BL la (off + 0) 20), V.int
 IntKind.u32 (BL la (off + 0) 21), V.int IntKind.u32 (BL la (off + 0) 22), V.int IntKind.u32 (BL la (off + 0) 23), V.int IntKind.u32 (BL la (off + 0) 24), V.int
 IntKind.u32 (BL la (off + 0) 25), V.int IntKind.u32 (BL la (off + 0) 26), V.int IntKind.u32 (BL la (off + 0) 27), V.int IntKind.u32 (BL la (off + 0) 28), V.int
 IntKind.u32 (BL la (off + 0) 29), V.int IntKind.u32 (BL la (off + 0) 30), V.int IntKind.u32 (BL la (off + 0) 31), V.int IntKind.u32 (BL la (off + 0) 32), V.int
 IntKind.u32 (BL la (off + 0) 33), V.int IntKind.u32 (BL la (off + 0) 34), V.int IntKind.u32 (BL la (off + 0) 35), V.int IntKind.u32 (BL la (off + 0) 36), V.int
 IntKind.u32 (BL la (off + 0) 37), V.int IntKind.u32 (BL la (off + 0) 38), V.int IntKind.u32 (BL la (off + 0) 39), V.int IntKind.u32 (BL la (off + 0) 40), V.int
 IntKind.u32 (BL la (off + 0) 41), V.int IntKind.u32 (BL la (off + 0) 42), V.int IntKind.u32 (BL la (off + 0) 43), V.int IntKind.u32 (BL la (off + 0) 44), V.int
 IntKind.u32 (BL la (off + 0) 45), V.int IntKind.u32 (BL la (off + 0) 46), V.int IntKind.u32 (BL la (off + 0) 47), V.int IntKind.u32 (BL la (off + 0) 48), V.int
 IntKind.u32 (BL la (off + 0) 49), V.int IntKind.u32 (BL la (off + 0) 50), V.int IntKind.u32 (BL la (off + 0) 51), V.int IntKind.u32 (BL la (off + 0) 52), V.int
 IntKind.u32 (BL la (off + 0) 53), V.int IntKind.u32 (BL la (off + 0) 54), V.int IntKind.u32 (BL la (off + 0) 55), V.int IntKind.u32 (BL la (off + 0) 56), V.int
 IntKind.u32 (BL la (off + 0) 57), V.int IntKind.u32 (BL la (off + 0) 58), V.int IntKind.u32 (BL la (off + 0) 59), V.int IntKind.u32 (BL la (off + 0) 60), V.int
 IntKind.u32 (BL la (off + 0) 61), V.int IntKind.u32 (BL la (off + 0) 62), V.int IntKind.u32 (BL la (off + 0) 63)]).f, V.int IntKind.u32 (M { a := a, b := b, c := c, d := d, e := e, f := f, g := g, h := h }
 [V.int IntKind.u32 (BL la (off + 0) 0), V.int IntKind.u32 (BL la (off + 0) 1), V.int IntKind.u32 (BL la (off + 0) 2), V.int IntKind.u32 (BL la (off + 0) 3), V.int
 IntKind.u32 (BL la (off + 0) 4), V.int IntKind.u32 (BL la (off + 0) 5), V.int IntKind.u32 (BL la (off + 0) 6), V.int IntKind.u32 (BL la (off + 0) 7), V.int IntKind.u32
 (BL la (off + 0) 8), V.int IntKind.u32 (BL la (off + 0) 9), V.int IntKind.u32 (BL la (off + 0) 10), V.int IntKind.u32 (BL la (off + 0) 11), V.int IntKind.u32 (BL la (off
 + 0) 12), V.int IntKind.u32 (BL la (off + 0) 13), V.int IntKind.u32 (BL la (off + 0) 14), V.int IntKind.u32 (BL la (off + 0) 15), V.int IntKind.u32 (BL la (off + 0) 16),
 V.int IntKind.u32 (BL la (off + 0) 17), V.int IntKind.u32 (BL la (off + 0) 18), V.int IntKind.u32 (BL la (off + 0) 19), V.int IntKind.u32 (BL la (off + 0) 20), V.int
 IntKind.u32 (BL la (off + 0) 21), V.int IntKind.u32 (BL la (off + 0) 22), V.int IntKind.u32 (BL la (off + 0) 23), V.int IntKind.u32 (BL la (off + 0) 24), V.int
 IntKind.u32 (BL la (off + 0) 25), V.int IntKind.u32 (BL la (off + 0) 26), V.int IntKind.u32 (BL la (off + 0) 27), V.int IntKind.u32 (BL la (off + 0) 28), V.int
 IntKind.u32 (BL la (off + 0) 29), V.int IntKind.u32 (BL la (off + 0) 30), V.int IntKind.u32 (BL la (off + 0) 31), V.int IntKind.u32 (BL la (off + 0) 32), V.int
 IntKind.u32 (BL la (off + 0) 33), V.int IntKind.u32 (BL la (off + 0) 34), V.int IntKind.u32 (BL la (off + 0) 35), V.int IntKind.u32 (BL la (off + 0) 36), V.int
 IntKind.u32 (BL la (off + 0) 37), V.int IntKind.u32 (BL la (off + 0) 38), V.int IntKind.u32 (BL la (off + 0) 39), V.int IntKind.u32 (BL la (off + 0) 40), V.int
 IntKind.u32 (BL la (off + 0) 41), V.int IntKind.u32 (BL la (off + 0) 42), V.int IntKind.u32 (BL la (off + 0) 43), V.int IntKind.u32 (BL la (off + 0) 44), V.int
 IntKind.u32 (BL la (off + 0) 45), V.int IntKind.u32 (BL la (off + 0) 46), V.int IntKind.u32 (BL la (off + 0) 47), V.int IntKind.u32 (BL la (off + 0) 48), V.int
 IntKind.u32 (BL la (off + 0) 49), V.int IntKind.u32 (BL la (off + 0) 50), V.int IntKind.u32 (BL la (off + 0) 51), V.int IntKind.u32 (BL la (off + 0) 52), V.int
 IntKind.u32 (BL la (off + 0) 53), V.int IntKind.u32 (BL la (off + 0) 54), V.int IntKind.u32 (BL la (off + 0) 55), V.int IntKind.u32 (BL la (off + 0) 56), V.int
 IntKind.u32 (BL la (off + 0) 57), V.int IntKind.u32 (BL la (off + 0) 58), V.int IntKind.u32 (BL la (off + 0) 59), V.int IntKind.u32 (BL la (off + 0) 60), V.int
 IntKind.u32 (BL la (off + 0) 61), V.int IntKind.u32 (BL la (off + 0) 62), V.int IntKind.u32 (BL la (off + 0) 63)]).g, V.int IntKind.u32 (M { a := a, b := b, c := c, d := d, e := e, f := f, g := g, h := h }
 [V.int IntKind.u32 (BL la (off + 0) 0), V.int IntKind.u32 (BL la (off + 0) 1), V.int IntKind.u32 (BL la (off + 0) 2), V.int IntKind.u32 (BL la (off + 0) 3), V.int
 IntKind.u32 (BL la (off + 0) 4), V.int IntKind.u32 (BL la (off + 0) 5), V.int IntKind.u32 (BL la (off + 0) 6), V.int IntKind.u32 (BL la (off + 0) 7), V.int IntKind.u32
 (BL la (off + 0) 8), V.int IntKind.u32 (BL la (off + 0) 9), V.int IntKind.u32 (BL la (off + 0) 10), V.int IntKind.u32 (BL la (off + 0) 11), V.int IntKind.u32 (BL la (off
 + 0) 12), V.int IntKind.u32 (BL la (off + 0) 13), V.int IntKind.u32 (BL la (off + 0) 14), V.int IntKind.u32 (BL la (off + 0) 15), V.int IntKind.u32 (BL la (off + 0) 16),
 V.int IntKind.u32 (BL la (off + 0) 17), V.int IntKind.u32 (BL la (off + 0) 18), V.int IntKind.u32 (BL la (off + 0) 19), V.int IntKind.u32 (BL la (off + 0) 20), V.int
 IntKind.u32 (BL la (off + 0) 21), V.int IntKind.u32 (BL la (off + 0) 22), V.int IntKind.u32 (BL la (off + 0) 23), V.int IntKind.u32 (BL la (off + 0) 24), V.int
 IntKind.u32 (BL la (off + 0) 25), V.int IntKind.u32 (BL la (off + 0) 26), V.int IntKind.u32 (BL la (off + 0) 27), V.int IntKind.u32 (BL la (off + 0) 28), V.int
 IntKind.u32 (BL la (off + 0) 29), V.int IntKind.u32 (BL la (off + 0) 30), V.int IntKind.u32 (BL la (off + 0) 31), V.int IntKind.u32 (BL la (off + 0) 32), V.int
 IntKind.u32 (BL la (off + 0) 33), V.int IntKind.u32 (BL la (off + 0) 34), V.int IntKind.u32 (BL la (off + 0) 35), V.int IntKind.u32 (BL la (off + 0) 36), V.int
 IntKind.u32 (BL la (off + 0) 37), V.int IntKind.u32 (BL la (off + 0) 38), V.int IntKind.u32 (BL la (off + 0) 39), V.int IntKind.u32 (BL la (off + 0) 40), V.int
 IntKind.u32 (BL la (off + 0) 41), V.int IntKind.u32 (BL la (off + 0) 42), V.int IntKind.u32 (BL la (off + 0) 43), V.int IntKind.u32 (BL la (off + 0) 44), V.int
 IntKind.u32 (BL la (off + 0) 45), V.int IntKind.u32 (BL la (off + 0) 46), V.int IntKind.u32 (BL la (off + 0) 47), V.int IntKind.u32 (BL la (off + 0) 48), V.int
 IntKind.u32 (BL la (off + 0) 49), V.int IntKind.u32 (BL la (off + 0) 50), V.int IntKind.u32 (BL la (off + 0) 51), V.int IntKind.u32 (BL la (off + 0) 52), V.int
 IntKind.u32 (BL la (off + 0) 53), V.int IntKind.u32 (BL la (off + 0) 54), V.int IntKind.u32 (BL la (off + 0) 55), V.int IntKind.u32 (BL la (off + 0) 56), V.int
 IntKind.u32 (BL la (off + 0) 57), V.int IntKind.u32 (BL la (off + 0) 58), V.int IntKind.u32 (BL la (off + 0) 59), V.int IntKind.u32 (BL la (off + 0) 60), V.int
 IntKind.u32 (BL la (off + 0) 61), V.int IntKind.u32 (BL la (off + 0) 62), V.int IntKind.u32 (BL la (off + 0) 63)]).h] 86 8, Blk.row la 5 1] else False else False else
 False else False else R (Exit.exit 4) [some (V.ptr 0 0), some (V.slice 1 off len false cc z)] [Blk.row [V.int IntKind.u32 a, V.int IntKind.u32 b, V.int IntKind.u32 c,
 V.int IntKind.u32 d, V.int IntKind.u32 e, V.int IntKind.u32 f, V.int IntKind.u32 g, V.int IntKind.u32 h] 86 8, Blk.row la 5 1]) := by kernel_rfl
theorem flatL_app : ∀ {l r : List V}, flatL l = true → flatL r = true → flatL (l ++ r) = true
 | [], r, _, h => h
 | v :: l, r, h1, h2 => by
  rw [flatL, Bool.and_eq_true] at h1
  rw [List.cons_append, flatL, Bool.and_eq_true]
  exact ⟨h1.1, flatL_app h1.2 h2⟩
def ivW : W8 := ⟨1779033703, 3144134277, 1013904242, 2773480762, 1359893119, 2600822924, 528734635, 1541459225⟩
structure DX where
 s : List UInt8
 cs : List V
def dxV (x : DX) : List V := [.str x.s, .ptr 0 0, .slice 1 0 x.cs.length false 0 0]
def dxJ (x : DX) : St := [.row ivW.cells 86 8, .row x.cs 5 1]
def dxN (n : Nat) : Nat := (120 - n % 64) % 64
def dxPre (x : DX) : Bool := flatL x.cs && Nat.ble (x.cs.length + dxN x.cs.length) 1000000
def dxMu (x : DX) : Nat := dxN x.cs.length
def dxP (cs : List V) : List V := cs ++ List.replicate (dxN cs.length) (.int .u8 0)
def dxDec : List (Option V) → St → Option DX
 | [some (.str s), some (.ptr 0 0), some (.slice 3 0 _ false 0 0)], [_, _, _, .row cs _ _] => some ⟨s, cs⟩
 | _, _ => none
def dxOutG (FP : List V → List V) : Asks DX := fun x K => ∀ p : List V, p = FP x.cs → K (.exit 0) [.str x.s, .ptr 0 0, .slice 1 0 p.length false 0 0] [.row ivW.cells 86 8, .row p 5 1]
theorem dx_fits (s : List UInt8) (cs : List V) (hf : flatL cs = true) (k c : Nat) (st : St) (h0 : st[0]? = some (.row ivW.cells 86 8)) (hc : st[c]? = some (.row cs 5 1)) (hc0 : c ≠ 0) : Fits 0 [.str s, .ptr 0 0, .slice 1 0 k false 0 0] [.row ivW.cells 86 8, .row cs 5 1] [some (.str s), some (.ptr 0 0), some (.slice c 0 k false 0 0)] st :=
 ⟨[0, c], [.str s, .ptr 0 0, .slice c 0 k false 0 0], rfl, rfl, FitsM.of ⟨.inr ⟨_, .inl rfl, h0⟩, fb hf hc, trivial⟩, by simp; omega, fun i hi => by omega⟩
theorem dx_roundOk (x : DX) (hx : dxPre x = true) : roundW Tryd.prog T3 9 10 (rounds 9) 28 60 [0,3,4] (dxV x) (dxJ x) (RoundOkA 0 dxPre dxV dxJ dxMu (dxOutG dxP) x) := by
 obtain ⟨s, cs⟩ := x
 unfold dxPre at hx
 rw [Bool.and_eq_true] at hx
 have p1 : flatL cs = true := hx.1
 have p2 : cs.length + dxN cs.length ≤ 1000000 := Nat.le_of_ble_eq_true hx.2
 show roundW Tryd.prog T3 9 10 (rounds 9) 28 60 [0,3,4] [.str s, .ptr 0 0, .slice 1 0 cs.length false 0 0] [.row ivW.cells 86 8, .row cs 5 1] _
 generalize hn : cs.length = n at *
 rw [d1_round]
 have hm : (n : Int).tmod 64 = ((n % 64 : Nat) : Int) := by rw [Int.tmod_eq_emod_of_nonneg (by omega)]; omega
 rw [hm]
 refine bif_intro (fun h => ?_) (fun h => ?_)
 ·have h : n % 64 ≠ 56 := by
   intro h0
   rw [h0] at h
   simp at h
  have p3 : dxN n = dxN (n + 1) + 1 := by unfold dxN; omega
  refine must_intro (by rw [Nat.mul_one, hn]; exact Nat.beq_refl _) (must_intro (by rw [Bool.and_eq_true]; exact ⟨Nat.ble_eq_true_of_le (by omega), Nat.ble_eq_true_of_le (by omega)⟩) ?_)
  have hl : (cs ++ [V.int .u8 0]).length = n + 1 := by rw [List.length_append, hn]; rfl
  have hf : flatL (cs ++ [V.int .u8 0]) = true := flatL_app p1 rfl
  refine ⟨⟨s, cs ++ [.int .u8 0]⟩, ?_, ?_, ?_, fun K hK => ?_⟩
  ·unfold dxPre
   rw [Bool.and_eq_true]
   refine ⟨hf, Nat.ble_eq_true_of_le ?_⟩
   show (cs ++ [V.int .u8 0]).length + dxN (cs ++ [V.int .u8 0]).length ≤ 1000000
   rw [hl]; omega
  ·show Fits 0 [.str s, .ptr 0 0, .slice 1 0 (cs ++ [V.int .u8 0]).length false 0 0] [.row ivW.cells 86 8, .row (cs ++ [V.int .u8 0]) 5 1] _ _
   rw [hl]
   exact dx_fits s _ hf _ 3 _ rfl rfl (by omega)
  ·show dxN (cs ++ [V.int .u8 0]).length < dxN cs.length
   rw [hl, hn]; omega
  ·have hK : ∀ p : List V, p = dxP cs → K (.exit 0) [.str s, .ptr 0 0, .slice 1 0 p.length false 0 0] [.row ivW.cells 86 8, .row p 5 1] := hK
   have : dxP (cs ++ [.int .u8 0]) = dxP cs := by
    unfold dxP
    rw [hl, hn, List.append_assoc]
    rw [p3, List.replicate_succ]; rfl
   exact fun p hp => hK p (hp.trans this)
 ·have h : n % 64 = 56 := by
   have : ((n % 64 : Nat) : Int) = 56 := by simpa using h
   omega
  refine ⟨[.str s, .ptr 0 0, .slice 1 0 n false 0 0], [.row ivW.cells 86 8, .row cs 5 1], fun K hK => ?_, dx_fits s _ p1 _ 1 _ rfl rfl (by omega)⟩
  have hK : ∀ p : List V, p = dxP cs → K (.exit 0) [.str s, .ptr 0 0, .slice 1 0 p.length false 0 0] [.row ivW.cells 86 8, .row p 5 1] := hK
  have : dxP cs = cs := by
   unfold dxP
   have : dxN cs.length = 0 := by rw [hn]; unfold dxN; omega
   rw [this, List.replicate_zero, List.append_nil]
  have hK := hK cs this.symm
  rw [hn] at hK
  exact hK
def okM (ws : List V) : Bool := all32 ws && Nat.beq ws.length 64
def blkA (la : List V) (off : Nat) : Nat → Int := blkF la off 64 0 zeros64
theorem TD_ok : TabOk3 Tryd.prog (TD okM mixE okB blkA) := ⟨addT_ok noT_ok mix_ok, addM_ok noL_ok blk_ok, noLks_ok 10⟩
def sumL : Nat → Nat → List V → W8 → W8
 | 0, _, _, x => x
 | n + 1, off, la, x => sumL n (off + 64) la (mixE x (cells64 (blkA la off)))
structure D3 where
 la : List V
 x : W8
 off : Nat
 len : Nat
 cc : Nat
 z : Nat
def okA (la : List V) : Bool := flatL la && la.all (isIntV .u8)
def d3V (y : D3) : List V := [.ptr 0 0, .slice 1 y.off y.len false y.cc y.z]
def d3J (y : D3) : St := [.row y.x.cells 86 8, .row y.la 5 1]
def d3Pre (y : D3) : Bool := okA y.la && (Nat.beq (y.off + y.len) y.la.length && Nat.beq (y.len % 64) 0)
def d3Mu (y : D3) : Nat := y.len
def d3OutG (SL : Nat → Nat → List V → W8 → W8) : Asks D3 := fun y K => ∀ x : W8, x = SL (y.len / 64) y.off y.la y.x → ∀ o c z : Nat, K (.exit 4) [.ptr 0 0, .slice 1 o 0 false c z] [.row x.cells 86 8, .dead]
theorem okA_B {la : List V} {off : Nat} (h : okA la = true) (hl : off + 64 ≤ la.length) : okB la off = true := by
 unfold okA at h
 rw [Bool.and_eq_true] at h
 unfold okB
 rw [Bool.and_eq_true, Bool.and_eq_true]
 refine ⟨h.1, Nat.ble_eq_true_of_le hl, ?_⟩
 rw [List.all_eq_true]
 intro v hv
 exact List.all_eq_true.1 h.2 v (List.mem_of_mem_drop (List.mem_of_mem_take hv))
theorem d3_fits (x : W8) (la : List V) (hf : flatL la = true) (o l c z : Nat) : Fits 0 [.ptr 0 0, .slice 1 o l false c z] [.row x.cells 86 8, .row la 5 1] [some (.ptr 0 0), some (.slice 1 o l false c z)] [.row x.cells 86 8, .row la 5 1] :=
 ⟨[0, 1], [.ptr 0 0, .slice 1 o l false c z], rfl, rfl, FitsM.of ⟨fb rfl rfl, fb hf rfl, trivial⟩, by decide, fun i hi => by omega⟩
theorem d3_out (x : W8) (la : List V) (o l c z : Nat) : Fits 0 [.ptr 0 0, .slice 1 o l false c z] [.row x.cells 86 8, .dead] [some (.ptr 0 0), some (.slice 1 o l false c z)] [.row x.cells 86 8, .row la 5 1] :=
 ⟨[0, 1], [.ptr 0 0, .slice 1 o l false c z], rfl, rfl, FitsM.of ⟨fb rfl rfl, .inl rfl, trivial⟩, by decide, fun i hi => by omega⟩
theorem d3_roundOk (y : D3) (hy : d3Pre y = true) : roundW Tryd.prog (TD okM mixE okB blkA) 10 10 (rounds 10) 28 508 [3,4] (d3V y) (d3J y) (RoundOkA 0 d3Pre d3V d3J d3Mu (d3OutG sumL) y) := by
 obtain ⟨la, x, off, len, cc, z⟩ := y
 unfold d3Pre at hy
 rw [Bool.and_eq_true, Bool.and_eq_true] at hy
 have p1 : okA la = true := hy.1
 have p2 : off + len = la.length := Nat.eq_of_beq_eq_true hy.2.1
 have p3 : len % 64 = 0 := Nat.eq_of_beq_eq_true hy.2.2
 have hf : flatL la = true := by have h := p1; unfold okA at h; rw [Bool.and_eq_true] at h; exact h.1
 show roundW Tryd.prog (TD okM mixE okB blkA) 10 10 (rounds 10) 28 508 [3,4] [.ptr 0 0, .slice 1 off len false cc z] [.row [.int .u32 x.a, .int .u32 x.b, .int .u32 x.c, .int .u32 x.d, .int .u32 x.e, .int .u32 x.f, .int .u32 x.g, .int .u32 x.h] 86 8, .row la 5 1] _
 rw [d3_round]
 refine bif_intro (fun hb => ?_) (fun hb => ?_)
 ·have hl : 64 ≤ len := by have := of_decide_eq_true hb; omega
  have hle : Nat.ble 64 len = true := Nat.ble_eq_true_of_le hl
  refine must_intro (by rw [hle]; rfl) (must_intro (okA_B p1 (by omega)) (must_intro rfl (must_intro (by rw [hle, Bool.true_and]; exact Nat.ble_eq_true_of_le (Nat.le_refl _)) ?_)))
  refine ⟨⟨la, mixE x (cells64 (blkA la off)), off + 64, len - 64, cc + 64, off⟩, ?_, d3_fits (mixE x (cells64 (blkA la off))) la hf _ _ _ _, by simp only [d3Mu]; omega, fun K hK => ?_⟩
  ·unfold d3Pre
   rw [Bool.and_eq_true, Bool.and_eq_true]
   refine ⟨p1, ?_, ?_⟩
   ·show Nat.beq (off + 64 + (len - 64)) la.length = true
    have : off + 64 + (len - 64) = la.length := by omega
    rw [this]; exact Nat.beq_refl _
   ·show Nat.beq ((len - 64) % 64) 0 = true
    have : (len - 64) % 64 = 0 := by omega
    rw [this]; rfl
  ·have hK : ∀ x' : W8, x' = sumL (len / 64) off la x → ∀ o c z : Nat, K (.exit 4) [.ptr 0 0, .slice 1 o 0 false c z] [.row x'.cells 86 8, .dead] := hK
   have e : len / 64 = (len - 64) / 64 + 1 := by omega
   rw [e] at hK
   exact hK
 ·have hl : len = 0 := by have := of_decide_eq_false hb; omega
  subst hl
  refine ⟨[.ptr 0 0, .slice 1 off 0 false cc z], [.row x.cells 86 8, .dead], fun K hK => ?_, d3_out x la _ _ _ _⟩
  have hK : ∀ x' : W8, x' = sumL (0 / 64) off la x → ∀ o c z : Nat, K (.exit 4) [.ptr 0 0, .slice 1 o 0 false c z] [.row x'.cells 86 8, .dead] := hK
  rw [Nat.zero_div] at hK
  exact hK x rfl off cc z
theorem dx_loop {f : Fr} {st : St} {Q : Exit → Fr → St → Prop} (h : loopA 0 (szOf Tryd.prog 28) [0,3,4] dxDec dxPre dxV dxJ (dxOutG dxP) f st Q) : CodeSatW Tryd.prog none 0 (.loop (loopOf Tryd.prog 28 60)) f st Q :=
 loopA_ok (P := Tryd.prog) (T := T3) (k := 0) (lim := 9) (n := 10) (g := 28) (p0 := 60) (lk := rounds 9) mixed T3_ok (roundsW 9 _ _) dxMu dx_roundOk h
def d3Dec : List (Option V) → St → Option D3
 | [some (.ptr 0 0), some (.slice b 0 len false 0 0)], .row [.int .u32 a1, .int .u32 a2, .int .u32 a3, .int .u32 a4, .int .u32 a5, .int .u32 a6, .int .u32 a7, .int .u32 a8] t sz :: r => match (Blk.dead :: r)[b]? with
  | some (.row la _ _) => some ⟨la, ⟨a1, a2, a3, a4, a5, a6, a7, a8⟩, 0, len, 0, 0⟩
  | _ => none
 | _, _ => none
theorem d3_loop {f : Fr} {st : St} {Q : Exit → Fr → St → Prop} (h : loopA 0 (szOf Tryd.prog 28) [3,4] d3Dec d3Pre d3V d3J (d3OutG sumL) f st Q) : CodeSatW Tryd.prog none 0 (.loop (loopOf Tryd.prog 28 508)) f st Q :=
 loopA_ok (P := Tryd.prog) (T := TD okM mixE okB blkA) (k := 0) (lim := 10) (n := 10) (g := 28) (p0 := 508) (lk := rounds 10) mixed TD_ok (roundsW 10 _ _) d3Mu d3_roundOk h
noncomputable def lk23 (FP : List V → List V) (SL : Nat → Nat → List V → W8 → W8) : Nat → Trans → Trans := withLoop 508 (loopA 0 (szOf Tryd.prog 28) [3,4] d3Dec d3Pre d3V d3J (d3OutG SL)) (withLoop 60 (loopA 0 (szOf Tryd.prog 28) [0,3,4] dxDec dxPre dxV dxJ (dxOutG FP)) (rounds 10))
theorem lk23_ok : FnLoopsW Tryd.prog 0 (lk23 dxP sumL) 28 := by
 unfold lk23
 exact fnLoopW (fnLoopW (fnRoundsW 10 0 28) (by kernel_rfl) fun f st Q h => dx_loop h) (by kernel_rfl) fun f st Q h => d3_loop h
noncomputable def TD2 (FP : List V → List V) (SL : Nat → Nat → List V → W8 → W8) : Tab := ⟨noT, noL, addLk (noLks 10) 28 0 (lk23 FP SL)⟩
theorem TD2_ok : TabOk3 Tryd.prog (TD2 dxP sumL) := ⟨noT_ok, noL_ok, addLk_ok (noLks_ok 10) lk23_ok⟩
theorem sum_tree (FP : List V → List V) (SL : Nat → Nat → List V → W8 → W8) (s : List UInt8) (R : V → Prop) : runW Tryd.prog (TD2 FP SL) 10 10 28 [.str s] R =
  (
 bif s.length.ble 281474976710656 then bif (List.map (fun b => V.int IntKind.u8 (↑b.toNat : Int)) s).length.beq (s.length * 1) then bif (s.length + 1).ble
 9223372036854775807 && ((s.length + 1) * 1).ble 140737488355328 then Fits 0 [V.str s, V.ptr 0 0, V.slice 1 0 (List.map (fun b => V.int IntKind.u8 (↑b.toNat : Int)) s ++
 [V.int IntKind.u8 128]).length false 0 0] [Blk.row [V.int IntKind.u32 1779033703, V.int IntKind.u32 3144134277, V.int IntKind.u32 1013904242, V.int IntKind.u32
 2773480762, V.int IntKind.u32 1359893119, V.int IntKind.u32 2600822924, V.int IntKind.u32 528734635, V.int IntKind.u32 1541459225] 86 8, Blk.row (List.map (fun b => V.int
 IntKind.u8 (↑b.toNat : Int)) s ++ [V.int IntKind.u8 128]) 5 1] [some (V.str s), some (V.ptr 0 0), some (V.slice 3 0 (s.length + 1) false 0 0)] [Blk.row [V.int IntKind.u32
 1779033703, V.int IntKind.u32 3144134277, V.int IntKind.u32 1013904242, V.int IntKind.u32 2773480762, V.int IntKind.u32 1359893119, V.int IntKind.u32 2600822924, V.int
 IntKind.u32 528734635, V.int IntKind.u32 1541459225] 86 8, Blk.dead, Blk.row [V.int IntKind.u8 128] 5 1, Blk.row (List.map (fun b => V.int IntKind.u8 (↑b.toNat : Int)) s
 ++ [V.int IntKind.u8 128]) 5 1] ∧ bif dxPre { s := s, cs := List.map (fun b => V.int IntKind.u8 (↑b.toNat : Int)) s ++ [V.int IntKind.u8 128] } then ∀ (p : List V), p =
 FP (List.map (fun b => V.int IntKind.u8 (↑b.toNat : Int)) s ++ [V.int IntKind.u8 128]) → bif p.length.beq (p.length * 1) then bif (p.length + 1).ble 9223372036854775807
 && ((p.length + 1) * 1).ble 140737488355328 then bif (p ++ [V.int IntKind.u8 (IntKind.u8.wrap ((IntKind.u64.wrap (IntKind.u64.wrap (↑s.length : Int) * 8)).fdiv
 72057594037927936))]).length.beq ((p.length + 1) * 1) then bif (p.length + 1 + 1).ble 9223372036854775807 && ((p.length + 1 + 1) * 1).ble 140737488355328 then bif (p ++
 [V.int IntKind.u8 (IntKind.u8.wrap ((IntKind.u64.wrap (IntKind.u64.wrap (↑s.length : Int) * 8)).fdiv 72057594037927936))] ++ [V.int IntKind.u8 (IntKind.u8.wrap
 ((IntKind.u64.wrap (IntKind.u64.wrap (↑s.length : Int) * 8)).fdiv 281474976710656))]).length.beq ((p.length + 1 + 1) * 1) then bif (p.length + 1 + 1 + 1).ble
 9223372036854775807 && ((p.length + 1 + 1 + 1) * 1).ble 140737488355328 then bif (p ++ [V.int IntKind.u8 (IntKind.u8.wrap ((IntKind.u64.wrap (IntKind.u64.wrap (↑s.length
 : Int) * 8)).fdiv 72057594037927936))] ++ [V.int IntKind.u8 (IntKind.u8.wrap ((IntKind.u64.wrap (IntKind.u64.wrap (↑s.length : Int) * 8)).fdiv 281474976710656))] ++
 [V.int IntKind.u8 (IntKind.u8.wrap ((IntKind.u64.wrap (IntKind.u64.wrap (↑s.length : Int) * 8)).fdiv 1099511627776))]).length.beq ((p.length + 1 + 1 + 1) * 1) then bif
 (p.length + 1 + 1 + 1 + 1).ble 9223372036854775807 && ((p.length + 1 + 1 + 1 + 1) * 1).ble 140737488355328 then bif (p ++ [V.int IntKind.u8 (IntKind.u8.wrap
 ((IntKind.u64.wrap (IntKind.u64.wrap (↑s.length : Int) * 8)).fdiv 72057594037927936))] ++ [V.int IntKind.u8 (IntKind.u8.wrap ((IntKind.u64.wrap (IntKind.u64.wrap
 (↑s.length : Int) * 8)).fdiv 281474976710656))] ++ [V.int IntKind.u8 (IntKind.u8.wrap ((IntKind.u64.wrap (IntKind.u64.wrap (↑s.length : Int) * 8)).fdiv 1099511627776))]
 ++ [V.int IntKind.u8 (IntKind.u8.wrap ((IntKind.u64.wrap (IntKind.u64.wrap (↑s.length : Int) * 8)).fdiv 4294967296))]).length.beq ((p.length + 1 + 1 + 1 + 1) * 1) then
 bif (p.length + 1 + 1 + 1 + 1 + 1).ble 9223372036854775807 && ((p.length + 1 + 1 + 1 + 1 + 1) * 1).ble 140737488355328 then bif (p ++ [V.int IntKind.u8 (IntKind.u8.wrap
 ((IntKind.u64.wrap (IntKind.u64.wrap (↑s.length : Int) * 8)).fdiv 72057594037927936))] ++ [V.int IntKind.u8 (IntKind.u8.wrap ((IntKind.u64.wrap (IntKind.u64.wrap
 (↑s.length : Int) * 8)).fdiv 281474976710656))] ++ [V.int IntKind.u8 (IntKind.u8.wrap ((IntKind.u64.wrap (IntKind.u64.wrap (↑s.length : Int) * 8)).fdiv 1099511627776))]
 ++ [V.int IntKind.u8 (IntKind.u8.wrap ((IntKind.u64.wrap (IntKind.u64.wrap (↑s.length : Int) * 8)).fdiv 4294967296))] ++ [V.int IntKind.u8 (IntKind.u8.wrap
 ((IntKind.u64.wrap (IntKind.u64.wrap (↑s.length : Int) * 8)).fdiv 16777216))]).length.beq ((p.length + 1 + 1 + 1 + 1 + 1) * 1) then bif (p.length + 1 + 1 + 1 + 1 + 1 +
 1).ble 9223372036854775807 && ((p.length + 1 + 1 + 1 + 1 + 1 + 1) * 1).ble 140737488355328 then bif (p ++ [V.int IntKind.u8 (IntKind.u8.wrap ((IntKind.u64.wrap
 (IntKind.u64.wrap (↑s.length : Int) * 8)).fdiv 72057594037927936))] ++ [V.int IntKind.u8 (IntKind.u8.wrap ((IntKind.u64.wrap (IntKind.u64.wrap (↑s.length : Int) *
 8)).fdiv 281474976710656))] ++ [V.int IntKind.u8 (IntKind.u8.wrap ((IntKind.u64.wrap (IntKind.u64.wrap (↑s.length : Int) * 8)).fdiv 1099511627776))] ++ [V.int IntKind.u8
 (IntKind.u8.wrap ((IntKind.u64.wrap (IntKind.u64.wrap (↑s.length : Int) * 8)).fdiv 4294967296))] ++ [V.int IntKind.u8 (IntKind.u8.wrap ((IntKind.u64.wrap
 (IntKind.u64.wrap (↑s.length : Int) * 8)).fdiv 16777216))] ++ [V.int IntKind.u8 (IntKind.u8.wrap ((IntKind.u64.wrap (IntKind.u64.wrap (↑s.length : Int) * 8)).fdiv
 65536))]).length.beq ((p.length + 1 + 1 + 1 + 1 + 1 + 1) * 1) then bif (p.length + 1 + 1 + 1 + 1 + 1 + 1 + 1).ble 9223372036854775807 && ((p.length + 1 + 1 + 1 + 1 + 1 +
 1 + 1) * 1).ble 140737488355328 then bif (p ++ [V.int IntKind.u8 (IntKind.u8.wrap ((IntKind.u64.wrap (IntKind.u64.wrap (↑s.length : Int) * 8)).fdiv 72057594037927936))]
 ++ [V.int IntKind.u8 (IntKind.u8.wrap ((IntKind.u64.wrap (IntKind.u64.wrap (↑s.length : Int) * 8)).fdiv 281474976710656))] ++ [V.int IntKind.u8 (IntKind.u8.wrap
 ((IntKind.u64.wrap (IntKind.u64.wrap (↑s.length : Int) * 8)).fdiv 1099511627776))] ++ [V.int IntKind.u8 (IntKind.u8.wrap ((IntKind.u64.wrap (IntKind.u64.wrap (↑s.length :
 Int) * 8)).fdiv 4294967296))] ++ [V.int IntKind.u8 (IntKind.u8.wrap ((IntKind.u64.wrap (IntKind.u64.wrap (↑s.length : Int) * 8)).fdiv 16777216))] ++ [V.int IntKind.u8
 (IntKind.u8.wrap ((IntKind.u64.wrap (IntKind.u64.wrap (↑s.length : Int) * 8)).fdiv 65536))] ++ [V.int IntKind.u8 (IntKind.u8.wrap ((IntKind.u64.wrap (IntKind.u64.wrap
 (↑s.length : Int) * 8)).fdiv 256))]).length.beq ((p.length + 1 + 1 + 1 + 1 + 1 + 1 + 1) * 1) then bif (p.length + 1 + 1 + 1 + 1 + 1 + 1 + 1 + 1).ble 9223372036854775807
 && ((p.length + 1 + 1 + 1 + 1 + 1 + 1 + 1 + 1) * 1).ble 140737488355328 then Fits 0 [V.ptr 0 0, V.slice 1 0 (p.length + 1 + 1 + 1 + 1 + 1 + 1 + 1 + 1) false 0 0] [Blk.row
 [V.int IntKind.u32 1779033703, V.int IntKind.u32 3144134277, V.int IntKind.u32 1013904242, V.int IntKind.u32 2773480762, V.int IntKind.u32 1359893119, V.int IntKind.u32
 2600822924, V.int IntKind.u32 528734635, V.int IntKind.u32 1541459225] 86 8, Blk.row (p ++ [V.int IntKind.u8 (IntKind.u8.wrap ((IntKind.u64.wrap (IntKind.u64.wrap
 (↑s.length : Int) * 8)).fdiv 72057594037927936))] ++ [V.int IntKind.u8 (IntKind.u8.wrap ((IntKind.u64.wrap (IntKind.u64.wrap (↑s.length : Int) * 8)).fdiv
 281474976710656))] ++ [V.int IntKind.u8 (IntKind.u8.wrap ((IntKind.u64.wrap (IntKind.u64.wrap (↑s.length : Int) * 8)).fdiv 1099511627776))] ++ [V.int IntKind.u8
 (IntKind.u8.wrap ((IntKind.u64.wrap (IntKind.u64.wrap (↑s.length : Int) * 8)).fdiv 4294967296))] ++ [V.int IntKind.u8 (IntKind.u8.wrap ((IntKind.u64.wrap
 (IntKind.u64.wrap (↑s.length : Int) * 8)).fdiv 16777216))] ++ [V.int IntKind.u8 (IntKind.u8.wrap ((IntKind.u64.wrap (IntKind.u64.wrap (↑s.length : Int) * 8)).fdiv
 65536))] ++ [V.int IntKind.u8 (IntKind.u8.wrap ((IntKind.u64.wrap (IntKind.u64.wrap (↑s.length : Int) * 8)).fdiv 256))] ++ [V.int IntKind.u8 (IntKind.u8.wrap
 ((IntKind.u64.wrap (IntKind.u64.wrap (↑s.length : Int) * 8)).fdiv 1))]) 5 1] [some (V.ptr 0 0), some (V.slice 17 0 (p.length + 1 + 1 + 1 + 1 + 1 + 1 + 1 + 1) false 0 0)]
 [Blk.row [V.int IntKind.u32 1779033703, V.int IntKind.u32 3144134277, V.int IntKind.u32 1013904242, V.int IntKind.u32 2773480762, V.int IntKind.u32 1359893119, V.int
 IntKind.u32 2600822924, V.int IntKind.u32 528734635, V.int IntKind.u32 1541459225] 86 8, Blk.dead, Blk.row [V.int IntKind.u8 (IntKind.u8.wrap ((IntKind.u64.wrap
 (IntKind.u64.wrap (↑s.length : Int) * 8)).fdiv 72057594037927936))] 5 1, Blk.dead, Blk.row [V.int IntKind.u8 (IntKind.u8.wrap ((IntKind.u64.wrap (IntKind.u64.wrap
 (↑s.length : Int) * 8)).fdiv 281474976710656))] 5 1, Blk.dead, Blk.row [V.int IntKind.u8 (IntKind.u8.wrap ((IntKind.u64.wrap (IntKind.u64.wrap (↑s.length : Int) *
 8)).fdiv 1099511627776))] 5 1, Blk.dead, Blk.row [V.int IntKind.u8 (IntKind.u8.wrap ((IntKind.u64.wrap (IntKind.u64.wrap (↑s.length : Int) * 8)).fdiv 4294967296))] 5 1,
 Blk.dead, Blk.row [V.int IntKind.u8 (IntKind.u8.wrap ((IntKind.u64.wrap (IntKind.u64.wrap (↑s.length : Int) * 8)).fdiv 16777216))] 5 1, Blk.dead, Blk.row [V.int
 IntKind.u8 (IntKind.u8.wrap ((IntKind.u64.wrap (IntKind.u64.wrap (↑s.length : Int) * 8)).fdiv 65536))] 5 1, Blk.dead, Blk.row [V.int IntKind.u8 (IntKind.u8.wrap
 ((IntKind.u64.wrap (IntKind.u64.wrap (↑s.length : Int) * 8)).fdiv 256))] 5 1, Blk.dead, Blk.row [V.int IntKind.u8 (IntKind.u8.wrap ((IntKind.u64.wrap (IntKind.u64.wrap
 (↑s.length : Int) * 8)).fdiv 1))] 5 1, Blk.row (p ++ [V.int IntKind.u8 (IntKind.u8.wrap ((IntKind.u64.wrap (IntKind.u64.wrap (↑s.length : Int) * 8)).fdiv
 72057594037927936))] ++ [V.int IntKind.u8 (IntKind.u8.wrap ((IntKind.u64.wrap (IntKind.u64.wrap (↑s.length : Int) * 8)).fdiv 281474976710656))] ++ [V.int IntKind.u8
 (IntKind.u8.wrap ((IntKind.u64.wrap (IntKind.u64.wrap (↑s.length : Int) * 8)).fdiv 1099511627776))] ++ [V.int IntKind.u8 (IntKind.u8.wrap ((IntKind.u64.wrap
 (IntKind.u64.wrap (↑s.length : Int) * 8)).fdiv 4294967296))] ++ [V.int IntKind.u8 (IntKind.u8.wrap ((IntKind.u64.wrap (IntKind.u64.wrap (↑s.length : Int) * 8)).fdiv
 16777216))] ++ [V.int IntKind.u8 (IntKind.u8.wrap ((IntKind.u64.wrap (IntKind.u64.wrap (↑s.length : Int) * 8)).fdiv 65536))] ++ [V.int IntKind.u8 (IntKind.u8.wrap
 ((IntKind.u64.wrap (IntKind.u64.wrap (↑s.length : Int) * 8)).fdiv 256))] ++ [V.int IntKind.u8 (IntKind.u8.wrap ((IntKind.u64.wrap (IntKind.u64.wrap (↑s.length : Int) *
 8)).fdiv 1))]) 5 1] ∧ bif d3Pre { la := p ++ [V.int IntKind.u8 (IntKind.u8.wrap ((IntKind.u64.wrap (IntKind.u64.wrap (↑s.length : Int) * 8)).fdiv 72057594037927936))] ++ [V.int IntKind.u8 (IntKind.u8.wrap ((IntKind.u64.wrap (IntKind.u64.wrap (↑s.length : Int) * 8)).fdiv 281474976710656))] ++ [V.int IntKind.u8 (IntKind.u8.wrap ((IntKind.u64.wrap (IntKind.u64.wrap (↑s.length : Int) * 8)).fdiv 1099511627776))] ++ [V.int IntKind.u8 (IntKind.u8.wrap ((IntKind.u64.wrap (IntKind.u64.wrap (↑s.length : Int) * 8)).fdiv 4294967296))] ++ [V.int IntKind.u8 (IntKind.u8.wrap ((IntKind.u64.wrap (IntKind.u64.wrap (↑s.length : Int) * 8)).fdiv 16777216))] ++ [V.int IntKind.u8 (IntKind.u8.wrap ((IntKind.u64.wrap (IntKind.u64.wrap (↑s.length : Int) * 8)).fdiv 65536))] ++ [V.int IntKind.u8 (IntKind.u8.wrap ((IntKind.u64.wrap (IntKind.u64.wrap (↑s.length : Int) * 8)).fdiv 256))] ++ [V.int IntKind.u8 (IntKind.u8.wrap ((IntKind.u64.wrap (IntKind.u64.wrap (↑s.length : Int) * 8)).fdiv 1))], x := { a := 1779033703, b := 3144134277, c := 1013904242, d := 2773480762, e := 1359893119, f := 2600822924, g := 528734635, h := 1541459225 }, off := 0, len := p.length + 1 + 1 + 1 + 1 + 1 + 1 + 1 + 1, cc := 0, z := 0 }
 then ∀ (x : W8), x = SL ((p.length + 1 + 1 + 1 + 1 + 1 + 1 + 1 + 1) / 64) 0 (p ++ [V.int IntKind.u8 (IntKind.u8.wrap ((IntKind.u64.wrap (IntKind.u64.wrap (↑s.length :
 Int) * 8)).fdiv 72057594037927936))] ++ [V.int IntKind.u8 (IntKind.u8.wrap ((IntKind.u64.wrap (IntKind.u64.wrap (↑s.length : Int) * 8)).fdiv 281474976710656))] ++ [V.int
 IntKind.u8 (IntKind.u8.wrap ((IntKind.u64.wrap (IntKind.u64.wrap (↑s.length : Int) * 8)).fdiv 1099511627776))] ++ [V.int IntKind.u8 (IntKind.u8.wrap ((IntKind.u64.wrap
 (IntKind.u64.wrap (↑s.length : Int) * 8)).fdiv 4294967296))] ++ [V.int IntKind.u8 (IntKind.u8.wrap ((IntKind.u64.wrap (IntKind.u64.wrap (↑s.length : Int) * 8)).fdiv
 16777216))] ++ [V.int IntKind.u8 (IntKind.u8.wrap ((IntKind.u64.wrap (IntKind.u64.wrap (↑s.length : Int) * 8)).fdiv 65536))] ++ [V.int IntKind.u8 (IntKind.u8.wrap
 ((IntKind.u64.wrap (IntKind.u64.wrap (↑s.length : Int) * 8)).fdiv 256))] ++ [V.int IntKind.u8 (IntKind.u8.wrap ((IntKind.u64.wrap (IntKind.u64.wrap (↑s.length : Int) *
 8)).fdiv 1))]) { a := 1779033703, b := 3144134277, c := 1013904242, d := 2773480762, e := 1359893119, f := 2600822924, g := 528734635, h := 1541459225 } → ∀ (o c z :
 Nat), R (V.str (List.map Vm.byteOf [V.int IntKind.u8 (IntKind.u8.wrap (x.a.fdiv 16777216)), V.int IntKind.u8 (IntKind.u8.wrap (x.a.fdiv 65536)), V.int IntKind.u8
 (IntKind.u8.wrap (x.a.fdiv 256)), V.int IntKind.u8 (IntKind.u8.wrap x.a), V.int IntKind.u8 (IntKind.u8.wrap (x.b.fdiv 16777216)), V.int IntKind.u8 (IntKind.u8.wrap
 (x.b.fdiv 65536)), V.int IntKind.u8 (IntKind.u8.wrap (x.b.fdiv 256)), V.int IntKind.u8 (IntKind.u8.wrap x.b), V.int IntKind.u8 (IntKind.u8.wrap (x.c.fdiv 16777216)),
 V.int IntKind.u8 (IntKind.u8.wrap (x.c.fdiv 65536)), V.int IntKind.u8 (IntKind.u8.wrap (x.c.fdiv 256)), V.int IntKind.u8 (IntKind.u8.wrap x.c), V.int IntKind.u8
 (IntKind.u8.wrap (x.d.fdiv 16777216)), V.int IntKind.u8 (IntKind.u8.wrap (x.d.fdiv 65536)), V.int IntKind.u8 (IntKind.u8.wrap (x.d.fdiv 256)), V.int IntKind.u8
 (IntKind.u8.wrap x.d), V.int IntKind.u8 (IntKind.u8.wrap (x.e.fdiv 16777216)), V.int IntKind.u8 (IntKind.u8.wrap (x.e.fdiv 65536)), V.int IntKind.u8 (IntKind.u8.wrap
 (x.e.fdiv 256)), V.int IntKind.u8 (IntKind.u8.wrap x.e), V.int IntKind.u8 (IntKind.u8.wrap (x.f.fdiv 16777216)), V.int IntKind.u8 (IntKind.u8.wrap (x.f.fdiv 65536)),
 V.int IntKind.u8 (IntKind.u8.wrap (x.f.fdiv 256)), V.int IntKind.u8 (IntKind.u8.wrap x.f), V.int IntKind.u8 (IntKind.u8.wrap (x.g.fdiv 16777216)), V.int IntKind.u8
 (IntKind.u8.wrap (x.g.fdiv 65536)), V.int IntKind.u8 (IntKind.u8.wrap (x.g.fdiv 256)), V.int IntKind.u8 (IntKind.u8.wrap x.g), V.int IntKind.u8 (IntKind.u8.wrap (x.h.fdiv
 16777216)), V.int IntKind.u8 (IntKind.u8.wrap (x.h.fdiv 65536)), V.int IntKind.u8 (IntKind.u8.wrap (x.h.fdiv 256)), V.int IntKind.u8 (IntKind.u8.wrap x.h)])) else False
 else False else False else False else False else False else False else False else False else False else False else False else False else False else False else False else
 False else False else False else False else False) := by kernel_rfl
theorem app_must {o : List V} {k : Nat} {A : Prop} (h : o.length = k) (hk : k ≤ 2000000) (hA : A) : must (Nat.beq o.length (k * 1)) (must ((k + 1).ble 9223372036854775807 && ((k + 1) * 1).ble 140737488355328) A) := by
 refine must_intro (by rw [h, Nat.mul_one]; exact Nat.beq_refl _) (must_intro ?_ hA)
 rw [Bool.and_eq_true]
 exact ⟨Nat.ble_eq_true_of_le (by omega), Nat.ble_eq_true_of_le (by omega)⟩
theorem len_snoc {o : List V} {k : Nat} {v : V} (h : o.length = k) : (o ++ [v]).length = k + 1 := by rw [List.length_append, h]; rfl
def lenD (n : Nat) (k : Int) : V := .int .u8 (IntKind.u8.wrap ((IntKind.u64.wrap (IntKind.u64.wrap (n : Int) * 8)).fdiv k))
def la8 (p : List V) (n : Nat) : List V := ((((((((p ++ [lenD n 72057594037927936]) ++ [lenD n 281474976710656]) ++ [lenD n 1099511627776]) ++ [lenD n 4294967296]) ++ [lenD n 16777216]) ++ [lenD n 65536]) ++ [lenD n 256]) ++ [lenD n 1])
def outW (x : W8) : List V := [V.int .u8 (IntKind.u8.wrap (x.a.fdiv 16777216)), V.int .u8 (IntKind.u8.wrap (x.a.fdiv 65536)), V.int .u8 (IntKind.u8.wrap (x.a.fdiv 256)), V.int .u8 (IntKind.u8.wrap x.a), V.int .u8 (IntKind.u8.wrap (x.b.fdiv 16777216)), V.int .u8 (IntKind.u8.wrap (x.b.fdiv 65536)), V.int .u8 (IntKind.u8.wrap (x.b.fdiv 256)), V.int .u8 (IntKind.u8.wrap x.b), V.int .u8 (IntKind.u8.wrap (x.c.fdiv 16777216)), V.int .u8 (IntKind.u8.wrap (x.c.fdiv 65536)), V.int .u8 (IntKind.u8.wrap (x.c.fdiv 256)), V.int .u8 (IntKind.u8.wrap x.c), V.int .u8 (IntKind.u8.wrap (x.d.fdiv 16777216)), V.int .u8 (IntKind.u8.wrap (x.d.fdiv 65536)), V.int .u8 (IntKind.u8.wrap (x.d.fdiv 256)), V.int .u8 (IntKind.u8.wrap x.d), V.int .u8 (IntKind.u8.wrap (x.e.fdiv 16777216)), V.int .u8 (IntKind.u8.wrap (x.e.fdiv 65536)), V.int .u8 (IntKind.u8.wrap (x.e.fdiv 256)), V.int .u8 (IntKind.u8.wrap x.e), V.int .u8 (IntKind.u8.wrap (x.f.fdiv 16777216)), V.int .u8 (IntKind.u8.wrap (x.f.fdiv 65536)), V.int .u8 (IntKind.u8.wrap (x.f.fdiv 256)), V.int .u8 (IntKind.u8.wrap x.f), V.int .u8 (IntKind.u8.wrap (x.g.fdiv 16777216)), V.int .u8 (IntKind.u8.wrap (x.g.fdiv 65536)), V.int .u8 (IntKind.u8.wrap (x.g.fdiv 256)), V.int .u8 (IntKind.u8.wrap x.g), V.int .u8 (IntKind.u8.wrap (x.h.fdiv 16777216)), V.int .u8 (IntKind.u8.wrap (x.h.fdiv 65536)), V.int .u8 (IntKind.u8.wrap (x.h.fdiv 256)), V.int .u8 (IntKind.u8.wrap x.h)]
def padP (s : List UInt8) : List V := dxP (bys s ++ [V.int .u8 128])
def sumW (s : List UInt8) : W8 := sumL (((padP s).length + 1 + 1 + 1 + 1 + 1 + 1 + 1 + 1) / 64) 0 (la8 (padP s) s.length) ivW
def sumF (s : List UInt8) : List UInt8 := (outW (sumW s)).map Vm.byteOf
def sumT : List V → Option (List (Bool × (V × St)))
 | [.str s] => some [(okL s, (.str (sumF s), []))]
 | _ => none
theorem d3_fitsN (la : List V) (hf : flatL la = true) (l c : Nat) (st : St) (h0 : st[0]? = some (.row ivW.cells 86 8)) (hc : st[c]? = some (.row la 5 1)) (hc0 : c ≠ 0) : Fits 0 [.ptr 0 0, .slice 1 0 l false 0 0] [.row ivW.cells 86 8, .row la 5 1] [some (.ptr 0 0), some (.slice c 0 l false 0 0)] st :=
 ⟨[0, c], [.ptr 0 0, .slice c 0 l false 0 0], rfl, rfl, FitsM.of ⟨.inr ⟨_, .inl rfl, h0⟩, fb hf hc, trivial⟩, by simp; omega, fun i hi => by omega⟩
theorem okA_bys (s : List UInt8) : okA (bys s) = true := by
 unfold okA
 rw [Bool.and_eq_true]
 refine ⟨bys_flat s, ?_⟩
 unfold bys
 rw [List.all_map, List.all_eq_true]
 intro b _
 rfl
theorem okA_app {l r : List V} (h1 : okA l = true) (h2 : okA r = true) : okA (l ++ r) = true := by
 unfold okA at *
 rw [Bool.and_eq_true] at *
 exact ⟨flatL_app h1.1 h2.1, by rw [List.all_append, h1.2, h2.2]; rfl⟩
theorem okA_rep (n : Nat) : okA (List.replicate n (.int .u8 0)) = true := by
 induction n with
 | zero => rfl
 | succ n ih => rw [List.replicate_succ]; exact okA_app (l := [.int .u8 0]) rfl ih
theorem sum_ok (args : List V) (l : List (Bool × (V × St))) (o : V × St) (h : sumT args = some l) (ho : pickO l = some o) : FnSat Tryd.prog 28 args [] (Is o) := by
 unfold sumT at h
 split at h
 ·rename_i s
  cases h
  cases hk : okL s with
  | false => rw [hk] at ho; cases ho
  | true =>
  rw [hk] at ho
  cases ho
  have p1 := okL_le hk
  have hc : okA (bys s ++ [V.int .u8 128]) = true := okA_app (okA_bys s) rfl
  have hcl : (bys s ++ [V.int .u8 128]).length = s.length + 1 := len_snoc (bys_len s)
  have hP : okA (padP s) = true := okA_app hc (okA_rep _)
  have hPl : (padP s).length = s.length + 1 + dxN (s.length + 1) := by unfold padP dxP; rw [List.length_append, List.length_replicate, hcl]
  have hN : dxN (s.length + 1) < 64 := by unfold dxN; omega
  have hM : (padP s).length % 64 = 56 := by rw [hPl]; unfold dxN; omega
  refine pureW_of (lim := 10) (n := 10) mixed TD2_ok rfl rfl ?_
  rw [sum_tree]
  refine must_intro (Nat.ble_eq_true_of_le (by omega)) (app_must (bys_ln s) (by omega) ⟨?_, must_intro ?_ (fun p hp => ?_)⟩)
  ·have := dx_fits s (bys s ++ [V.int .u8 128]) (by have h := hc; unfold okA at h; rw [Bool.and_eq_true] at h; exact h.1) (bys s ++ [V.int .u8 128]).length 3
   have hcl2 : (List.map (fun b : UInt8 => V.int .u8 (b.toNat : Int)) s ++ [V.int .u8 128]).length = s.length + 1 := hcl
   rw [hcl2]
   rw [hcl] at this
   exact this _ rfl rfl (by omega)
  ·unfold dxPre
   rw [Bool.and_eq_true]
   refine ⟨by have h := hc; unfold okA at h; rw [Bool.and_eq_true] at h; exact h.1, Nat.ble_eq_true_of_le ?_⟩
   show (bys s ++ [V.int .u8 128]).length + dxN (bys s ++ [V.int .u8 128]).length ≤ 1000000
   rw [hcl]; omega
  ·have hp : p = padP s := hp
   have hl : p.length ≤ 200000 := by rw [hp]; omega
   have hA : okA (la8 p s.length) = true := by
    rw [hp]; unfold la8
    exact okA_app (okA_app (okA_app (okA_app (okA_app (okA_app (okA_app (okA_app hP rfl) rfl) rfl) rfl) rfl) rfl) rfl) rfl
   have hF : flatL (la8 p s.length) = true := by have h := hA; unfold okA at h; rw [Bool.and_eq_true] at h; exact h.1
   have hL : (la8 p s.length).length = p.length + 1 + 1 + 1 + 1 + 1 + 1 + 1 + 1 := len_snoc (len_snoc (len_snoc (len_snoc (len_snoc (len_snoc (len_snoc (len_snoc rfl)))))))
   refine app_must rfl (by omega) (app_must (len_snoc rfl) (by omega) (app_must (len_snoc (len_snoc rfl)) (by omega) (app_must (len_snoc (len_snoc (len_snoc rfl))) (by omega) (app_must (len_snoc (len_snoc (len_snoc (len_snoc rfl)))) (by omega) (app_must (len_snoc (len_snoc (len_snoc (len_snoc (len_snoc rfl))))) (by omega) (app_must (len_snoc (len_snoc (len_snoc (len_snoc (len_snoc (len_snoc rfl)))))) (by omega) (app_must (len_snoc (len_snoc (len_snoc (len_snoc (len_snoc (len_snoc (len_snoc rfl))))))) (by omega) (?_))))))))
   refine ⟨?_, must_intro ?_ (fun x hx o c z => ?_)⟩
   ·exact d3_fitsN (la8 p s.length) hF _ _ _ rfl rfl (by omega)
   ·unfold d3Pre
    rw [Bool.and_eq_true, Bool.and_eq_true]
    refine ⟨hA, ?_, ?_⟩
    ·show Nat.beq (0 + (p.length + 1 + 1 + 1 + 1 + 1 + 1 + 1 + 1)) (la8 p s.length).length = true
     rw [hL, Nat.zero_add]; exact Nat.beq_refl _
    ·show Nat.beq ((p.length + 1 + 1 + 1 + 1 + 1 + 1 + 1 + 1) % 64) 0 = true
     have : (p.length + 1 + 1 + 1 + 1 + 1 + 1 + 1 + 1) % 64 = 0 := by rw [hp]; omega
     rw [this]; rfl
   ·have hx : x = sumW s := by rw [hx, hp]; rfl
    rw [hx]; rfl
 ·cases h
end Go.Proofs.YthcoeoibejgaiaaDoor
