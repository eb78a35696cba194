/- Base64: what the program's closures come to: bits that are gathered, and told. -/
import Derived.Test.YtlgapohnmcmhdaaDoorHexs
namespace Go.Proofs.YtlgapohnmcmhdaaDoor
open Go Go.Vm Go.RowKit
set_option linter.unusedVariables false
set_option maxRecDepth 4000
theorem pick_one {b : Bool} {o o' : V × St} (h : pickO [(b, o)] = some o') : b = true ∧ o = o' := by
  cases b with
  | true => exact ⟨rfl, by simpa [pickO] using h⟩
  | false => simp [pickO] at h
theorem tell_must {o : List V} {k : Nat} {A : Prop} (hc : Nat.beq o.length k = true ∧ Nat.ble k 1000000 = true) (h : A) : bif Nat.beq o.length (k * 1) then (bif (k + 1).ble 9223372036854775807 && ((k + 1) * 1).ble 140737488355328 then A else False) else False := by
  have h2 := Nat.le_of_ble_eq_true hc.2
  refine must_intro (by rw [Nat.mul_one]; exact hc.1) (must_intro ?_ h)
  rw [Bool.and_eq_true]
  exact ⟨Nat.ble_eq_true_of_le (by omega), Nat.ble_eq_true_of_le (by omega)⟩
theorem tell_tree6 (n : Int) (b1 b2 b3 b4 b5 : Blk) (o : List V) (k : Nat) (R : V → St → Prop) : lookT 26 (rounds 9) [.int .u64 n, .ptr 0 0] [.row [.slice 6 0 k false 0 0] 37 1, b1, b2, b3, b4, b5, .row o 5 1] R =
   (
 bif decide (0 ≤ n) && n.toNat.blt 64 then
 bif o.length.beq (k * 1) then
 bif (k + 1).ble 9223372036854775807 && ((k + 1) * 1).ble 140737488355328 then
 R (V.tuple [])
 [Blk.row [V.slice 8 0 (k + 1) false 0 0] 37 1, b1, b2, b3, b4, b5, Blk.dead,
 Blk.row
 [V.int IntKind.u8
 (↑(([65, 66, 67, 68, 69, 70, 71, 72, 73, 74, 75, 76, 77, 78, 79, 80, 81, 82, 83, 84, 85, 86, 87, 88, 89,
 90, 97, 98, 99, 100, 101, 102, 103, 104, 105, 106, 107, 108, 109, 110, 111, 112, 113, 114,
 115, 116, 117, 118, 119, 120, 121, 122, 48, 49, 50, 51, 52, 53, 54, 55, 56, 57, 43, 47] : List UInt8).getD
 n.toNat 0).toNat :
 Int)]
 5 1,
 Blk.row
 (o ++
 [V.int IntKind.u8
 (↑(([65, 66, 67, 68, 69, 70, 71, 72, 73, 74, 75, 76, 77, 78, 79, 80, 81, 82, 83, 84, 85, 86, 87, 88,
 89, 90, 97, 98, 99, 100, 101, 102, 103, 104, 105, 106, 107, 108, 109, 110, 111, 112, 113,
 114, 115, 116, 117, 118, 119, 120, 121, 122, 48, 49, 50, 51, 52, 53, 54, 55, 56, 57, 43,
 47] : List UInt8).getD
 n.toNat 0).toNat :
 Int)])
 5 1]
 else False
 else False
 else False) := by kernel_rfl
theorem tell_tree8 (n : Int) (b1 b2 b3 b4 b5 b6 b7 : Blk) (o : List V) (k : Nat) (R : V → St → Prop) : lookT 26 (rounds 9) [.int .u64 n, .ptr 0 0] [.row [.slice 8 0 k false 0 0] 37 1, b1, b2, b3, b4, b5, b6, b7, .row o 5 1] R =
   (
 bif decide (0 ≤ n) && n.toNat.blt 64 then
 bif o.length.beq (k * 1) then
 bif (k + 1).ble 9223372036854775807 && ((k + 1) * 1).ble 140737488355328 then
 R (V.tuple [])
 [Blk.row [V.slice 10 0 (k + 1) false 0 0] 37 1, b1, b2, b3, b4, b5, b6, b7, Blk.dead,
 Blk.row
 [V.int IntKind.u8
 (↑(([65, 66, 67, 68, 69, 70, 71, 72, 73, 74, 75, 76, 77, 78, 79, 80, 81, 82, 83, 84, 85, 86, 87, 88, 89,
 90, 97, 98, 99, 100, 101, 102, 103, 104, 105, 106, 107, 108, 109, 110, 111, 112, 113, 114,
 115, 116, 117, 118, 119, 120, 121, 122, 48, 49, 50, 51, 52, 53, 54, 55, 56, 57, 43, 47] : List UInt8).getD
 n.toNat 0).toNat :
 Int)]
 5 1,
 Blk.row
 (o ++
 [V.int IntKind.u8
 (↑(([65, 66, 67, 68, 69, 70, 71, 72, 73, 74, 75, 76, 77, 78, 79, 80, 81, 82, 83, 84, 85, 86, 87, 88,
 89, 90, 97, 98, 99, 100, 101, 102, 103, 104, 105, 106, 107, 108, 109, 110, 111, 112, 113,
 114, 115, 116, 117, 118, 119, 120, 121, 122, 48, 49, 50, 51, 52, 53, 54, 55, 56, 57, 43,
 47] : List UInt8).getD
 n.toNat 0).toNat :
 Int)])
 5 1]
 else False
 else False
 else False) := by kernel_rfl
theorem tell_tree0 (n : Int) (b1 b2 b3 b4 b5 : Blk) (R : V → St → Prop) : lookT 26 (rounds 9) [.int .u64 n, .ptr 0 0] [.row [.nilSlice] 37 1, b1, b2, b3, b4, b5] R =
   (
 bif decide (0 ≤ n) && n.toNat.blt 64 then
 R (V.tuple [])
 [Blk.row [V.slice 7 0 1 false 0 0] 37 1, b1, b2, b3, b4, b5,
 Blk.row
 [V.int IntKind.u8
 (↑(([65, 66, 67, 68, 69, 70, 71, 72, 73, 74, 75, 76, 77, 78, 79, 80, 81, 82, 83, 84, 85, 86, 87, 88, 89, 90,
 97, 98, 99, 100, 101, 102, 103, 104, 105, 106, 107, 108, 109, 110, 111, 112, 113, 114, 115, 116,
 117, 118, 119, 120, 121, 122, 48, 49, 50, 51, 52, 53, 54, 55, 56, 57, 43, 47] : List UInt8).getD
 n.toNat 0).toNat :
 Int)]
 5 1,
 Blk.row
 [V.int IntKind.u8
 (↑(([65, 66, 67, 68, 69, 70, 71, 72, 73, 74, 75, 76, 77, 78, 79, 80, 81, 82, 83, 84, 85, 86, 87, 88, 89, 90,
 97, 98, 99, 100, 101, 102, 103, 104, 105, 106, 107, 108, 109, 110, 111, 112, 113, 114, 115, 116,
 117, 118, 119, 120, 121, 122, 48, 49, 50, 51, 52, 53, 54, 55, 56, 57, 43, 47] : List UInt8).getD
 n.toNat 0).toNat :
 Int)]
 5 1]
 else False) := by kernel_rfl
def tellT : List V → St → Option (List (Bool × (V × St)))
  | [.int .u64 n, .ptr 0 0], [.row [.slice 6 0 k false 0 0] 37 1, b1, b2, b3, b4, b5, .row o 5 1] => some [((decide (0 ≤ n) && n.toNat.blt 64) && (Nat.beq o.length k && Nat.ble k 1000000), (.tuple [], [.row [.slice 8 0 (k + 1) false 0 0] 37 1, b1, b2, b3, b4, b5, .dead, .row [(.int .u8 ((B64.let64 n.toNat).toNat : Int))] 5 1, .row (o ++ [(.int .u8 ((B64.let64 n.toNat).toNat : Int))]) 5 1]))]
  | [.int .u64 n, .ptr 0 0], [.row [.slice 8 0 k false 0 0] 37 1, b1, b2, b3, b4, b5, b6, b7, .row o 5 1] => some [((decide (0 ≤ n) && n.toNat.blt 64) && (Nat.beq o.length k && Nat.ble k 1000000), (.tuple [], [.row [.slice 10 0 (k + 1) false 0 0] 37 1, b1, b2, b3, b4, b5, b6, b7, .dead, .row [(.int .u8 ((B64.let64 n.toNat).toNat : Int))] 5 1, .row (o ++ [(.int .u8 ((B64.let64 n.toNat).toNat : Int))]) 5 1]))]
  | [.int .u64 n, .ptr 0 0], [.row [.nilSlice] 37 1, b1, b2, b3, b4, b5] => some [((decide (0 ≤ n) && n.toNat.blt 64) && true, (.tuple [], [.row [.slice 7 0 1 false 0 0] 37 1, b1, b2, b3, b4, b5, .row [(.int .u8 ((B64.let64 n.toNat).toNat : Int))] 5 1, .row [(.int .u8 ((B64.let64 n.toNat).toNat : Int))] 5 1]))]
  | _, _ => none
theorem tell_ok (args : List V) (s : St) (l : List (Bool × (V × St))) (o : V × St) (h : tellT args s = some l) (ho : pickO l = some o) : FnSat Tryd.prog 26 args s (Is o) := by
  unfold tellT at h
  split at h
  · rename_i n k b1 b2 b3 b4 b5 o
    cases h
    obtain ⟨hc, rfl⟩ := pick_one ho
    refine lookT_ok (lk := rounds 9) (fnRoundsW 9 _ _) ?_
    rw [tell_tree6]
    rw [Bool.and_eq_true] at hc
    have h2 := hc.2
    rw [Bool.and_eq_true] at h2
    exact must_intro hc.1 (tell_must h2 rfl)
  · rename_i n k b1 b2 b3 b4 b5 b6 b7 o
    cases h
    obtain ⟨hc, rfl⟩ := pick_one ho
    refine lookT_ok (lk := rounds 9) (fnRoundsW 9 _ _) ?_
    rw [tell_tree8]
    rw [Bool.and_eq_true] at hc
    have h2 := hc.2
    rw [Bool.and_eq_true] at h2
    exact must_intro hc.1 (tell_must h2 rfl)
  · rename_i n b1 b2 b3 b4 b5
    cases h
    obtain ⟨hc, rfl⟩ := pick_one ho
    refine lookT_ok (lk := rounds 9) (fnRoundsW 9 _ _) ?_
    rw [tell_tree0]
    rw [Bool.and_true] at hc
    exact must_intro hc rfl
  · cases h
theorem tellU_tree6 (n : Int) (b1 b2 b3 b4 b5 : Blk) (o : List V) (k : Nat) (R : V → St → Prop) : lookT 29 (rounds 9) [.int .u64 n, .ptr 0 0] [.row [.slice 6 0 k false 0 0] 37 1, b1, b2, b3, b4, b5, .row o 5 1] R =
   (
 bif o.length.beq (k * 1) then
 bif (k + 1).ble 9223372036854775807 && ((k + 1) * 1).ble 140737488355328 then
 R (V.tuple [])
 [Blk.row [V.slice 8 0 (k + 1) false 0 0] 37 1, b1, b2, b3, b4, b5, Blk.dead,
 Blk.row [V.int IntKind.u8 (IntKind.u8.wrap n)] 5 1, Blk.row (o ++ [V.int IntKind.u8 (IntKind.u8.wrap n)]) 5 1]
 else False
 else False) := by kernel_rfl
theorem tellU_tree8 (n : Int) (b1 b2 b3 b4 b5 b6 b7 : Blk) (o : List V) (k : Nat) (R : V → St → Prop) : lookT 29 (rounds 9) [.int .u64 n, .ptr 0 0] [.row [.slice 8 0 k false 0 0] 37 1, b1, b2, b3, b4, b5, b6, b7, .row o 5 1] R =
   (
 bif o.length.beq (k * 1) then
 bif (k + 1).ble 9223372036854775807 && ((k + 1) * 1).ble 140737488355328 then
 R (V.tuple [])
 [Blk.row [V.slice 10 0 (k + 1) false 0 0] 37 1, b1, b2, b3, b4, b5, b6, b7, Blk.dead,
 Blk.row [V.int IntKind.u8 (IntKind.u8.wrap n)] 5 1, Blk.row (o ++ [V.int IntKind.u8 (IntKind.u8.wrap n)]) 5 1]
 else False
 else False) := by kernel_rfl
theorem tellU_tree0 (n : Int) (b1 b2 b3 b4 b5 : Blk) (R : V → St → Prop) : lookT 29 (rounds 9) [.int .u64 n, .ptr 0 0] [.row [.nilSlice] 37 1, b1, b2, b3, b4, b5] R =
   (
 R (V.tuple [])
 [Blk.row [V.slice 7 0 1 false 0 0] 37 1, b1, b2, b3, b4, b5, Blk.row [V.int IntKind.u8 (IntKind.u8.wrap n)] 5 1,
 Blk.row [V.int IntKind.u8 (IntKind.u8.wrap n)] 5 1]) := by kernel_rfl
def tellUT : List V → St → Option (List (Bool × (V × St)))
  | [.int .u64 n, .ptr 0 0], [.row [.slice 6 0 k false 0 0] 37 1, b1, b2, b3, b4, b5, .row o 5 1] => some [((Nat.beq o.length k && Nat.ble k 1000000), (.tuple [], [.row [.slice 8 0 (k + 1) false 0 0] 37 1, b1, b2, b3, b4, b5, .dead, .row [(.int .u8 (IntKind.u8.wrap n))] 5 1, .row (o ++ [(.int .u8 (IntKind.u8.wrap n))]) 5 1]))]
  | [.int .u64 n, .ptr 0 0], [.row [.slice 8 0 k false 0 0] 37 1, b1, b2, b3, b4, b5, b6, b7, .row o 5 1] => some [((Nat.beq o.length k && Nat.ble k 1000000), (.tuple [], [.row [.slice 10 0 (k + 1) false 0 0] 37 1, b1, b2, b3, b4, b5, b6, b7, .dead, .row [(.int .u8 (IntKind.u8.wrap n))] 5 1, .row (o ++ [(.int .u8 (IntKind.u8.wrap n))]) 5 1]))]
  | [.int .u64 n, .ptr 0 0], [.row [.nilSlice] 37 1, b1, b2, b3, b4, b5] => some [(true, (.tuple [], [.row [.slice 7 0 1 false 0 0] 37 1, b1, b2, b3, b4, b5, .row [(.int .u8 (IntKind.u8.wrap n))] 5 1, .row [(.int .u8 (IntKind.u8.wrap n))] 5 1]))]
  | _, _ => none
theorem tellU_ok (args : List V) (s : St) (l : List (Bool × (V × St))) (o : V × St) (h : tellUT args s = some l) (ho : pickO l = some o) : FnSat Tryd.prog 29 args s (Is o) := by
  unfold tellUT at h
  split at h
  · rename_i n k b1 b2 b3 b4 b5 o
    cases h
    obtain ⟨hc, rfl⟩ := pick_one ho
    refine lookT_ok (lk := rounds 9) (fnRoundsW 9 _ _) ?_
    rw [tellU_tree6]
    rw [Bool.and_eq_true] at hc
    exact tell_must hc rfl
  · rename_i n k b1 b2 b3 b4 b5 b6 b7 o
    cases h
    obtain ⟨hc, rfl⟩ := pick_one ho
    refine lookT_ok (lk := rounds 9) (fnRoundsW 9 _ _) ?_
    rw [tellU_tree8]
    rw [Bool.and_eq_true] at hc
    exact tell_must hc rfl
  · rename_i n b1 b2 b3 b4 b5
    cases h
    obtain ⟨hc, rfl⟩ := pick_one ho
    refine lookT_ok (lk := rounds 9) (fnRoundsW 9 _ _) ?_
    rw [tellU_tree0]
    rfl
  · cases h
noncomputable def TB : Tab := ⟨noT, addS (addS noL 26 tellT) 29 tellUT, noLks 9⟩
theorem TB_ok : TabOk3 Tryd.prog TB := ⟨noT_ok, addS_ok (addS_ok noL_ok tell_ok) tellU_ok, noLks_ok 9⟩
end Go.Proofs.YtlgapohnmcmhdaaDoor
