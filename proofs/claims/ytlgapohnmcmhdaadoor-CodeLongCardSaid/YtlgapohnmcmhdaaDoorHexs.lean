/- Hexadecimal: what the program's and the document's texts of bytes come to. -/
import Derived.Test.YtlgapohnmcmhdaaDoorBys
namespace Go.Proofs.YtlgapohnmcmhdaaDoor
open Go Go.Vm Go.RowKit
set_option linter.unusedVariables false
set_option maxRecDepth 4000
theorem hx_round (s : List UInt8) (la o : List V) (k m : Nat) (n i : Int) (R : Exit → List (Option V) → St → Prop) : roundW Tryd.prog T3 9 10 (rounds 9) 11 58 [0,3,11,12,13] [.str s, .slice 0 0 k false 0 0, .slice 1 0 m false 0 0, .int .i64 n, .int .i64 i] [.row o 5 1, .row la 5 1] R =
   (
 bif decide (i < n) then
 bif decide (0 ≤ i) && decide (i < (↑m : Int)) then
 bif (0 + i.toNat * 1).blt la.length then
 bif isIntV IntKind.u8 (la.getD (0 + i.toNat * 1) (V.bool false)) then
 bif
 decide (0 ≤ (intOfV (la.getD (0 + i.toNat * 1) (V.bool false))).fdiv 16) &&
 ((intOfV (la.getD (0 + i.toNat * 1) (V.bool false))).fdiv 16).toNat.blt 16 then
 bif
 true &&
 (IntKind.u8.wrap
 (↑(BitVec.ofInt 8 (intOfV (la.getD (0 + i.toNat * 1) (V.bool false))) &&&
 BitVec.ofInt 8 15).toNat :
 Int)).toNat.blt
 16 then
 bif o.length.beq (k * 1) then
 bif (k + 2).ble 9223372036854775807 && ((k + 2) * 1).ble 140737488355328 then
 R Exit.normal
 [some (V.str s), some (V.slice 3 0 (k + 2) false 0 0), some (V.slice 1 0 m false 0 0),
 some (V.int IntKind.i64 n), some (V.int IntKind.i64 (IntKind.i64.wrap (i + 1)))]
 [Blk.dead, Blk.row la 5 1,
 Blk.row
 [V.int IntKind.u8
 (↑(([48, 49, 50, 51, 52, 53, 54, 55, 56, 57, 97, 98, 99, 100, 101, 102] : List UInt8).getD
 ((intOfV (la.getD (0 + i.toNat * 1) (V.bool false))).fdiv 16).toNat 0).toNat :
 Int),
 V.int IntKind.u8
 (↑(([48, 49, 50, 51, 52, 53, 54, 55, 56, 57, 97, 98, 99, 100, 101, 102] : List UInt8).getD
 (IntKind.u8.wrap
 (↑(BitVec.ofInt 8 (intOfV (la.getD (0 + i.toNat * 1) (V.bool false))) &&&
 BitVec.ofInt 8 15).toNat :
 Int)).toNat
 0).toNat :
 Int)]
 5 1,
 Blk.row
 (o ++
 [V.int IntKind.u8
 (↑(([48, 49, 50, 51, 52, 53, 54, 55, 56, 57, 97, 98, 99, 100, 101, 102] : List UInt8).getD
 ((intOfV (la.getD (0 + i.toNat * 1) (V.bool false))).fdiv 16).toNat 0).toNat :
 Int),
 V.int IntKind.u8
 (↑(([48, 49, 50, 51, 52, 53, 54, 55, 56, 57, 97, 98, 99, 100, 101, 102] : List UInt8).getD
 (IntKind.u8.wrap
 (↑(BitVec.ofInt 8 (intOfV (la.getD (0 + i.toNat * 1) (V.bool false))) &&&
 BitVec.ofInt 8 15).toNat :
 Int)).toNat
 0).toNat :
 Int)])
 5 1]
 else False
 else False
 else False
 else False
 else False
 else False
 else False
 else
 R (Exit.exit 0)
 [some (V.str s), some (V.slice 0 0 k false 0 0), some (V.slice 1 0 m false 0 0), some (V.int IntKind.i64 n),
 some (V.int IntKind.i64 i)]
 [Blk.row o 5 1, Blk.row la 5 1]) := by kernel_rfl
theorem hr_round0 (s : List UInt8) (i : Int) (R : Exit → List (Option V) → St → Prop) : roundW Tryd.prog T3 9 10 (rounds 9) 13 58 [0,3,4] [.str s, .nilSlice, .int .i64 i] [] R =
   (
 bif decide (i < (↑s.length : Int)) then
 bif decide (0 ≤ i) && i.toNat.blt s.length then
 bif true && (IntKind.u8.wrap ((↑(s.getD i.toNat 0).toNat : Int).tdiv 16)).toNat.blt 16 then
 bif decide (0 ≤ i) && i.toNat.blt s.length then
 bif true && ((↑(s.getD i.toNat 0).toNat : Int).tmod 16).toNat.blt 16 then
 R Exit.normal
 [some (V.str s), some (V.slice 1 0 2 false 0 0), some (V.int IntKind.i64 (IntKind.i64.wrap (i + 1)))]
 [Blk.row
 [V.int IntKind.u8
 (↑(([48, 49, 50, 51, 52, 53, 54, 55, 56, 57, 97, 98, 99, 100, 101, 102] : List UInt8).getD
 (IntKind.u8.wrap ((↑(s.getD i.toNat 0).toNat : Int).tdiv 16)).toNat 0).toNat :
 Int),
 V.int IntKind.u8
 (↑(([48, 49, 50, 51, 52, 53, 54, 55, 56, 57, 97, 98, 99, 100, 101, 102] : List UInt8).getD
 ((↑(s.getD i.toNat 0).toNat : Int).tmod 16).toNat 0).toNat :
 Int)]
 5 1,
 Blk.row
 [V.int IntKind.u8
 (↑(([48, 49, 50, 51, 52, 53, 54, 55, 56, 57, 97, 98, 99, 100, 101, 102] : List UInt8).getD
 (IntKind.u8.wrap ((↑(s.getD i.toNat 0).toNat : Int).tdiv 16)).toNat 0).toNat :
 Int),
 V.int IntKind.u8
 (↑(([48, 49, 50, 51, 52, 53, 54, 55, 56, 57, 97, 98, 99, 100, 101, 102] : List UInt8).getD
 ((↑(s.getD i.toNat 0).toNat : Int).tmod 16).toNat 0).toNat :
 Int)]
 5 1]
 else False
 else False
 else False
 else False
 else R (Exit.exit 0) [some (V.str s), some V.nilSlice, some (V.int IntKind.i64 i)] []) := by kernel_rfl
theorem hr_round1 (s : List UInt8) (o : List V) (k : Nat) (i : Int) (R : Exit → List (Option V) → St → Prop) : roundW Tryd.prog T3 9 10 (rounds 9) 13 58 [0,3,4] [.str s, .slice 0 0 k false 0 0, .int .i64 i] [.row o 5 1] R =
   (
 bif decide (i < (↑s.length : Int)) then
 bif decide (0 ≤ i) && i.toNat.blt s.length then
 bif true && (IntKind.u8.wrap ((↑(s.getD i.toNat 0).toNat : Int).tdiv 16)).toNat.blt 16 then
 bif decide (0 ≤ i) && i.toNat.blt s.length then
 bif true && ((↑(s.getD i.toNat 0).toNat : Int).tmod 16).toNat.blt 16 then
 bif o.length.beq (k * 1) then
 bif (k + 2).ble 9223372036854775807 && ((k + 2) * 1).ble 140737488355328 then
 R Exit.normal
 [some (V.str s), some (V.slice 2 0 (k + 2) false 0 0),
 some (V.int IntKind.i64 (IntKind.i64.wrap (i + 1)))]
 [Blk.dead,
 Blk.row
 [V.int IntKind.u8
 (↑(([48, 49, 50, 51, 52, 53, 54, 55, 56, 57, 97, 98, 99, 100, 101, 102] : List UInt8).getD
 (IntKind.u8.wrap ((↑(s.getD i.toNat 0).toNat : Int).tdiv 16)).toNat 0).toNat :
 Int),
 V.int IntKind.u8
 (↑(([48, 49, 50, 51, 52, 53, 54, 55, 56, 57, 97, 98, 99, 100, 101, 102] : List UInt8).getD
 ((↑(s.getD i.toNat 0).toNat : Int).tmod 16).toNat 0).toNat :
 Int)]
 5 1,
 Blk.row
 (o ++
 [V.int IntKind.u8
 (↑(([48, 49, 50, 51, 52, 53, 54, 55, 56, 57, 97, 98, 99, 100, 101, 102] : List UInt8).getD
 (IntKind.u8.wrap ((↑(s.getD i.toNat 0).toNat : Int).tdiv 16)).toNat 0).toNat :
 Int),
 V.int IntKind.u8
 (↑(([48, 49, 50, 51, 52, 53, 54, 55, 56, 57, 97, 98, 99, 100, 101, 102] : List UInt8).getD
 ((↑(s.getD i.toNat 0).toNat : Int).tmod 16).toNat 0).toNat :
 Int)])
 5 1]
 else False
 else False
 else False
 else False
 else False
 else False
 else R (Exit.exit 0) [some (V.str s), some (V.slice 0 0 k false 0 0), some (V.int IntKind.i64 i)] [Blk.row o 5 1]) := by kernel_rfl
/-! ### the program's -/
structure HX where
  s : List UInt8
  i : Nat
def hexV (s : List UInt8) : List V := bys (B64.hex s)
theorem hexV_len (s : List UInt8) : (hexV s).length = 2 * s.length := by unfold hexV; rw [bys_len, B64.hex_len]
def hxVs (s : List UInt8) (k : Nat) (i : Int) : List V := [.str s, .slice 0 0 k false 0 0, .slice 1 0 s.length false 0 0, .int .i64 (s.length : Int), .int .i64 i]
def hxV (x : HX) : List V := hxVs x.s (hexV (x.s.take x.i)).length (x.i : Int)
def hxJ (x : HX) : St := [.row (hexV (x.s.take x.i)) 5 1, .row (bys x.s) 5 1]
def hxPre (x : HX) : Bool := okL x.s && Nat.ble x.i x.s.length
def hxMu (x : HX) : Nat := x.s.length - x.i
def hxDec : List (Option V) → St → Option HX
  | [some (.str s), some (.slice 0 0 _ false 0 0), some (.slice 1 0 _ false 0 0), some (.int .i64 _), some (.int .i64 0)], [.row _ _ _, .row _ _ _] => some ⟨s, 0⟩
  | _, _ => none
def hxOutG (H : List UInt8 → List V) : Asks HX := fun x K => K (.exit 0) (hxVs x.s (H x.s).length (x.s.length : Int)) [.row (H x.s) 5 1, .row (bys x.s) 5 1]
theorem hx_fits (s o : List UInt8) (j : Int) (k : Nat) (c : Nat) (st : St) (hc : st[c]? = some (.row (bys o) 5 1)) (h1 : st[1]? = some (.row (bys s) 5 1)) (hc1 : c ≠ 1) :
    Fits 0 (hxVs s k j) [.row (bys o) 5 1, .row (bys s) 5 1] [some (.str s), some (.slice c 0 k false 0 0), some (.slice 1 0 s.length false 0 0), some (.int .i64 (s.length : Int)), some (.int .i64 j)] st :=
  ⟨[c, 1], [.str s, .slice c 0 k false 0 0, .slice 1 0 s.length false 0 0, .int .i64 (s.length : Int), .int .i64 j], rfl, rfl, FitsM.of ⟨fb (bys_flat _) hc, fb (bys_flat _) h1, trivial⟩, by simp [hc1], fun i hi => by omega⟩
theorem hex_digits (c : UInt8) : [V.int .u8 ((([48, 49, 50, 51, 52, 53, 54, 55, 56, 57, 97, 98, 99, 100, 101, 102] : List UInt8).getD (c.toNat / 16) 0).toNat : Int), V.int .u8 ((([48, 49, 50, 51, 52, 53, 54, 55, 56, 57, 97, 98, 99, 100, 101, 102] : List UInt8).getD (c.toNat % 16) 0).toNat : Int)] = bys (B64.hex [c]) := rfl
theorem hex_snoc {s : List UInt8} {i : Nat} (h : i < s.length) : hexV (s.take i) ++ bys (B64.hex [s.getD i 0]) = hexV (s.take (i + 1)) := by
  unfold hexV; rw [take_succ_one h, B64.hex_append, bys_append]
theorem and15 (c : UInt8) : IntKind.u8.wrap (((BitVec.ofInt 8 (c.toNat : Int) &&& BitVec.ofInt 8 15).toNat : Nat) : Int) = ((c.toNat % 16 : Nat) : Int) := by
  have : ∀ n : Fin 256, IntKind.u8.wrap (((BitVec.ofInt 8 (n.val : Int) &&& BitVec.ofInt 8 15).toNat : Nat) : Int) = ((n.val % 16 : Nat) : Int) := by decide +kernel
  exact this ⟨c.toNat, c.toNat_lt⟩
theorem hx_roundOk (x : HX) (hx : hxPre x = true) : roundW Tryd.prog T3 9 10 (rounds 9) 11 58 [0,3,11,12,13] (hxV x) (hxJ x) (RoundOkA 0 hxPre hxV hxJ hxMu (hxOutG hexV) x) := by
  obtain ⟨s, i⟩ := x
  unfold hxPre at hx
  rw [Bool.and_eq_true] at hx
  have p1 := okL_le hx.1
  have p2 : i ≤ s.length := Nat.le_of_ble_eq_true hx.2
  simp only at p1
  have hlen : (hexV (s.take i)).length = 2 * i := by rw [hexV_len, List.length_take]; omega
  show roundW Tryd.prog T3 9 10 (rounds 9) 11 58 [0,3,11,12,13] [.str s, .slice 0 0 (hexV (s.take i)).length false 0 0, .slice 1 0 s.length false 0 0, .int .i64 (s.length : Int), .int .i64 (i : Int)] [.row (hexV (s.take i)) 5 1, .row (bys s) 5 1] _
  rw [hx_round]
  refine bif_intro (fun hb => ?_) (fun hb => ?_)
  · have hi : i < s.length := by have := of_decide_eq_true hb; omega
    have hw : IntKind.i64.wrap ((i : Int) + 1) = ((i + 1 : Nat) : Int) := by rw [IntWalk.i64_in _ ⟨by omega, by omega⟩]; omega
    have e0 : 0 + i * 1 = i := by omega
    simp only [Int.toNat_natCast, e0, hw, bys_getD hi]
    refine must_intro (by rw [Bool.and_eq_true]; exact ⟨decide_eq_true (by omega), hb⟩) (must_intro (Nat.ble_eq_true_of_le (by rw [bys_len]; omega)) (must_intro rfl ?_))
    generalize hc : s.getD i 0 = c
    have hlt := c.toNat_lt
    have q1 : (intOfV (V.int .u8 (c.toNat : Int))).fdiv 16 = ((c.toNat / 16 : Nat) : Int) := by show ((c.toNat : Int)).fdiv 16 = _; rw [Int.fdiv_eq_ediv_of_nonneg _ (by omega)]; omega
    have q2 : intOfV (V.int .u8 (c.toNat : Int)) = (c.toNat : Int) := rfl
    rw [q1, q2, and15 c]
    simp only [Int.toNat_natCast]
    refine must_intro (by rw [Bool.and_eq_true]; exact ⟨decide_eq_true (by omega), Nat.ble_eq_true_of_le (by omega)⟩) (must_intro (by rw [Bool.true_and]; exact Nat.ble_eq_true_of_le (by omega)) (must_intro (by rw [Nat.mul_one]; exact Nat.beq_refl _) (must_intro ?_ ?_)))
    · rw [hlen, Bool.and_eq_true]
      exact ⟨Nat.ble_eq_true_of_le (by omega), Nat.ble_eq_true_of_le (by omega)⟩
    · rw [hex_digits c]
      have hs := hex_snoc hi
      rw [hc] at hs
      rw [hs]
      refine ⟨⟨s, i + 1⟩, ?_, ?_, ?_, fun K hK => hK⟩
      · unfold hxPre
        rw [Bool.and_eq_true]
        exact ⟨hx.1, Nat.ble_eq_true_of_le hi⟩
      · have e : (hexV (s.take (i + 1))).length = (hexV (s.take i)).length + 2 := by rw [hlen, hexV_len, List.length_take]; omega
        have := hx_fits s (B64.hex (s.take (i + 1))) ((i + 1 : Nat) : Int) (hexV (s.take (i + 1))).length 3 [.dead, .row (bys s) 5 1, .row (bys (B64.hex [c])) 5 1, .row (hexV (s.take (i + 1))) 5 1] rfl rfl (by omega)
        rw [← e]
        exact this
      · simp only [hxMu]; omega
  · have hi : i = s.length := by have := of_decide_eq_false hb; omega
    subst hi
    rw [List.take_length]
    exact ⟨_, _, fun K hK => hK, hx_fits s (B64.hex s) _ _ 0 _ rfl rfl (by omega)⟩
theorem hx_loop {f : Fr} {st : St} {Q : Exit → Fr → St → Prop} (h : loopA 0 (szOf Tryd.prog 11) [0,3,11,12,13] hxDec hxPre hxV hxJ (hxOutG hexV) f st Q) : CodeSatW Tryd.prog none 0 (.loop (loopOf Tryd.prog 11 58)) f st Q :=
  loopA_ok (P := Tryd.prog) (T := T3) (k := 0) (lim := 9) (n := 10) (g := 11) (p0 := 58) (lk := rounds 9) mixed T3_ok (roundsW 9 _ _) hxMu hx_roundOk h
noncomputable def lkHxG (H : List UInt8 → List V) : Nat → Trans → Trans := withLoop 58 (loopA 0 (szOf Tryd.prog 11) [0,3,11,12,13] hxDec hxPre hxV hxJ (hxOutG H)) (rounds 9)
theorem lkHx_ok : FnLoopsW Tryd.prog 0 (lkHxG hexV) 11 := by
  unfold lkHxG
  exact fnLoopW (fnRoundsW 9 0 11) (by kernel_rfl) fun f st Q h => hx_loop h
/-! ### the document's -/
def hrSl : List UInt8 → V
  | [] => .nilSlice
  | c :: r => .slice 0 0 (2 * (c :: r).length) false 0 0
def hrV (x : HX) : List V := [.str x.s, hrSl (x.s.take x.i), .int .i64 (x.i : Int)]
def hrJ (x : HX) : St := match x.s.take x.i with
  | [] => []
  | c :: r => [.row (hexV (c :: r)) 5 1]
def hrDec : List (Option V) → St → Option HX
  | [some (.str s), some .nilSlice, some (.int .i64 0)], [] => some ⟨s, 0⟩
  | _, _ => none
def hrOutG (H : List UInt8 → List V) : Asks HX := fun x K => bif Nat.beq x.s.length 0 then K (.exit 0) [.str x.s, .nilSlice, .int .i64 0] [] else K (.exit 0) [.str x.s, .slice 0 0 (2 * x.s.length) false 0 0, .int .i64 (x.s.length : Int)] [.row (H x.s) 5 1]
theorem hr_fits (s : List UInt8) (o : List UInt8) (m : Nat) (j : Int) (c : Nat) (st : St) (hc : st[c]? = some (.row (bys o) 5 1)) :
    Fits 0 [.str s, .slice 0 0 m false 0 0, .int .i64 j] [.row (bys o) 5 1] [some (.str s), some (.slice c 0 m false 0 0), some (.int .i64 j)] st :=
  ⟨[c], [.str s, .slice c 0 m false 0 0, .int .i64 j], rfl, rfl, FitsM.of ⟨fb (bys_flat _) hc, trivial⟩, by simp, fun i hi => by omega⟩
theorem hr_fits0 (s : List UInt8) (j : Int) (st : St) : Fits 0 [.str s, .nilSlice, .int .i64 j] [] [some (.str s), some .nilSlice, some (.int .i64 j)] st :=
  ⟨[], [.str s, .nilSlice, .int .i64 j], rfl, rfl, FitsM.of trivial, by simp, fun i hi => by omega⟩
theorem hr_next {s : List UInt8} {i : Nat} (h : i < s.length) : hrV ⟨s, i + 1⟩ = [.str s, .slice 0 0 (2 * (i + 1)) false 0 0, .int .i64 ((i + 1 : Nat) : Int)] ∧ hrJ ⟨s, i + 1⟩ = [.row (hexV (s.take (i + 1))) 5 1] := by
  have hl : (s.take (i + 1)).length = i + 1 := by rw [List.length_take]; omega
  unfold hrV hrJ
  simp only
  cases ht : s.take (i + 1) with
  | nil => rw [ht] at hl; simp at hl
  | cons c r =>
    rw [ht] at hl
    refine ⟨?_, rfl⟩
    show [V.str s, V.slice 0 0 (2 * (c :: r).length) false 0 0, _] = _
    rw [hl]
theorem hr_tail (c : UInt8) : IntKind.u8.wrap ((c.toNat : Int).tdiv 16) = ((c.toNat / 16 : Nat) : Int) ∧ (c.toNat : Int).tmod 16 = ((c.toNat % 16 : Nat) : Int) := by
  have hlt := c.toNat_lt
  rw [Int.tdiv_eq_ediv_of_nonneg (by omega), Int.tmod_eq_emod_of_nonneg (by omega)]
  have : (c.toNat : Int) / 16 = ((c.toNat / 16 : Nat) : Int) := by omega
  rw [this, IntWalk.u8_in _ ⟨by omega, by omega⟩]
  exact ⟨rfl, by omega⟩
theorem hr_roundOk (x : HX) (hx : hxPre x = true) : roundW Tryd.prog T3 9 10 (rounds 9) 13 58 [0,3,4] (hrV x) (hrJ x) (RoundOkA 0 hxPre hrV hrJ hxMu (hrOutG hexV) x) := by
  obtain ⟨s, i⟩ := x
  have hx0 := hx
  unfold hxPre at hx
  rw [Bool.and_eq_true] at hx
  have p1 := okL_le hx.1
  have p2 : i ≤ s.length := Nat.le_of_ble_eq_true hx.2
  simp only at p1
  have go : i < s.length → ∀ (st : St) (c : Nat) (m : Nat), m = 2 * (i + 1) → st[c]? = some (.row (hexV (s.take (i + 1))) 5 1) → RoundOkA 0 hxPre hrV hrJ hxMu (hrOutG hexV) ⟨s, i⟩ .normal [some (.str s), some (.slice c 0 m false 0 0), some (.int .i64 ((i + 1 : Nat) : Int))] st := by
    intro hi st c m hm hc
    obtain ⟨n1, n2⟩ := hr_next hi
    refine ⟨⟨s, i + 1⟩, ?_, ?_, by simp only [hxMu]; omega, fun K hK => hK⟩
    · unfold hxPre
      rw [Bool.and_eq_true]
      exact ⟨hx.1, Nat.ble_eq_true_of_le hi⟩
    · rw [n1, n2, hm]
      exact hr_fits s _ _ _ c st hc
  cases ht : s.take i with
  | nil =>
    have h0 : i = 0 := by
      have : (s.take i).length = 0 := by rw [ht]; rfl
      rw [List.length_take] at this
      omega
    subst h0
    show roundW Tryd.prog T3 9 10 (rounds 9) 13 58 [0,3,4] [.str s, .nilSlice, .int .i64 ((0 : Nat) : Int)] [] _
    rw [hr_round0]
    refine bif_intro (fun hb => ?_) (fun hb => ?_)
    · have hi : 0 < s.length := by have := of_decide_eq_true hb; omega
      have hw : IntKind.i64.wrap (((0 : Nat) : Int) + 1) = ((0 + 1 : Nat) : Int) := by rw [IntWalk.i64_in _ ⟨by omega, by omega⟩]; omega
      obtain ⟨t1, t2⟩ := hr_tail (s.getD 0 0)
      have hlt := (s.getD 0 0).toNat_lt
      simp only [Int.toNat_natCast, hw, t1, t2]
      refine must_intro (by rw [Bool.and_eq_true]; exact ⟨decide_eq_true (by omega), Nat.ble_eq_true_of_le hi⟩) (must_intro (by rw [Bool.true_and]; exact Nat.ble_eq_true_of_le (by omega)) (must_intro (by rw [Bool.and_eq_true]; exact ⟨decide_eq_true (by omega), Nat.ble_eq_true_of_le hi⟩) (must_intro (by rw [Bool.true_and]; exact Nat.ble_eq_true_of_le (by omega)) ?_)))
      have hs := hex_snoc hi
      rw [hex_digits]
      refine go hi _ 1 _ rfl ?_
      rw [← hs]; rfl
    · have hs : s = [] := by have := of_decide_eq_false hb; exact List.length_eq_zero_iff.1 (by omega)
      subst hs
      exact ⟨_, _, fun K hK => hK, hr_fits0 [] 0 _⟩
  | cons c r =>
    have hl : (c :: r).length = i := by rw [← ht, List.length_take]; omega
    have hil : 0 < i := by rw [← hl]; simp
    have eJ : hrJ ⟨s, i⟩ = [.row (hexV (s.take i)) 5 1] := by unfold hrJ; simp only [ht]
    have eV : hrV ⟨s, i⟩ = [.str s, .slice 0 0 (2 * i) false 0 0, .int .i64 (i : Int)] := by
      unfold hrV
      simp only [ht]
      show [V.str s, V.slice 0 0 (2 * (c :: r).length) false 0 0, _] = _
      rw [hl]
    rw [eJ, eV, hr_round1]
    have hlen : (hexV (s.take i)).length = 2 * i := by rw [hexV_len, List.length_take]; omega
    refine bif_intro (fun hb => ?_) (fun hb => ?_)
    · have hi : i < s.length := by have := of_decide_eq_true hb; omega
      have hw : IntKind.i64.wrap ((i : Int) + 1) = ((i + 1 : Nat) : Int) := by rw [IntWalk.i64_in _ ⟨by omega, by omega⟩]; omega
      obtain ⟨t1, t2⟩ := hr_tail (s.getD i 0)
      have hlt := (s.getD i 0).toNat_lt
      simp only [Int.toNat_natCast, hw, t1, t2]
      refine must_intro (by rw [Bool.and_eq_true]; exact ⟨decide_eq_true (by omega), Nat.ble_eq_true_of_le hi⟩) (must_intro (by rw [Bool.true_and]; exact Nat.ble_eq_true_of_le (by omega)) (must_intro (by rw [Bool.and_eq_true]; exact ⟨decide_eq_true (by omega), Nat.ble_eq_true_of_le hi⟩) (must_intro (by rw [Bool.true_and]; exact Nat.ble_eq_true_of_le (by omega)) (must_intro (by rw [hlen, Nat.mul_one]; exact Nat.beq_refl _) (must_intro ?_ ?_)))))
      · rw [Bool.and_eq_true]
        exact ⟨Nat.ble_eq_true_of_le (by omega), Nat.ble_eq_true_of_le (by omega)⟩
      · rw [hex_digits, hex_snoc hi]
        exact go hi _ 2 _ (by omega) rfl
    · have hi : i = s.length := by have := of_decide_eq_false hb; omega
      subst hi
      refine ⟨[.str s, .slice 0 0 (2 * s.length) false 0 0, .int .i64 (s.length : Int)], [.row (hexV s) 5 1], fun K hK => ?_, ?_⟩
      · have hK : (bif Nat.beq s.length 0 then _ else K (.exit 0) [.str s, .slice 0 0 (2 * s.length) false 0 0, .int .i64 (s.length : Int)] [.row (hexV s) 5 1]) := hK
        have hb : Nat.beq s.length 0 = false := by
          cases hb : Nat.beq s.length 0 with
          | false => rfl
          | true => have := Nat.eq_of_beq_eq_true hb; omega
        rw [hb, cond_false] at hK
        exact hK
      · rw [List.take_length]
        exact hr_fits s _ _ _ 0 _ rfl
theorem hr_loop {f : Fr} {st : St} {Q : Exit → Fr → St → Prop} (h : loopA 0 (szOf Tryd.prog 13) [0,3,4] hrDec hxPre hrV hrJ (hrOutG hexV) f st Q) : CodeSatW Tryd.prog none 0 (.loop (loopOf Tryd.prog 13 58)) f st Q :=
  loopA_ok (P := Tryd.prog) (T := T3) (k := 0) (lim := 9) (n := 10) (g := 13) (p0 := 58) (lk := rounds 9) mixed T3_ok (roundsW 9 _ _) hxMu hr_roundOk h
noncomputable def lkHrG (H : List UInt8 → List V) : Nat → Trans → Trans := withLoop 58 (loopA 0 (szOf Tryd.prog 13) [0,3,4] hrDec hxPre hrV hrJ (hrOutG H)) (rounds 9)
theorem lkHr_ok : FnLoopsW Tryd.prog 0 (lkHrG hexV) 13 := by
  unfold lkHrG
  exact fnLoopW (fnRoundsW 9 0 13) (by kernel_rfl) fun f st Q h => hr_loop h
noncomputable def TX (H : List UInt8 → List V) : Tab := ⟨noT, noL, addLk (addLk (noLks 9) 11 0 (lkHxG H)) 13 0 (lkHrG H)⟩
theorem TX_ok : TabOk3 Tryd.prog (TX hexV) := ⟨noT_ok, noL_ok, addLk_ok (addLk_ok (noLks_ok 9) lkHx_ok) lkHr_ok⟩
theorem hex_tree (H : List UInt8 → List V) (s : List UInt8) (R : V → Prop) : runW Tryd.prog (TX H) 9 10 11 [.str s] R =
   (
    bif
        true && decide (0 ≤ IntKind.i64.wrap (2 * (↑s.length : Int))) &&
              decide (IntKind.i64.wrap (2 * (↑s.length : Int)) ≤ 9223372036854775807) &&
            decide (1 * IntKind.i64.wrap (2 * (↑s.length : Int)) ≤ 281474976710656) &&
          true then
      bif s.length.ble 281474976710656 then
        Fits 0
            [V.str s, V.slice 0 0 0 false 0 0, V.slice 1 0 s.length false 0 0, V.int IntKind.i64 (↑s.length : Int),
              V.int IntKind.i64 0]
            [Blk.row [] 5 1, Blk.row (List.map (fun b => V.int IntKind.u8 (↑b.toNat : Int)) s) 5 1]
            [some (V.str s), some (V.slice 0 0 0 false 0 0), some (V.slice 1 0 s.length false 0 0),
              some (V.int IntKind.i64 (↑s.length : Int)), some (V.int IntKind.i64 0)]
            [Blk.row [] 5 1, Blk.row (List.map (fun b => V.int IntKind.u8 (↑b.toNat : Int)) s) 5 1] ∧
          bif hxPre { s := s, i := 0 } then
            bif (0 + (H s).length).ble (H s).length then
              bif (List.take (H s).length (H s)).all isByte then
                R (V.str (List.map Vm.byteOf (List.take (H s).length (H s))))
              else False
            else False
          else False
      else False
    else False) := by kernel_rfl
theorem hexr_tree (H : List UInt8 → List V) (s : List UInt8) (R : V → Prop) : runW Tryd.prog (TX H) 9 10 13 [.str s] R =
   (
    Fits 0 [V.str s, V.nilSlice, V.int IntKind.i64 0] [] [some (V.str s), some V.nilSlice, some (V.int IntKind.i64 0)] [] ∧
      bif hxPre { s := s, i := 0 } then
        bif s.length.beq 0 then R (V.str [])
        else
          bif (0 + 2 * s.length).ble (H s).length then
            bif (List.take (2 * s.length) (H s)).all isByte then
              R (V.str (List.map Vm.byteOf (List.take (2 * s.length) (H s))))
            else False
          else False
      else False) := by kernel_rfl
def hexT : List V → Option (List (Bool × (V × St)))
  | [.str s] => some [(okL s, (.str (B64.hex s), []))]
  | _ => none
theorem hex_ok (args : List V) (l : List (Bool × (V × St))) (o : V × St) (h : hexT args = some l) (ho : pickO l = some o) : FnSat Tryd.prog 11 args [] (Is o) := by
  unfold hexT at h
  split at h
  · rename_i s
    cases h
    cases hk : okL s with
    | false => rw [hk] at ho; cases ho
    | true =>
      rw [hk] at ho
      cases ho
      have p1 := okL_le hk
      refine pureW_of (lim := 9) (n := 10) mixed TX_ok rfl rfl ?_
      rw [hex_tree]
      have hw : IntKind.i64.wrap (2 * (s.length : Int)) = 2 * (s.length : Int) := IntWalk.i64_in _ ⟨by omega, by omega⟩
      rw [hw]
      refine must_intro ?_ (must_intro (Nat.ble_eq_true_of_le (by omega)) ⟨?_, must_intro ?_ (must_intro (Nat.ble_eq_true_of_le (by omega)) (must_intro ?_ ?_))⟩)
      · simp only [Bool.and_eq_true, decide_eq_true_eq, Bool.and_true, Bool.true_and]; omega
      · exact hx_fits s [] 0 0 0 _ rfl rfl (by omega)
      · unfold hxPre; rw [Bool.and_eq_true]; exact ⟨hk, rfl⟩
      · rw [List.take_length]; exact isByte_bys _
      · rw [List.take_length]; unfold hexV; rw [byteOf_bys]
  · cases h
theorem hexr_ok (args : List V) (l : List (Bool × (V × St))) (o : V × St) (h : hexT args = some l) (ho : pickO l = some o) : FnSat Tryd.prog 13 args [] (Is o) := by
  unfold hexT at h
  split at h
  · rename_i s
    cases h
    cases hk : okL s with
    | false => rw [hk] at ho; cases ho
    | true =>
      rw [hk] at ho
      cases ho
      have p1 := okL_le hk
      refine pureW_of (lim := 9) (n := 10) mixed TX_ok rfl rfl ?_
      rw [hexr_tree]
      refine ⟨hr_fits0 s 0 _, must_intro (by unfold hxPre; rw [Bool.and_eq_true]; exact ⟨hk, rfl⟩) (bif_intro (fun h0 => ?_) (fun h0 => ?_))⟩
      · have hs : s = [] := List.length_eq_zero_iff.1 (Nat.eq_of_beq_eq_true h0)
        subst hs; rfl
      · have e : (hexV s).length = 2 * s.length := hexV_len s
        rw [← e, List.take_length]
        refine must_intro (Nat.ble_eq_true_of_le (by omega)) (must_intro (isByte_bys _) ?_)
        unfold hexV; rw [byteOf_bys]
  · cases h
end Go.Proofs.YtlgapohnmcmhdaaDoor
