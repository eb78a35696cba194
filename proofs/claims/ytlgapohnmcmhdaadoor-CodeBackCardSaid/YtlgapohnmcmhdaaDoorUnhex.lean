/- Hexadecimal: what the program's and the document's bytes of texts come to. -/
import Derived.Test.YtlgapohnmcmhdaaDoorHexs
namespace Go.Proofs.YtlgapohnmcmhdaaDoor
open Go Go.Vm Go.RowKit
set_option linter.unusedVariables false
set_option maxRecDepth 4000
/-! ### a letter's place -/
theorem at_round (l : List UInt8) (c : Int) (i : Int) (R : Exit → List (Option V) → St → Prop) : roundW Tryd.prog T3 9 10 (rounds 9) 28 26 [0,1,4,5] [.str l, .int .u8 c, .int .i64 0, .int .i64 i] [] R =
   (
 bif decide (i < (↑l.length : Int)) then
 bif decide (0 ≤ i) && i.toNat.blt l.length then
 bif (↑(l.getD i.toNat 0).toNat : Int) == c then
 R Exit.ret [some (V.str l), some (V.int IntKind.u8 c), some (V.int IntKind.i64 i), some (V.int IntKind.i64 i)] []
 else
 R Exit.normal
 [some (V.str l), some (V.int IntKind.u8 c), some (V.int IntKind.i64 0),
 some (V.int IntKind.i64 (IntKind.i64.wrap (i + 1)))]
 []
 else False
 else
 R (Exit.exit 0) [some (V.str l), some (V.int IntKind.u8 c), some (V.int IntKind.i64 0), some (V.int IntKind.i64 i)] []) := by kernel_rfl
theorem ux_round0 (s : List UInt8) (i : Int) (R : Exit → List (Option V) → St → Prop) : roundW Tryd.prog T3 9 10 (rounds 9) 15 122 [0,4,5,2,3] [.str s, .nilSlice, .int .i64 i, .str [], .int .i64 0] [] R =
   (
 bif decide (i < (↑s.length : Int)) then
 bif decide (0 ≤ i) && i.toNat.blt s.length then
 bif decide (0 ≤ IntKind.i64.wrap (i + 1)) && (IntKind.i64.wrap (i + 1)).toNat.blt s.length then
 bif
 decide
 (Lib.indexByte [48, 49, 50, 51, 52, 53, 54, 55, 56, 57, 97, 98, 99, 100, 101, 102]
 (UInt8.ofNat (↑(s.getD i.toNat 0).toNat : Int).toNat) <
 0) then
 R Exit.ret
 [some (V.str s), some V.nilSlice, some (V.int IntKind.i64 i), some (V.str []), some (V.int IntKind.i64 4)] []
 else
 bif
 decide
 (Lib.indexByte [48, 49, 50, 51, 52, 53, 54, 55, 56, 57, 97, 98, 99, 100, 101, 102]
 (UInt8.ofNat (↑(s.getD (IntKind.i64.wrap (i + 1)).toNat 0).toNat : Int).toNat) <
 0) then
 R Exit.ret
 [some (V.str s), some V.nilSlice, some (V.int IntKind.i64 i), some (V.str []), some (V.int IntKind.i64 4)]
 []
 else
 R Exit.normal
 [some (V.str s), some (V.slice 1 0 1 false 0 0), some (V.int IntKind.i64 (IntKind.i64.wrap (i + 2))),
 some (V.str []), some (V.int IntKind.i64 0)]
 [Blk.row
 [V.int IntKind.u8
 (IntKind.u8.wrap
 (IntKind.i64.wrap
 (↑(BitVec.ofInt 64
 (IntKind.i64.wrap
 (Lib.indexByte [48, 49, 50, 51, 52, 53, 54, 55, 56, 57, 97, 98, 99, 100, 101, 102]
 (UInt8.ofNat (↑(s.getD i.toNat 0).toNat : Int).toNat) *
 16)) |||
 BitVec.ofInt 64
 (Lib.indexByte [48, 49, 50, 51, 52, 53, 54, 55, 56, 57, 97, 98, 99, 100, 101, 102]
 (UInt8.ofNat
 (↑(s.getD (IntKind.i64.wrap (i + 1)).toNat 0).toNat : Int).toNat))).toNat :
 Int)))]
 5 1,
 Blk.row
 [V.int IntKind.u8
 (IntKind.u8.wrap
 (IntKind.i64.wrap
 (↑(BitVec.ofInt 64
 (IntKind.i64.wrap
 (Lib.indexByte [48, 49, 50, 51, 52, 53, 54, 55, 56, 57, 97, 98, 99, 100, 101, 102]
 (UInt8.ofNat (↑(s.getD i.toNat 0).toNat : Int).toNat) *
 16)) |||
 BitVec.ofInt 64
 (Lib.indexByte [48, 49, 50, 51, 52, 53, 54, 55, 56, 57, 97, 98, 99, 100, 101, 102]
 (UInt8.ofNat
 (↑(s.getD (IntKind.i64.wrap (i + 1)).toNat 0).toNat : Int).toNat))).toNat :
 Int)))]
 5 1]
 else False
 else False
 else
 R (Exit.exit 0)
 [some (V.str s), some V.nilSlice, some (V.int IntKind.i64 i), some (V.str []), some (V.int IntKind.i64 0)] []) := by kernel_rfl
theorem ux_round1 (s : List UInt8) (o : List V) (k : Nat) (i : Int) (R : Exit → List (Option V) → St → Prop) : roundW Tryd.prog T3 9 10 (rounds 9) 15 122 [0,4,5,2,3] [.str s, .slice 0 0 k false 0 0, .int .i64 i, .str [], .int .i64 0] [.row o 5 1] R =
   (
 bif decide (i < (↑s.length : Int)) then
 bif decide (0 ≤ i) && i.toNat.blt s.length then
 bif decide (0 ≤ IntKind.i64.wrap (i + 1)) && (IntKind.i64.wrap (i + 1)).toNat.blt s.length then
 bif
 decide
 (Lib.indexByte [48, 49, 50, 51, 52, 53, 54, 55, 56, 57, 97, 98, 99, 100, 101, 102]
 (UInt8.ofNat (↑(s.getD i.toNat 0).toNat : Int).toNat) <
 0) then
 R Exit.ret
 [some (V.str s), some (V.slice 0 0 k false 0 0), some (V.int IntKind.i64 i), some (V.str []),
 some (V.int IntKind.i64 4)]
 [Blk.row o 5 1]
 else
 bif
 decide
 (Lib.indexByte [48, 49, 50, 51, 52, 53, 54, 55, 56, 57, 97, 98, 99, 100, 101, 102]
 (UInt8.ofNat (↑(s.getD (IntKind.i64.wrap (i + 1)).toNat 0).toNat : Int).toNat) <
 0) then
 R Exit.ret
 [some (V.str s), some (V.slice 0 0 k false 0 0), some (V.int IntKind.i64 i), some (V.str []),
 some (V.int IntKind.i64 4)]
 [Blk.row o 5 1]
 else
 bif o.length.beq (k * 1) then
 bif (k + 1).ble 9223372036854775807 && ((k + 1) * 1).ble 140737488355328 then
 R Exit.normal
 [some (V.str s), some (V.slice 2 0 (k + 1) false 0 0),
 some (V.int IntKind.i64 (IntKind.i64.wrap (i + 2))), some (V.str []), some (V.int IntKind.i64 0)]
 [Blk.dead,
 Blk.row
 [V.int IntKind.u8
 (IntKind.u8.wrap
 (IntKind.i64.wrap
 (↑(BitVec.ofInt 64
 (IntKind.i64.wrap
 (Lib.indexByte
 [48, 49, 50, 51, 52, 53, 54, 55, 56, 57, 97, 98, 99, 100, 101, 102]
 (UInt8.ofNat (↑(s.getD i.toNat 0).toNat : Int).toNat) *
 16)) |||
 BitVec.ofInt 64
 (Lib.indexByte [48, 49, 50, 51, 52, 53, 54, 55, 56, 57, 97, 98, 99, 100, 101, 102]
 (UInt8.ofNat
 (↑(s.getD (IntKind.i64.wrap (i + 1)).toNat 0).toNat : Int).toNat))).toNat :
 Int)))]
 5 1,
 Blk.row
 (o ++
 [V.int IntKind.u8
 (IntKind.u8.wrap
 (IntKind.i64.wrap
 (↑(BitVec.ofInt 64
 (IntKind.i64.wrap
 (Lib.indexByte
 [48, 49, 50, 51, 52, 53, 54, 55, 56, 57, 97, 98, 99, 100, 101, 102]
 (UInt8.ofNat (↑(s.getD i.toNat 0).toNat : Int).toNat) *
 16)) |||
 BitVec.ofInt 64
 (Lib.indexByte
 [48, 49, 50, 51, 52, 53, 54, 55, 56, 57, 97, 98, 99, 100, 101, 102]
 (UInt8.ofNat
 (↑(s.getD (IntKind.i64.wrap (i + 1)).toNat 0).toNat : Int).toNat))).toNat :
 Int)))])
 5 1]
 else False
 else False
 else False
 else False
 else
 R (Exit.exit 0)
 [some (V.str s), some (V.slice 0 0 k false 0 0), some (V.int IntKind.i64 i), some (V.str []),
 some (V.int IntKind.i64 0)]
 [Blk.row o 5 1]) := by kernel_rfl
def atI : List UInt8 → Int → Int
  | [], _ => -1
  | d :: r, c => bif ((d.toNat : Nat) : Int) == c then 0 else bif atI r c == -1 then -1 else atI r c + 1
theorem atI_ge : ∀ (l : List UInt8) (c : Int), -1 ≤ atI l c
  | [], c => Int.le_refl _
  | d :: r, c => by
    have := atI_ge r c
    rw [atI]
    cases ((d.toNat : Nat) : Int) == c with
    | true => rw [cond_true]; decide
    | false =>
      rw [cond_false]
      cases h : atI r c == -1 with
      | true => rw [cond_true]; decide
      | false => rw [cond_false]; omega
theorem at_pos : ∀ (l : List UInt8) (c : UInt8) (k : Nat), (match B64.posF l c k with | some n => atI l (c.toNat : Int) = ((n - k : Nat) : Int) ∧ k ≤ n | none => atI l (c.toNat : Int) = -1) ∧ -1 ≤ atI l (c.toNat : Int)
  | [], c, k => ⟨rfl, Int.le_refl _⟩
  | d :: r, c, k => by
    obtain ⟨h1, h2⟩ := at_pos r c (k + 1)
    rw [B64.posF, atI]
    have e : (((d.toNat : Nat) : Int) == ((c.toNat : Nat) : Int)) = (d == c) := by
      rw [Bool.eq_iff_iff, beq_iff_eq, beq_iff_eq]
      exact ⟨fun h => UInt8.toNat_inj.1 (by omega), fun h => by rw [h]⟩
    rw [e]
    cases d == c with
    | true => rw [cond_true, cond_true]; exact ⟨⟨by omega, Nat.le_refl _⟩, by decide⟩
    | false =>
      rw [cond_false, cond_false]
      cases hp : B64.posF r c (k + 1) with
      | none =>
        rw [hp] at h1
        simp only at h1
        rw [h1]; exact ⟨rfl, by decide⟩
      | some n =>
        rw [hp] at h1
        simp only at h1
        obtain ⟨h3, h4⟩ := h1
        have : (atI r (c.toNat : Int) == -1) = false := by
          rw [h3]
          exact beq_false_of_ne (by omega)
        rw [this, cond_false, h3]
        exact ⟨⟨by omega, by omega⟩, by omega⟩
theorem ib_at (l : List UInt8) (c : UInt8) : Go.Lib.indexByte l c = atI l (c.toNat : Int) := by
  induction l with
  | nil => rfl
  | cons d r ih =>
    rw [atI, Go.Lib.indexByte, ih]
    have e : (((d.toNat : Nat) : Int) == ((c.toNat : Nat) : Int)) = (d == c) := by
      rw [Bool.eq_iff_iff, beq_iff_eq, beq_iff_eq]
      exact ⟨fun h => UInt8.toNat_inj.1 (by omega), fun h => by rw [h]⟩
    rw [e]
    cases d == c with
    | true => rfl
    | false =>
      cases atI r (c.toNat : Int) == -1 with
      | true => rfl
      | false => rfl
def atV (o : Option Nat) : Int := match o with
  | some n => (n : Int)
  | none => -1
theorem at_16 (c : UInt8) : atI B64.L16 (c.toNat : Int) = atV (B64.pos16 c) := by
  have h := (at_pos B64.L16 c 0).1
  unfold B64.pos16
  cases hp : B64.posF B64.L16 c 0 with
  | none => rw [hp] at h; exact h
  | some n => rw [hp] at h; exact h.1
theorem at_64 (c : UInt8) : atI B64.L64 (c.toNat : Int) = atV (B64.pos64 c) := by
  have h := (at_pos B64.L64 c 0).1
  unfold B64.pos64
  cases hp : B64.posF B64.L64 c 0 with
  | none => rw [hp] at h; exact h
  | some n => rw [hp] at h; exact h.1
/-! the loop -/
structure AX where
  l : List UInt8
  c : Int
  i : Nat
def axV (x : AX) : List V := [.str x.l, .int .u8 x.c, .int .i64 0, .int .i64 (x.i : Int)]
def axJ (_ : AX) : St := []
def axPre (x : AX) : Bool := Nat.ble x.l.length 64 && (Nat.ble x.i x.l.length && atI x.l x.c == (bif atI (x.l.drop x.i) x.c == -1 then -1 else atI (x.l.drop x.i) x.c + (x.i : Int)))
def axMu (x : AX) : Nat := x.l.length - x.i
def axDec : List (Option V) → St → Option AX
  | [some (.str l), some (.int .u8 c), some (.int .i64 0), some (.int .i64 0)], [] => some ⟨l, c, 0⟩
  | _, _ => none
def axOut : Asks AX := fun x K => bif atI x.l x.c == -1 then K (.exit 0) [.str x.l, .int .u8 x.c, .int .i64 0, .int .i64 (x.l.length : Int)] [] else K .ret [.str x.l, .int .u8 x.c, .int .i64 (atI x.l x.c), .int .i64 (atI x.l x.c)] []
theorem ax_roundOk (x : AX) (hx : axPre x = true) : roundW Tryd.prog T3 9 10 (rounds 9) 28 26 [0,1,4,5] (axV x) (axJ x) (RoundOkA 0 axPre axV axJ axMu axOut x) := by
  obtain ⟨l, c, i⟩ := x
  have hx0 := hx
  unfold axPre at hx
  rw [Bool.and_eq_true, Bool.and_eq_true] at hx
  have p1 : l.length ≤ 64 := Nat.le_of_ble_eq_true hx.1
  have p2 : i ≤ l.length := Nat.le_of_ble_eq_true hx.2.1
  have p3 : atI l c = bif atI (l.drop i) c == -1 then -1 else atI (l.drop i) c + (i : Int) := eq_of_beq hx.2.2
  show roundW Tryd.prog T3 9 10 (rounds 9) 28 26 [0,1,4,5] [.str l, .int .u8 c, .int .i64 0, .int .i64 (i : Int)] [] _
  rw [at_round]
  cases hd : l.drop i with
  | nil =>
    have hi := drop_nil hd p2
    subst hi
    rw [hd] at p3
    have p3 : atI l c = -1 := p3
    have hb : decide (((l.length : Nat) : Int) < (l.length : Int)) = false := decide_eq_false (by omega)
    rw [hb]
    refine ⟨[.str l, .int .u8 c, .int .i64 0, .int .i64 (l.length : Int)], [], fun K hK => ?_, bfits _ [] _ _ rfl rfl⟩
    have hK : bif atI l c == -1 then K (.exit 0) [.str l, .int .u8 c, .int .i64 0, .int .i64 (l.length : Int)] [] else _ := hK
    rw [p3] at hK
    exact hK
  | cons a r =>
    obtain ⟨d1, d2, d3⟩ := drop_cons hd
    rw [hd, atI] at p3
    have hb : decide (((i : Nat) : Int) < (l.length : Int)) = true := decide_eq_true (by omega)
    have hw : IntKind.i64.wrap ((i : Int) + 1) = ((i + 1 : Nat) : Int) := by rw [IntWalk.i64_in _ ⟨by omega, by omega⟩]; omega
    simp only [hb, hw, Int.toNat_natCast, d1]
    refine must_intro (by rw [Bool.and_eq_true]; exact ⟨decide_eq_true (by omega), Nat.ble_eq_true_of_le d3⟩) ?_
    cases he : ((a.toNat : Nat) : Int) == c with
    | true =>
      rw [he, cond_true] at p3
      have p3 : atI l c = (i : Int) := by rw [p3]; show (0 : Int) + i = i; omega
      refine ⟨[.str l, .int .u8 c, .int .i64 (i : Int), .int .i64 (i : Int)], [], fun K hK => ?_, bfits _ [] _ _ rfl rfl⟩
      have hK : bif atI l c == -1 then _ else K .ret [.str l, .int .u8 c, .int .i64 (atI l c), .int .i64 (atI l c)] [] := hK
      have hne : (atI l c == -1) = false := beq_false_of_ne (by omega)
      rw [hne, cond_false, p3] at hK
      exact hK
    | false =>
      rw [he, cond_false] at p3
      refine ⟨⟨l, c, i + 1⟩, ?_, bfits _ [] _ _ rfl rfl, by simp only [axMu]; omega, fun K hK => hK⟩
      unfold axPre
      rw [Bool.and_eq_true, Bool.and_eq_true]
      refine ⟨hx.1, Nat.ble_eq_true_of_le d3, ?_⟩
      show (atI l c == bif atI (l.drop (i + 1)) c == -1 then -1 else atI (l.drop (i + 1)) c + ((i + 1 : Nat) : Int)) = true
      rw [d2, p3]
      cases hr : atI r c == -1 with
      | true => rfl
      | false =>
        rw [cond_false, cond_false]
        have hge : -1 ≤ atI r c := atI_ge r c
        have hne : atI r c ≠ -1 := fun h => by rw [h] at hr; cases hr
        have : (atI r c + 1 == -1) = false := beq_false_of_ne (by omega)
        rw [this, cond_false]
        exact beq_iff_eq.2 (by omega)
def atP : List V → Option V
  | [.str l, .int .u8 c] => bif eqLL [.str l] [.str B64.L16] || eqLL [.str l] [.str B64.L64] then some (.int .i64 (atI l c)) else none
  | _ => none
noncomputable def lkA : Nat → Trans → Trans := withLoop 26 (loopA 0 (szOf Tryd.prog 28) [0,1,4,5] axDec axPre axV axJ axOut) (rounds 9)
theorem ax_loop {f : Fr} {st : St} {Q : Exit → Fr → St → Prop} (h : loopA 0 (szOf Tryd.prog 28) [0,1,4,5] axDec axPre axV axJ axOut f st Q) : CodeSatW Tryd.prog none 0 (.loop (loopOf Tryd.prog 28 26)) f st Q :=
  loopA_ok (P := Tryd.prog) (T := T3) (k := 0) (lim := 9) (n := 10) (g := 28) (p0 := 26) (lk := rounds 9) mixed T3_ok (roundsW 9 _ _) axMu ax_roundOk h
theorem lkA_ok : FnLoopsW Tryd.prog 0 lkA 28 := by
  unfold lkA
  exact fnLoopW (fnRoundsW 9 0 28) (by kernel_rfl) fun f st Q h => ax_loop h
noncomputable def TA0 : Tab := ⟨noT, noL, addLk (noLks 9) 28 0 lkA⟩
theorem TA0_ok : TabOk3 Tryd.prog TA0 := ⟨noT_ok, noL_ok, addLk_ok (noLks_ok 9) lkA_ok⟩
theorem at_tree (l : List UInt8) (c : Int) (R : V → Prop) : runW Tryd.prog TA0 9 10 28 [.str l, .int .u8 c] R =
   (
    Fits 0 [V.str l, V.int IntKind.u8 c, V.int IntKind.i64 0, V.int IntKind.i64 0] []
        [some (V.str l), some (V.int IntKind.u8 c), some (V.int IntKind.i64 0), some (V.int IntKind.i64 0)] [] ∧
      bif axPre { l := l, c := c, i := 0 } then
        bif atI l c == -1 then R (V.int IntKind.i64 (-1)) else R (V.int IntKind.i64 (atI l c))
      else False) := by kernel_rfl
theorem at_sat (l : List UInt8) (c : Int) (hl : l.length ≤ 64) : FnSat Tryd.prog 28 [.str l, .int .u8 c] [] (Is (.int .i64 (atI l c), [])) := by
  refine pureW_of (lim := 9) (n := 10) mixed TA0_ok rfl rfl ?_
  rw [at_tree]
  refine ⟨bfits _ [] _ _ rfl rfl, must_intro ?_ (bif_intro (fun h => ?_) (fun h => rfl))⟩
  · unfold axPre
    rw [Bool.and_eq_true, Bool.and_eq_true]
    refine ⟨Nat.ble_eq_true_of_le hl, rfl, ?_⟩
    show (atI l c == bif atI l c == -1 then -1 else atI l c + 0) = true
    cases h : atI l c == -1 with
    | true => rw [cond_true]; exact h
    | false => rw [cond_false]; exact beq_iff_eq.2 (by omega)
  · rw [eq_of_beq h]
theorem at_ok (args : List V) (v : V) (h : atP args = some v) : FnSat Tryd.prog 28 args [] (Is (v, [])) := by
  unfold atP at h
  split at h
  · rename_i l c
    cases h1 : eqLL [.str l] [.str B64.L16] with
    | true => rw [h1, Bool.true_or, cond_true] at h; cases h; cases eqLL_ok _ _ h1; exact at_sat _ c (by decide)
    | false =>
      cases h2 : eqLL [.str l] [.str B64.L64] with
      | true => rw [h1, h2, Bool.or_true, cond_true] at h; cases h; cases eqLL_ok _ _ h2; exact at_sat _ c (by decide)
      | false => rw [h1, h2] at h; cases h
  · cases h
noncomputable def TA : Tab := ⟨addP noT 28 atP, noL, noLks 9⟩
theorem TA_ok : TabOk3 Tryd.prog TA := ⟨addP_ok noT_ok at_ok, noL_ok, noLks_ok 9⟩
theorem ur_round0 (s : List UInt8) (i : Int) (R : Exit → List (Option V) → St → Prop) : roundW Tryd.prog TA 9 10 (rounds 9) 16 58 [0,4,5,2,3] [.str s, .nilSlice, .int .i64 i, .str [], .int .i64 0] [] R =
   (
 bif decide (IntKind.i64.wrap (i + 1) < (↑s.length : Int)) then
 bif decide (0 ≤ i) && i.toNat.blt s.length then
 bif decide (0 ≤ IntKind.i64.wrap (i + 1)) && (IntKind.i64.wrap (i + 1)).toNat.blt s.length then
 R Exit.normal
 [some (V.str s), some (V.slice 1 0 1 false 0 0), some (V.int IntKind.i64 (IntKind.i64.wrap (i + 2))),
 some (V.str []), some (V.int IntKind.i64 0)]
 [Blk.row
 [V.int IntKind.u8
 (IntKind.u8.wrap
 (IntKind.i64.wrap
 (IntKind.i64.wrap
 (16 *
 atI [48, 49, 50, 51, 52, 53, 54, 55, 56, 57, 97, 98, 99, 100, 101, 102]
 (↑(s.getD i.toNat 0).toNat : Int)) +
 atI [48, 49, 50, 51, 52, 53, 54, 55, 56, 57, 97, 98, 99, 100, 101, 102]
 (↑(s.getD (IntKind.i64.wrap (i + 1)).toNat 0).toNat : Int))))]
 5 1,
 Blk.row
 [V.int IntKind.u8
 (IntKind.u8.wrap
 (IntKind.i64.wrap
 (IntKind.i64.wrap
 (16 *
 atI [48, 49, 50, 51, 52, 53, 54, 55, 56, 57, 97, 98, 99, 100, 101, 102]
 (↑(s.getD i.toNat 0).toNat : Int)) +
 atI [48, 49, 50, 51, 52, 53, 54, 55, 56, 57, 97, 98, 99, 100, 101, 102]
 (↑(s.getD (IntKind.i64.wrap (i + 1)).toNat 0).toNat : Int))))]
 5 1]
 else False
 else False
 else
 R (Exit.exit 0)
 [some (V.str s), some V.nilSlice, some (V.int IntKind.i64 i), some (V.str []), some (V.int IntKind.i64 0)] []) := by kernel_rfl
theorem ur_round1 (s : List UInt8) (o : List V) (k : Nat) (i : Int) (R : Exit → List (Option V) → St → Prop) : roundW Tryd.prog TA 9 10 (rounds 9) 16 58 [0,4,5,2,3] [.str s, .slice 0 0 k false 0 0, .int .i64 i, .str [], .int .i64 0] [.row o 5 1] R =
   (
 bif decide (IntKind.i64.wrap (i + 1) < (↑s.length : Int)) then
 bif decide (0 ≤ i) && i.toNat.blt s.length then
 bif decide (0 ≤ IntKind.i64.wrap (i + 1)) && (IntKind.i64.wrap (i + 1)).toNat.blt s.length then
 bif o.length.beq (k * 1) then
 bif (k + 1).ble 9223372036854775807 && ((k + 1) * 1).ble 140737488355328 then
 R Exit.normal
 [some (V.str s), some (V.slice 2 0 (k + 1) false 0 0), some (V.int IntKind.i64 (IntKind.i64.wrap (i + 2))),
 some (V.str []), some (V.int IntKind.i64 0)]
 [Blk.dead,
 Blk.row
 [V.int IntKind.u8
 (IntKind.u8.wrap
 (IntKind.i64.wrap
 (IntKind.i64.wrap
 (16 *
 atI [48, 49, 50, 51, 52, 53, 54, 55, 56, 57, 97, 98, 99, 100, 101, 102]
 (↑(s.getD i.toNat 0).toNat : Int)) +
 atI [48, 49, 50, 51, 52, 53, 54, 55, 56, 57, 97, 98, 99, 100, 101, 102]
 (↑(s.getD (IntKind.i64.wrap (i + 1)).toNat 0).toNat : Int))))]
 5 1,
 Blk.row
 (o ++
 [V.int IntKind.u8
 (IntKind.u8.wrap
 (IntKind.i64.wrap
 (IntKind.i64.wrap
 (16 *
 atI [48, 49, 50, 51, 52, 53, 54, 55, 56, 57, 97, 98, 99, 100, 101, 102]
 (↑(s.getD i.toNat 0).toNat : Int)) +
 atI [48, 49, 50, 51, 52, 53, 54, 55, 56, 57, 97, 98, 99, 100, 101, 102]
 (↑(s.getD (IntKind.i64.wrap (i + 1)).toNat 0).toNat : Int))))])
 5 1]
 else False
 else False
 else False
 else False
 else
 R (Exit.exit 0)
 [some (V.str s), some (V.slice 0 0 k false 0 0), some (V.int IntKind.i64 i), some (V.str []),
 some (V.int IntKind.i64 0)]
 [Blk.row o 5 1]) := by kernel_rfl
/-! ### the program's -/
structure UX where
  s : List UInt8
  i : Nat
  o : List UInt8
def uxV (x : UX) : List V := [.str x.s, bSl x.o, .int .i64 (x.i : Int), .str [], .int .i64 0]
def uxJ (x : UX) : St := bMem x.o
def uxPre (x : UX) : Bool := okL x.s && (Nat.ble x.i x.s.length && (Nat.beq ((x.s.length - x.i) % 2) 0 && (Nat.ble x.o.length x.i && (B64.unhexF x.s == (B64.unhexF (x.s.drop x.i)).map (x.o ++ ·)))))
def uxMu (x : UX) : Nat := x.s.length - x.i
def uxDec : List (Option V) → St → Option UX
  | [some (.str s), some .nilSlice, some (.int .i64 0), some (.str []), some (.int .i64 0)], [] => some ⟨s, 0, []⟩
  | _, _ => none
def uxOutG (UF : List UInt8 → Option (List UInt8)) : Asks UX := fun x K =>
  (UF x.s = some [] → K (.exit 0) [.str x.s, .nilSlice, .int .i64 (x.s.length : Int), .str [], .int .i64 0] []) ∧
  (∀ o : List UInt8, o ≠ [] → UF x.s = some o → K (.exit 0) [.str x.s, .slice 0 0 o.length false 0 0, .int .i64 (x.s.length : Int), .str [], .int .i64 0] [.row (bys o) 5 1]) ∧
  (UF x.s = none → ∀ i : Int, K .ret [.str x.s, .nilSlice, .int .i64 i, .str [], .int .i64 4] []) ∧
  (UF x.s = none → ∀ (i : Int) (k : Nat) (o : List V), K .ret [.str x.s, .slice 0 0 k false 0 0, .int .i64 i, .str [], .int .i64 4] [.row o 5 1])
theorem ux_fits (s : List UInt8) (o : List UInt8) (a b : V) (ha : a.flat = true) (hb : b.flat = true) (m : Nat) (j : Int) (c : Nat) (st : St) (hc : st[c]? = some (.row (bys o) 5 1)) :
    Fits 0 [.str s, .slice 0 0 m false 0 0, .int .i64 j, a, b] [.row (bys o) 5 1] [some (.str s), some (.slice c 0 m false 0 0), some (.int .i64 j), some a, some b] st :=
  ⟨[c], [.str s, .slice c 0 m false 0 0, .int .i64 j, a, b], rfl, by simp only [renL, renV, renV_of_flat _ ha, renV_of_flat _ hb, List.getElem?_cons_zero], FitsM.of ⟨fb (bys_flat _) hc, trivial⟩, by simp, fun i hi => by omega⟩
theorem ux_V (s : List UInt8) (i : Nat) (o : List UInt8) (h : o ≠ []) : uxV ⟨s, i, o⟩ = [.str s, .slice 0 0 o.length false 0 0, .int .i64 (i : Int), .str [], .int .i64 0] ∧ uxJ ⟨s, i, o⟩ = [.row (bys o) 5 1] := by
  cases o with
  | nil => exact absurd rfl h
  | cons c r => exact ⟨rfl, rfl⟩
theorem ux_byte {x y : Nat} (hx : x < 16) (hy : y < 16) : IntKind.u8.wrap (IntKind.i64.wrap (((BitVec.ofInt 64 (IntKind.i64.wrap ((x : Int) * 16)) ||| BitVec.ofInt 64 (y : Int)).toNat : Nat) : Int)) = ((UInt8.ofNat (x * 16 + y)).toNat : Int) := by
  have : ∀ a b : Fin 16, IntKind.u8.wrap (IntKind.i64.wrap (((BitVec.ofInt 64 (IntKind.i64.wrap ((a.val : Int) * 16)) ||| BitVec.ofInt 64 (b.val : Int)).toNat : Nat) : Int)) = ((UInt8.ofNat (a.val * 16 + b.val)).toNat : Int) := by decide +kernel
  exact this ⟨x, hx⟩ ⟨y, hy⟩
theorem ux_roundOk (x : UX) (hx : uxPre x = true) : roundW Tryd.prog T3 9 10 (rounds 9) 15 122 [0,4,5,2,3] (uxV x) (uxJ x) (RoundOkA 0 uxPre uxV uxJ uxMu (uxOutG B64.unhexF) x) := by
  obtain ⟨s, i, o⟩ := x
  unfold uxPre at hx
  rw [Bool.and_eq_true, Bool.and_eq_true, Bool.and_eq_true, Bool.and_eq_true] at hx
  obtain ⟨p0, p2, p3, p4, p5⟩ := hx
  have p1 : (s.length : Int) ≤ 99999 := okL_le p0
  have p2 : i ≤ s.length := Nat.le_of_ble_eq_true p2
  have p3 : (s.length - i) % 2 = 0 := Nat.eq_of_beq_eq_true p3
  have p4 : o.length ≤ i := Nat.le_of_ble_eq_true p4
  have p5 : B64.unhexF s = (B64.unhexF (s.drop i)).map (o ++ ·) := eq_of_beq p5
  cases hd : s.drop i with
  | nil =>
    have hi := drop_nil hd p2
    subst hi
    have hu : B64.unhexF s = some o := by rw [p5, hd, B64.unhexF, Option.map_some, List.append_nil]
    have hb : decide (((s.length : Nat) : Int) < (s.length : Int)) = false := decide_eq_false (by omega)
    cases o with
    | nil =>
      show roundW Tryd.prog T3 9 10 (rounds 9) 15 122 [0,4,5,2,3] [.str s, .nilSlice, .int .i64 (s.length : Int), .str [], .int .i64 0] [] _
      rw [ux_round0, hb, cond_false]
      exact ⟨_, _, fun K hK => hK.1 hu, bfits _ [] _ _ rfl rfl⟩
    | cons c q =>
      show roundW Tryd.prog T3 9 10 (rounds 9) 15 122 [0,4,5,2,3] [.str s, .slice 0 0 (c :: q).length false 0 0, .int .i64 (s.length : Int), .str [], .int .i64 0] [.row (bys (c :: q)) 5 1] _
      rw [ux_round1, hb, cond_false]
      exact ⟨_, _, fun K hK => hK.2.1 _ (by simp) hu, ux_fits s _ _ _ rfl rfl _ _ 0 _ rfl⟩
  | cons a r1 =>
    obtain ⟨d1, d2, d3⟩ := drop_cons hd
    cases r1 with
    | nil =>
      have := drop_nil d2 (by omega)
      omega
    | cons b r =>
      obtain ⟨d4, d5, d6⟩ := drop_cons d2
      have hb : decide (((i : Nat) : Int) < (s.length : Int)) = true := decide_eq_true (by omega)
      have hw : IntKind.i64.wrap ((i : Int) + 1) = ((i + 1 : Nat) : Int) := by rw [IntWalk.i64_in _ ⟨by omega, by omega⟩]; omega
      have hw2 : IntKind.i64.wrap ((i : Int) + 2) = ((i + 2 : Nat) : Int) := by rw [IntWalk.i64_in _ ⟨by omega, by omega⟩]; omega
      have c1 : (decide ((0 : Int) ≤ (i : Int)) && i.blt s.length) = true := by rw [Bool.and_eq_true]; exact ⟨decide_eq_true (by omega), Nat.ble_eq_true_of_le (by omega)⟩
      have c2 : (decide ((0 : Int) ≤ ((i + 1 : Nat) : Int)) && (i + 1).blt s.length) = true := by rw [Bool.and_eq_true]; exact ⟨decide_eq_true (by omega), Nat.ble_eq_true_of_le (by omega)⟩
      have ea : Go.Lib.indexByte [48, 49, 50, 51, 52, 53, 54, 55, 56, 57, 97, 98, 99, 100, 101, 102] a = atV (B64.pos16 a) := (ib_at B64.L16 a).trans (at_16 a)
      have eb : Go.Lib.indexByte [48, 49, 50, 51, 52, 53, 54, 55, 56, 57, 97, 98, 99, 100, 101, 102] b = atV (B64.pos16 b) := (ib_at B64.L16 b).trans (at_16 b)
      rw [hd, B64.unhexF] at p5
      -- what a round comes to
      have bad : (B64.pos16 a = none ∨ B64.pos16 b = none) → B64.unhexF s = none := by
        rintro (h | h)
        · rw [p5, h]; rfl
        · rw [p5, h]; cases B64.pos16 a <;> rfl
      have go : ∀ {p q : Nat}, B64.pos16 a = some p → B64.pos16 b = some q → ∀ (st : St) (c : Nat), st[c]? = some (.row (bys (o ++ [UInt8.ofNat (p * 16 + q)])) 5 1) → RoundOkA 0 uxPre uxV uxJ uxMu (uxOutG B64.unhexF) ⟨s, i, o⟩ .normal [some (.str s), some (.slice c 0 (o.length + 1) false 0 0), some (.int .i64 ((i + 2 : Nat) : Int)), some (.str []), some (.int .i64 0)] st := by
        intro p q hp hq st c hc
        have hne : o ++ [UInt8.ofNat (p * 16 + q)] ≠ [] := by simp
        obtain ⟨v1, v2⟩ := ux_V s (i + 2) _ hne
        refine ⟨⟨s, i + 2, o ++ [UInt8.ofNat (p * 16 + q)]⟩, ?_, ?_, by simp only [uxMu]; omega, fun K hK => hK⟩
        · unfold uxPre
          rw [Bool.and_eq_true, Bool.and_eq_true, Bool.and_eq_true, Bool.and_eq_true]
          refine ⟨p0, Nat.ble_eq_true_of_le (show i + 2 ≤ s.length by omega), ?_, Nat.ble_eq_true_of_le (show (o ++ [UInt8.ofNat (p * 16 + q)]).length ≤ i + 2 by rw [List.length_append, List.length_singleton]; omega), ?_⟩
          · have : (s.length - (i + 2)) % 2 = 0 := by omega
            rw [this]; rfl
          · show (B64.unhexF s == (B64.unhexF (s.drop (i + 1 + 1))).map ((o ++ [UInt8.ofNat (p * 16 + q)]) ++ ·)) = true
            rw [d5, p5, hp, hq]
            simp only [Option.map_map]
            cases B64.unhexF r <;> simp
        · rw [v1, v2, List.length_append, List.length_singleton]
          exact ux_fits s _ _ _ rfl rfl _ _ c st hc
      cases o with
      | nil =>
        show roundW Tryd.prog T3 9 10 (rounds 9) 15 122 [0,4,5,2,3] [.str s, .nilSlice, .int .i64 (i : Int), .str [], .int .i64 0] [] _
        rw [ux_round0]
        simp only [hb, hw, hw2, Int.toNat_natCast, d1, d4, UInt8.ofNat_toNat, ea, eb]
        refine must_intro c1 (must_intro c2 ?_)
        cases ha : B64.pos16 a with
        | none => exact ⟨_, _, fun K hK => hK.2.2.1 (bad (.inl ha)) _, bfits _ [] _ _ rfl rfl⟩
        | some p =>
          have h0 : decide (atV (some p) < 0) = false := decide_eq_false (by show ¬ ((p : Int) < 0); omega)
          rw [h0, cond_false]
          cases hq : B64.pos16 b with
          | none => exact ⟨_, _, fun K hK => hK.2.2.1 (bad (.inr hq)) _, bfits _ [] _ _ rfl rfl⟩
          | some q =>
            have h1 : decide (atV (some q) < 0) = false := decide_eq_false (by show ¬ ((q : Int) < 0); omega)
            rw [h1, cond_false]
            have hbyte := ux_byte (B64.pos16_lt ha).1 (B64.pos16_lt hq).1
            simp only [atV, hbyte]
            exact go ha hq _ 1 rfl
      | cons c0 q0 =>
        show roundW Tryd.prog T3 9 10 (rounds 9) 15 122 [0,4,5,2,3] [.str s, .slice 0 0 (c0 :: q0).length false 0 0, .int .i64 (i : Int), .str [], .int .i64 0] [.row (bys (c0 :: q0)) 5 1] _
        rw [ux_round1]
        simp only [hb, hw, hw2, Int.toNat_natCast, d1, d4, UInt8.ofNat_toNat, ea, eb]
        refine must_intro c1 (must_intro c2 ?_)
        cases ha : B64.pos16 a with
        | none => exact ⟨_, _, fun K hK => hK.2.2.2 (bad (.inl ha)) _ _ _, ux_fits s _ _ _ rfl rfl _ _ 0 _ rfl⟩
        | some p =>
          have h0 : decide (atV (some p) < 0) = false := decide_eq_false (by show ¬ ((p : Int) < 0); omega)
          rw [h0, cond_false]
          cases hq : B64.pos16 b with
          | none => exact ⟨_, _, fun K hK => hK.2.2.2 (bad (.inr hq)) _ _ _, ux_fits s _ _ _ rfl rfl _ _ 0 _ rfl⟩
          | some q =>
            have h1 : decide (atV (some q) < 0) = false := decide_eq_false (by show ¬ ((q : Int) < 0); omega)
            rw [h1, cond_false]
            have hbyte := ux_byte (B64.pos16_lt ha).1 (B64.pos16_lt hq).1
            simp only [atV, hbyte]
            refine must_intro (by rw [bys_len, Nat.mul_one]; exact Nat.beq_refl _) (must_intro ?_ ?_)
            · rw [Bool.and_eq_true]
              exact ⟨Nat.ble_eq_true_of_le (by omega), Nat.ble_eq_true_of_le (by omega)⟩
            · refine go ha hq _ 2 ?_
              rw [bys_append]; rfl
theorem ux_loop {f : Fr} {st : St} {Q : Exit → Fr → St → Prop} (h : loopA 0 (szOf Tryd.prog 15) [0,4,5,2,3] uxDec uxPre uxV uxJ (uxOutG B64.unhexF) f st Q) : CodeSatW Tryd.prog none 0 (.loop (loopOf Tryd.prog 15 122)) f st Q :=
  loopA_ok (P := Tryd.prog) (T := T3) (k := 0) (lim := 9) (n := 10) (g := 15) (p0 := 122) (lk := rounds 9) mixed T3_ok (roundsW 9 _ _) uxMu ux_roundOk h
noncomputable def lkUxG (UF : List UInt8 → Option (List UInt8)) : Nat → Trans → Trans := withLoop 122 (loopA 0 (szOf Tryd.prog 15) [0,4,5,2,3] uxDec uxPre uxV uxJ (uxOutG UF)) (rounds 9)
theorem lkUx_ok : FnLoopsW Tryd.prog 0 (lkUxG B64.unhexF) 15 := by
  unfold lkUxG
  exact fnLoopW (fnRoundsW 9 0 15) (by kernel_rfl) fun f st Q h => ux_loop h
noncomputable def TU (UF : List UInt8 → Option (List UInt8)) : Tab := ⟨noT, noL, addLk (noLks 9) 15 0 (lkUxG UF)⟩
theorem TU_ok : TabOk3 Tryd.prog (TU B64.unhexF) := ⟨noT_ok, noL_ok, addLk_ok (noLks_ok 9) lkUx_ok⟩
theorem unhex_tree (UF : List UInt8 → Option (List UInt8)) (s : List UInt8) (R : V → Prop) : runW Tryd.prog (TU UF) 9 10 15 [.str s] R =
   (
    bif (↑s.length : Int).tmod 2 != 0 then R (V.tuple [V.str [], V.int IntKind.i64 4])
    else
      Fits 0 [V.str s, V.nilSlice, V.int IntKind.i64 0, V.str [], V.int IntKind.i64 0] []
          [some (V.str s), some V.nilSlice, some (V.int IntKind.i64 0), some (V.str []), some (V.int IntKind.i64 0)] [] ∧
        bif uxPre { s := s, i := 0, o := [] } then
          (UF s = some [] → R (V.tuple [V.str [], V.int IntKind.i64 0])) ∧
            (∀ (o : List UInt8),
                o ≠ [] →
                  UF s = some o →
                    bif (0 + o.length).ble (List.map (fun b => V.int IntKind.u8 (↑b.toNat : Int)) o).length then
                      bif
                          (List.take o.length (List.drop 0 (List.map (fun b => V.int IntKind.u8 (↑b.toNat : Int)) o))).all
                            isByte then
                        R
                          (V.tuple
                            [V.str
                                (List.map Vm.byteOf
                                  (List.take o.length
                                    (List.drop 0 (List.map (fun b => V.int IntKind.u8 (↑b.toNat : Int)) o)))),
                              V.int IntKind.i64 0])
                      else False
                    else False) ∧
              (UF s = none → ∀ (i : Int), R (V.tuple [V.str [], V.int IntKind.i64 4])) ∧
                (UF s = none → ∀ (i : Int) (k : Nat) (o : List V), R (V.tuple [V.str [], V.int IntKind.i64 4]))
        else False) := by kernel_rfl
def unT : List V → Option (List (Bool × (V × St)))
  | [.str s] => some [(okL s, (.tuple [.str ((B64.unhexF s).getD []), .int .i64 (bif (B64.unhexF s).isSome then 0 else 4)], []))]
  | _ => none
theorem unhex_odd : ∀ (s : List UInt8), s.length % 2 = 1 → B64.unhexF s = none
  | [], h => by cases h
  | [_], h => rfl
  | a :: b :: r, h => by
    rw [B64.unhexF, unhex_odd r (by simp only [List.length_cons] at h; omega)]
    cases B64.pos16 a with
    | none => rfl
    | some x => cases B64.pos16 b <;> rfl
theorem unhex_ok (args : List V) (l : List (Bool × (V × St))) (o : V × St) (h : unT args = some l) (ho : pickO l = some o) : FnSat Tryd.prog 15 args [] (Is o) := by
  unfold unT at h
  split at h
  · rename_i s
    cases h
    cases hk : okL s with
    | false => rw [hk] at ho; cases ho
    | true =>
      rw [hk] at ho
      cases ho
      have p1 := okL_le hk
      refine pureW_of (lim := 9) (n := 10) mixed TU_ok rfl rfl ?_
      rw [unhex_tree]
      have hm : (s.length : Int).tmod 2 = ((s.length % 2 : Nat) : Int) := by rw [Int.tmod_eq_emod_of_nonneg (by omega)]; omega
      rw [hm]
      refine bif_intro (fun h => ?_) (fun h => ?_)
      · have h : s.length % 2 = 1 := by
          have : ((s.length % 2 : Nat) : Int) ≠ 0 := by simpa using h
          omega
        rw [unhex_odd s h]; rfl
      · have h : s.length % 2 = 0 := by
          have : ((s.length % 2 : Nat) : Int) = 0 := by simpa using h
          omega
        refine ⟨bfits _ [] _ _ rfl rfl, must_intro ?_ ⟨fun hu => ?_, fun o hne hu => ?_, fun hu _ => ?_, fun hu _ _ _ => ?_⟩⟩
        · unfold uxPre
          rw [Bool.and_eq_true, Bool.and_eq_true, Bool.and_eq_true, Bool.and_eq_true]
          refine ⟨hk, rfl, ?_, rfl, ?_⟩
          · show Nat.beq ((s.length - 0) % 2) 0 = true
            rw [Nat.sub_zero, h]; rfl
          · show (B64.unhexF s == (B64.unhexF s).map ([] ++ ·)) = true
            cases B64.unhexF s <;> simp
        · rw [hu]; rfl
        · have hb : List.map (fun b => V.int .u8 (b.toNat : Int)) o = bys o := rfl
          rw [hb, hu, List.drop_zero]
          have hl := bys_len o
          refine must_intro (Nat.ble_eq_true_of_le (by omega)) ?_
          rw [← hl, List.take_length]
          refine must_intro (isByte_bys o) ?_
          rw [byteOf_bys]; rfl
        · rw [hu]; rfl
        · rw [hu]; rfl
  · cases h
/-! ### the document's -/
def byR (a b : UInt8) : Int := IntKind.u8.wrap (IntKind.i64.wrap (IntKind.i64.wrap (16 * atI B64.L16 (a.toNat : Int)) + atI B64.L16 (b.toNat : Int)))
def uR : List UInt8 → List UInt8
  | a :: b :: r => UInt8.ofNat (byR a b).toNat :: uR r
  | _ => []
theorem byR_eq (a b : UInt8) : V.int .u8 (byR a b) = V.int .u8 ((UInt8.ofNat (byR a b).toNat).toNat : Int) := byte_int (u8_range _).1 (u8_range _).2
def urPre (x : UX) : Bool := okL x.s && (Nat.ble x.i x.s.length && (Nat.ble x.o.length x.i && (uR x.s == x.o ++ uR (x.s.drop x.i))))
def urOutG (UR : List UInt8 → List UInt8) : Asks UX := fun x K =>
  (UR x.s = [] → ∀ i : Int, K (.exit 0) [.str x.s, .nilSlice, .int .i64 i, .str [], .int .i64 0] []) ∧
  (∀ o : List UInt8, o ≠ [] → UR x.s = o → ∀ i : Int, K (.exit 0) [.str x.s, .slice 0 0 o.length false 0 0, .int .i64 i, .str [], .int .i64 0] [.row (bys o) 5 1])
theorem ur_roundOk (x : UX) (hx : urPre x = true) : roundW Tryd.prog TA 9 10 (rounds 9) 16 58 [0,4,5,2,3] (uxV x) (uxJ x) (RoundOkA 0 urPre uxV uxJ uxMu (urOutG uR) x) := by
  obtain ⟨s, i, o⟩ := x
  unfold urPre at hx
  rw [Bool.and_eq_true, Bool.and_eq_true, Bool.and_eq_true] at hx
  obtain ⟨p0, p2, p4, p5⟩ := hx
  have p1 : (s.length : Int) ≤ 99999 := okL_le p0
  have p2 : i ≤ s.length := Nat.le_of_ble_eq_true p2
  have p4 : o.length ≤ i := Nat.le_of_ble_eq_true p4
  have p5 : uR s = o ++ uR (s.drop i) := eq_of_beq p5
  have hw : IntKind.i64.wrap ((i : Int) + 1) = ((i + 1 : Nat) : Int) := by rw [IntWalk.i64_in _ ⟨by omega, by omega⟩]; omega
  have stop : ¬ (i + 1 < s.length) → uR (s.drop i) = [] → roundW Tryd.prog TA 9 10 (rounds 9) 16 58 [0,4,5,2,3] (uxV ⟨s, i, o⟩) (uxJ ⟨s, i, o⟩) (RoundOkA 0 urPre uxV uxJ uxMu (urOutG uR) ⟨s, i, o⟩) := by
    intro h1 h2
    rw [h2, List.append_nil] at p5
    have hb : decide (((i + 1 : Nat) : Int) < (s.length : Int)) = false := decide_eq_false (by omega)
    cases o with
    | nil =>
      show roundW Tryd.prog TA 9 10 (rounds 9) 16 58 [0,4,5,2,3] [.str s, .nilSlice, .int .i64 (i : Int), .str [], .int .i64 0] [] _
      rw [ur_round0, hw, hb, cond_false]
      exact ⟨_, _, fun K hK => hK.1 p5 _, bfits _ [] _ _ rfl rfl⟩
    | cons c q =>
      show roundW Tryd.prog TA 9 10 (rounds 9) 16 58 [0,4,5,2,3] [.str s, .slice 0 0 (c :: q).length false 0 0, .int .i64 (i : Int), .str [], .int .i64 0] [.row (bys (c :: q)) 5 1] _
      rw [ur_round1, hw, hb, cond_false]
      exact ⟨_, _, fun K hK => hK.2 _ (by simp) p5 _, ux_fits s _ _ _ rfl rfl _ _ 0 _ rfl⟩
  cases hd : s.drop i with
  | nil => exact stop (by have := drop_nil hd p2; omega) (by rw [hd]; rfl)
  | cons a r1 =>
    obtain ⟨d1, d2, d3⟩ := drop_cons hd
    cases r1 with
    | nil => exact stop (by have := drop_nil d2 (by omega); omega) (by rw [hd]; rfl)
    | cons b r =>
      obtain ⟨d4, d5, d6⟩ := drop_cons d2
      have hb : decide (((i + 1 : Nat) : Int) < (s.length : Int)) = true := decide_eq_true (by omega)
      have hw2 : IntKind.i64.wrap ((i : Int) + 2) = ((i + 2 : Nat) : Int) := by rw [IntWalk.i64_in _ ⟨by omega, by omega⟩]; omega
      have c1 : (decide ((0 : Int) ≤ (i : Int)) && i.blt s.length) = true := by rw [Bool.and_eq_true]; exact ⟨decide_eq_true (by omega), Nat.ble_eq_true_of_le (by omega)⟩
      have c2 : (decide ((0 : Int) ≤ ((i + 1 : Nat) : Int)) && (i + 1).blt s.length) = true := by rw [Bool.and_eq_true]; exact ⟨decide_eq_true (by omega), Nat.ble_eq_true_of_le (by omega)⟩
      rw [hd, uR] at p5
      have go : ∀ (st : St) (c : Nat), st[c]? = some (.row (bys (o ++ [UInt8.ofNat (byR a b).toNat])) 5 1) → RoundOkA 0 urPre uxV uxJ uxMu (urOutG uR) ⟨s, i, o⟩ .normal [some (.str s), some (.slice c 0 (o.length + 1) false 0 0), some (.int .i64 ((i + 2 : Nat) : Int)), some (.str []), some (.int .i64 0)] st := by
        intro st c hc
        have hne : o ++ [UInt8.ofNat (byR a b).toNat] ≠ [] := by simp
        obtain ⟨v1, v2⟩ := ux_V s (i + 2) _ hne
        refine ⟨⟨s, i + 2, o ++ [UInt8.ofNat (byR a b).toNat]⟩, ?_, ?_, by simp only [uxMu]; omega, fun K hK => hK⟩
        · unfold urPre
          rw [Bool.and_eq_true, Bool.and_eq_true, Bool.and_eq_true]
          refine ⟨p0, Nat.ble_eq_true_of_le (show i + 2 ≤ s.length by omega), Nat.ble_eq_true_of_le (show (o ++ [UInt8.ofNat (byR a b).toNat]).length ≤ i + 2 by rw [List.length_append, List.length_singleton]; omega), ?_⟩
          show (uR s == (o ++ [UInt8.ofNat (byR a b).toNat]) ++ uR (s.drop (i + 1 + 1))) = true
          rw [d5, p5, List.append_assoc]; exact beq_self_eq_true _
        · rw [v1, v2, List.length_append, List.length_singleton]
          exact ux_fits s _ _ _ rfl rfl _ _ c st hc
      cases o with
      | nil =>
        show roundW Tryd.prog TA 9 10 (rounds 9) 16 58 [0,4,5,2,3] [.str s, .nilSlice, .int .i64 (i : Int), .str [], .int .i64 0] [] _
        rw [ur_round0]
        simp only [hw, hw2, hb, Int.toNat_natCast, d1, d4]
        refine must_intro c1 (must_intro c2 ?_)
        have e := byR_eq a b
        unfold byR at e
        unfold B64.L16 at e
        rw [e]
        exact go _ 1 rfl
      | cons c0 q0 =>
        show roundW Tryd.prog TA 9 10 (rounds 9) 16 58 [0,4,5,2,3] [.str s, .slice 0 0 (c0 :: q0).length false 0 0, .int .i64 (i : Int), .str [], .int .i64 0] [.row (bys (c0 :: q0)) 5 1] _
        rw [ur_round1]
        simp only [hw, hw2, hb, Int.toNat_natCast, d1, d4]
        refine must_intro c1 (must_intro c2 (must_intro (by rw [bys_len, Nat.mul_one]; exact Nat.beq_refl _) (must_intro ?_ ?_)))
        · rw [Bool.and_eq_true]
          exact ⟨Nat.ble_eq_true_of_le (by omega), Nat.ble_eq_true_of_le (by omega)⟩
        · have e := byR_eq a b
          unfold byR at e
          unfold B64.L16 at e
          rw [e]
          refine go _ 2 ?_
          rw [bys_append]; rfl
theorem ur_loop {f : Fr} {st : St} {Q : Exit → Fr → St → Prop} (h : loopA 0 (szOf Tryd.prog 16) [0,4,5,2,3] uxDec urPre uxV uxJ (urOutG uR) f st Q) : CodeSatW Tryd.prog none 0 (.loop (loopOf Tryd.prog 16 58)) f st Q :=
  loopA_ok (P := Tryd.prog) (T := TA) (k := 0) (lim := 9) (n := 10) (g := 16) (p0 := 58) (lk := rounds 9) mixed TA_ok (roundsW 9 _ _) uxMu ur_roundOk h
noncomputable def lkUrG (UR : List UInt8 → List UInt8) : Nat → Trans → Trans := withLoop 58 (loopA 0 (szOf Tryd.prog 16) [0,4,5,2,3] uxDec urPre uxV uxJ (urOutG UR)) (rounds 9)
theorem lkUr_ok : FnLoopsW Tryd.prog 0 (lkUrG uR) 16 := by
  unfold lkUrG
  exact fnLoopW (fnRoundsW 9 0 16) (by kernel_rfl) fun f st Q h => ur_loop h
def hexTG (OL : List UInt8 → Bool) (HX : List UInt8 → List UInt8) : List V → Option (List (Bool × (V × St)))
  | [.str s] => some [(OL s, (.str (HX s), []))]
  | _ => none
noncomputable def TV (OL : List UInt8 → Bool) (HX UR : List UInt8 → List UInt8) : Tab := ⟨addT noT 13 (hexTG OL HX), noL, addLk (noLks 9) 16 0 (lkUrG UR)⟩
theorem TV_ok : TabOk3 Tryd.prog (TV okL B64.hex uR) := ⟨addT_ok noT_ok hexr_ok, noL_ok, addLk_ok (noLks_ok 9) lkUr_ok⟩
theorem unhexr_tree (OL : List UInt8 → Bool) (HX UR : List UInt8 → List UInt8) (s : List UInt8) (R : V → Prop) : runW Tryd.prog (TV OL HX UR) 9 10 16 [.str s] R =
   (
    Fits 0 [V.str s, V.nilSlice, V.int IntKind.i64 0, V.str [], V.int IntKind.i64 0] []
        [some (V.str s), some V.nilSlice, some (V.int IntKind.i64 0), some (V.str []), some (V.int IntKind.i64 0)] [] ∧
      bif urPre { s := s, i := 0, o := [] } then
        (UR s = [] →
            ∀ (i : Int),
              bif OL [] then
                bif !HX [] == s then R (V.tuple [V.str [], V.int IntKind.i64 4])
                else R (V.tuple [V.str [], V.int IntKind.i64 0])
              else False) ∧
          ∀ (o : List UInt8),
            o ≠ [] →
              UR s = o →
                ∀ (i : Int),
                  bif (0 + o.length).ble (List.map (fun b => V.int IntKind.u8 (↑b.toNat : Int)) o).length then
                    bif
                        (List.take o.length (List.drop 0 (List.map (fun b => V.int IntKind.u8 (↑b.toNat : Int)) o))).all
                          isByte then
                      bif
                          OL
                            (List.map Vm.byteOf
                              (List.take o.length
                                (List.drop 0 (List.map (fun b => V.int IntKind.u8 (↑b.toNat : Int)) o)))) then
                        bif
                            !HX
                                  (List.map Vm.byteOf
                                    (List.take o.length
                                      (List.drop 0 (List.map (fun b => V.int IntKind.u8 (↑b.toNat : Int)) o)))) ==
                                s then
                          R (V.tuple [V.str [], V.int IntKind.i64 4])
                        else
                          bif (0 + o.length).ble (List.map (fun b => V.int IntKind.u8 (↑b.toNat : Int)) o).length then
                            bif
                                (List.take o.length
                                      (List.drop 0 (List.map (fun b => V.int IntKind.u8 (↑b.toNat : Int)) o))).all
                                  isByte then
                              R
                                (V.tuple
                                  [V.str
                                      (List.map Vm.byteOf
                                        (List.take o.length
                                          (List.drop 0 (List.map (fun b => V.int IntKind.u8 (↑b.toNat : Int)) o)))),
                                    V.int IntKind.i64 0])
                            else False
                          else False
                      else False
                    else False
                  else False
      else False) := by kernel_rfl
theorem byR_hex (c : UInt8) : UInt8.ofNat (byR (B64.let16 (c.toNat / 16)) (B64.let16 (c.toNat % 16))).toNat = c := by
  have hc := c.toNat_lt
  unfold byR
  rw [at_16, at_16, B64.pos16_let (by omega), B64.pos16_let (by omega)]
  simp only [atV]
  have e1 : IntKind.i64.wrap (16 * ((c.toNat / 16 : Nat) : Int)) = 16 * ((c.toNat / 16 : Nat) : Int) := IntWalk.i64_in _ ⟨by omega, by omega⟩
  rw [e1, IntWalk.i64_in _ ⟨by omega, by omega⟩, IntWalk.u8_in _ ⟨by omega, by omega⟩]
  exact B64.of_eq (by omega)
theorem uR_hex : ∀ s : List UInt8, uR (B64.hex s) = s
  | [] => rfl
  | c :: r => by rw [B64.hex, uR, byR_hex, uR_hex r]
theorem unhex_uR (s : List UInt8) : B64.unhexF s = bif B64.hex (uR s) == s then some (uR s) else none := by
  cases h : B64.unhexF s with
  | some t =>
    have e := B64.hex_unhex s t h
    rw [← e, uR_hex, beq_self_eq_true, cond_true]
  | none =>
    cases hb : B64.hex (uR s) == s with
    | false => rfl
    | true =>
      have e : B64.hex (uR s) = s := eq_of_beq hb
      rw [← e, B64.unhex_hex] at h
      cases h
theorem uR_len : ∀ s : List UInt8, (uR s).length ≤ s.length
  | [] => Nat.le_refl _
  | [_] => by simp [uR]
  | a :: b :: r => by have := uR_len r; simp only [uR, List.length_cons]; omega
theorem unhexr_ok (args : List V) (l : List (Bool × (V × St))) (o : V × St) (h : unT args = some l) (ho : pickO l = some o) : FnSat Tryd.prog 16 args [] (Is o) := by
  unfold unT at h
  split at h
  · rename_i s
    cases h
    cases hk : okL s with
    | false => rw [hk] at ho; cases ho
    | true =>
      rw [hk] at ho
      cases ho
      have p1 := okL_le hk
      refine pureW_of (lim := 9) (n := 10) mixed TV_ok rfl rfl ?_
      rw [unhexr_tree]
      have hl := uR_len s
      have ho : okL (uR s) = true := decide_eq_true (by omega)
      have hu := unhex_uR s
      refine ⟨bfits _ [] _ _ rfl rfl, must_intro ?_ ⟨fun he _ => ?_, fun o hne he _ => ?_⟩⟩
      · unfold urPre
        rw [Bool.and_eq_true, Bool.and_eq_true, Bool.and_eq_true]
        exact ⟨hk, rfl, rfl, beq_self_eq_true _⟩
      · rw [he] at hu
        refine must_intro rfl ?_
        cases hb : B64.hex [] == s with
        | true => rw [hb] at hu; rw [hu]; rfl
        | false => rw [hb] at hu; rw [hu]; rfl
      · subst he
        simp only [bys_tk, bys_ln, byteOf_bys]
        refine must_intro (Nat.ble_eq_true_of_le (by omega)) (must_intro (isByte_bys _) (must_intro ho ?_))
        cases hb : B64.hex (uR s) == s with
        | true =>
          rw [hb] at hu; rw [hu]
          exact must_intro (Nat.ble_eq_true_of_le (by omega)) (must_intro (isByte_bys _) rfl)
        | false => rw [hb] at hu; rw [hu]; rfl
  · cases h
end Go.Proofs.YtlgapohnmcmhdaaDoor
