/- The digest's functions: what they come to. -/
import Derived.Test.YthcoeoibejgaiaaDoorSum
namespace Go.Proofs.YthcoeoibejgaiaaDoor
open Go Go.Vm Go.RowKit
set_option linter.unusedVariables false
set_option maxRecDepth 100000
set_option linter.unusedSectionVars false
variable [Φ : Frz]
noncomputable def lk73G (ML : Nat → Nat → List V → W8 → W8) : Nat → Trans → Trans := withLoop 58 (loopA 0 (szOf Tryd.prog 49) [2,3,4,5,13] mxDec mxPre mxV mxJ (mxOutG ML)) (rounds 9)
noncomputable def lk73 : Nat → Trans → Trans := lk73G mixL
theorem mx_loop {f : Fr} {st : St} {Q : Exit → Fr → St → Prop} (h : loopA 0 (szOf Tryd.prog 49) [2,3,4,5,13] mxDec mxPre mxV mxJ mxOut f st Q) : CodeSatW Tryd.prog none 0 (.loop (loopOf Tryd.prog 49 58)) f st Q :=
 loopA_ok (P := Tryd.prog) (T := T1) (k := 0) (lim := 9) (n := 10) (g := 49) (p0 := 58) (lk := rounds 9) mixed T1_ok (roundsW 9 _ _) mxMu mx_roundOk h
theorem lk73_ok : FnLoopsW Tryd.prog 0 lk73 49 := by
 unfold lk73 lk73G
 exact fnLoopW (fnRoundsW 9 0 49) (by kernel_rfl) fun f st Q h => mx_loop h
noncomputable def T2 (ML : Nat → Nat → List V → W8 → W8) : Tab := ⟨addP noT 66 rotF, noL, addLk (noLks 9) 49 0 (lk73G ML)⟩
theorem T2_ok : TabOk3 Tryd.prog (T2 mixL) := ⟨addP_ok noT_ok rot_ok, noL_ok, addLk_ok (noLks_ok 9) lk73_ok⟩
theorem mix_tree (ML : Nat → Nat → List V → W8 → W8) (a b c d e f g h : Int) (ws : List V) (R : V → St → Prop) : runM Tryd.prog (T2 ML) 9 10 49 [.agg [.int .u32 a, .int .u32 b, .int .u32 c, .int .u32 d, .int .u32 e, .int .u32 f, .int .u32 g, .int .u32 h], .agg ws] R =
  (
 Fits 0 [V.ptr 0 0, V.ptr 1 0, V.ptr 2 0, V.ptr 3 0, V.int IntKind.i64 0] [Blk.row [V.int IntKind.u32 a, V.int IntKind.u32 b, V.int IntKind.u32 c, V.int IntKind.u32 d,
 V.int IntKind.u32 e, V.int IntKind.u32 f, V.int IntKind.u32 g, V.int IntKind.u32 h] 86 8, Blk.row ws 90 ws.length, Blk.row [V.int IntKind.u32 0, V.int IntKind.u32 0,
 V.int IntKind.u32 0, V.int IntKind.u32 0, V.int IntKind.u32 0, V.int IntKind.u32 0, V.int IntKind.u32 0, V.int IntKind.u32 0] 86 8, Blk.row [V.int IntKind.u32 a, V.int
 IntKind.u32 b, V.int IntKind.u32 c, V.int IntKind.u32 d, V.int IntKind.u32 e, V.int IntKind.u32 f, V.int IntKind.u32 g, V.int IntKind.u32 h] 86 8] [some (V.ptr 0 0), some
 (V.ptr 1 0), some (V.ptr 2 0), some (V.ptr 3 0), some (V.int IntKind.i64 0)] [Blk.row [V.int IntKind.u32 a, V.int IntKind.u32 b, V.int IntKind.u32 c, V.int IntKind.u32 d,
 V.int IntKind.u32 e, V.int IntKind.u32 f, V.int IntKind.u32 g, V.int IntKind.u32 h] 86 8, Blk.row ws 90 ws.length, Blk.row [V.int IntKind.u32 0, V.int IntKind.u32 0,
 V.int IntKind.u32 0, V.int IntKind.u32 0, V.int IntKind.u32 0, V.int IntKind.u32 0, V.int IntKind.u32 0, V.int IntKind.u32 0] 86 8, Blk.row [V.int IntKind.u32 a, V.int
 IntKind.u32 b, V.int IntKind.u32 c, V.int IntKind.u32 d, V.int IntKind.u32 e, V.int IntKind.u32 f, V.int IntKind.u32 g, V.int IntKind.u32 h] 86 8] ∧ bif mxPre { x := { a := a, b := b, c := c, d := d, e := e, f := f, g := g, h := h }, l := ws, m := ws.length, r := { a := 0, b := 0, c := 0, d := 0, e := 0, f := 0, g := 0, h := 0 }, was := { a := a, b := b, c := c, d := d, e := e, f := f, g := g, h := h }, j := 0 }
 then R (V.agg [V.int IntKind.u32 (IntKind.u32.wrap ((ML 64 0 ws { a := a, b := b, c := c, d := d, e := e, f := f, g := g, h := h }).a + a)), V.int IntKind.u32
 (IntKind.u32.wrap ((ML 64 0 ws { a := a, b := b, c := c, d := d, e := e, f := f, g := g, h := h }).b + b)), V.int IntKind.u32 (IntKind.u32.wrap ((ML 64 0 ws { a := a, b := b, c := c, d := d, e := e, f := f, g := g, h := h }).c
 + c)), V.int IntKind.u32 (IntKind.u32.wrap ((ML 64 0 ws { a := a, b := b, c := c, d := d, e := e, f := f, g := g, h := h }).d + d)), V.int IntKind.u32 (IntKind.u32.wrap
 ((ML 64 0 ws { a := a, b := b, c := c, d := d, e := e, f := f, g := g, h := h }).e + e)), V.int IntKind.u32 (IntKind.u32.wrap ((ML 64 0 ws { a := a, b := b, c := c, d := d, e := e, f := f, g := g, h := h }).f
 + f)), V.int IntKind.u32 (IntKind.u32.wrap ((ML 64 0 ws { a := a, b := b, c := c, d := d, e := e, f := f, g := g, h := h }).g + g)), V.int IntKind.u32 (IntKind.u32.wrap
 ((ML 64 0 ws { a := a, b := b, c := c, d := d, e := e, f := f, g := g, h := h }).h + h))]) [Blk.row [V.int IntKind.u32 (IntKind.u32.wrap ((ML 64 0 ws { a := a, b := b, c := c, d := d, e := e, f := f, g := g, h := h }).a
 + a)), V.int IntKind.u32 (IntKind.u32.wrap ((ML 64 0 ws { a := a, b := b, c := c, d := d, e := e, f := f, g := g, h := h }).b + b)), V.int IntKind.u32 (IntKind.u32.wrap
 ((ML 64 0 ws { a := a, b := b, c := c, d := d, e := e, f := f, g := g, h := h }).c + c)), V.int IntKind.u32 (IntKind.u32.wrap ((ML 64 0 ws { a := a, b := b, c := c, d := d, e := e, f := f, g := g, h := h }).d
 + d)), V.int IntKind.u32 (IntKind.u32.wrap ((ML 64 0 ws { a := a, b := b, c := c, d := d, e := e, f := f, g := g, h := h }).e + e)), V.int IntKind.u32 (IntKind.u32.wrap
 ((ML 64 0 ws { a := a, b := b, c := c, d := d, e := e, f := f, g := g, h := h }).f + f)), V.int IntKind.u32 (IntKind.u32.wrap ((ML 64 0 ws { a := a, b := b, c := c, d := d, e := e, f := f, g := g, h := h }).g
 + g)), V.int IntKind.u32 (IntKind.u32.wrap ((ML 64 0 ws { a := a, b := b, c := c, d := d, e := e, f := f, g := g, h := h }).h + h))] 86 8, Blk.row ws 90 ws.length,
 Blk.row [V.int IntKind.u32 (IntKind.u32.wrap ((ML 64 0 ws { a := a, b := b, c := c, d := d, e := e, f := f, g := g, h := h }).a + a)), V.int IntKind.u32 (IntKind.u32.wrap
 ((ML 64 0 ws { a := a, b := b, c := c, d := d, e := e, f := f, g := g, h := h }).b + b)), V.int IntKind.u32 (IntKind.u32.wrap ((ML 64 0 ws { a := a, b := b, c := c, d := d, e := e, f := f, g := g, h := h }).c
 + c)), V.int IntKind.u32 (IntKind.u32.wrap ((ML 64 0 ws { a := a, b := b, c := c, d := d, e := e, f := f, g := g, h := h }).d + d)), V.int IntKind.u32 (IntKind.u32.wrap
 ((ML 64 0 ws { a := a, b := b, c := c, d := d, e := e, f := f, g := g, h := h }).e + e)), V.int IntKind.u32 (IntKind.u32.wrap ((ML 64 0 ws { a := a, b := b, c := c, d := d, e := e, f := f, g := g, h := h }).f
 + f)), V.int IntKind.u32 (IntKind.u32.wrap ((ML 64 0 ws { a := a, b := b, c := c, d := d, e := e, f := f, g := g, h := h }).g + g)), V.int IntKind.u32 (IntKind.u32.wrap
 ((ML 64 0 ws { a := a, b := b, c := c, d := d, e := e, f := f, g := g, h := h }).h + h))] 86 8, Blk.row [V.int IntKind.u32 a, V.int IntKind.u32 b, V.int IntKind.u32 c,
 V.int IntKind.u32 d, V.int IntKind.u32 e, V.int IntKind.u32 f, V.int IntKind.u32 g, V.int IntKind.u32 h] 86 8] else False) := by kernel_rfl
def mixE (x : W8) (ws : List V) : W8 := ⟨addI (mixL 64 0 ws x).a x.a, addI (mixL 64 0 ws x).b x.b, addI (mixL 64 0 ws x).c x.c, addI (mixL 64 0 ws x).d x.d, addI (mixL 64 0 ws x).e x.e, addI (mixL 64 0 ws x).f x.f, addI (mixL 64 0 ws x).g x.g, addI (mixL 64 0 ws x).h x.h⟩
def mixF : List V → Option (List (Bool × (V × St)))
 | [.agg [.int .u32 a, .int .u32 b, .int .u32 c, .int .u32 d, .int .u32 e, .int .u32 f, .int .u32 g, .int .u32 h], .agg ws] => some [(all32 ws && Nat.beq ws.length 64, (.agg (mixE ⟨a, b, c, d, e, f, g, h⟩ ws).cells, []))]
 | _ => none
theorem mix_ok (args : List V) (l : List (Bool × (V × St))) (o : V × St) (h : mixF args = some l) (ho : pickO l = some o) : FnSat Tryd.prog 49 args [] (Is o) := by
 unfold mixF at h
 split at h
 ·rename_i a b c d e f g h' ws
  cases h
  cases hc : (all32 ws && Nat.beq ws.length 64) with
  | false => rw [hc] at ho; cases ho
  | true =>
   rw [hc] at ho
   cases ho
   rw [Bool.and_eq_true] at hc
   refine FnSat.fits (runM_ok (lim := 9) (n := 10) mixed T2_ok ?_)
   rw [mix_tree]
   refine ⟨mx_fits ⟨a, b, c, d, e, f, g, h'⟩ ws hc.1 ws.length ⟨0, 0, 0, 0, 0, 0, 0, 0⟩ ⟨a, b, c, d, e, f, g, h'⟩ 0, must_intro ?_ ?_⟩
   ·unfold mxPre
    rw [Bool.and_eq_true, Bool.and_eq_true]
    exact ⟨hc.1, hc.2, rfl⟩
   ·exact ⟨[], [.agg (mixE ⟨a, b, c, d, e, f, g, h'⟩ ws).cells], rfl, rfl, FitsM.of trivial, by simp, fun i hi => by omega⟩
 ·cases h
theorem blk_round (la : List V) (off c z : Nat) (ws : List V) (j : Int) (R : Exit → List (Option V) → St → Prop) : roundW Tryd.prog T1 9 10 (rounds 9) 50 26 [0,2,6] [.slice 0 off 64 false c z, .ptr 1 0, .int .i64 j] [.ro false la, .row ws 90 64] R =
  (
 bif decide (j < 64) then bif decide (j < 16) then bif decide (0 ≤ IntKind.i64.wrap (4 * j)) && decide (IntKind.i64.wrap (4 * j) < 64) then bif (off + (IntKind.i64.wrap (4
 * j)).toNat * 1).blt la.length then bif isIntV IntKind.u8 (la.getD (off + (IntKind.i64.wrap (4 * j)).toNat * 1) (V.bool false)) then bif decide (0 ≤ IntKind.i64.wrap
 (IntKind.i64.wrap (4 * j) + 1)) && decide (IntKind.i64.wrap (IntKind.i64.wrap (4 * j) + 1) < 64) then bif (off + (IntKind.i64.wrap (IntKind.i64.wrap (4 * j) + 1)).toNat *
 1).blt la.length then bif isIntV IntKind.u8 (la.getD (off + (IntKind.i64.wrap (IntKind.i64.wrap (4 * j) + 1)).toNat * 1) (V.bool false)) then bif decide (0 ≤
 IntKind.i64.wrap (IntKind.i64.wrap (4 * j) + 2)) && decide (IntKind.i64.wrap (IntKind.i64.wrap (4 * j) + 2) < 64) then bif (off + (IntKind.i64.wrap (IntKind.i64.wrap (4 *
 j) + 2)).toNat * 1).blt la.length then bif isIntV IntKind.u8 (la.getD (off + (IntKind.i64.wrap (IntKind.i64.wrap (4 * j) + 2)).toNat * 1) (V.bool false)) then bif decide
 (0 ≤ IntKind.i64.wrap (IntKind.i64.wrap (4 * j) + 3)) && decide (IntKind.i64.wrap (IntKind.i64.wrap (4 * j) + 3) < 64) then bif (off + (IntKind.i64.wrap (IntKind.i64.wrap
 (4 * j) + 3)).toNat * 1).blt la.length then bif isIntV IntKind.u8 (la.getD (off + (IntKind.i64.wrap (IntKind.i64.wrap (4 * j) + 3)).toNat * 1) (V.bool false)) then bif
 decide (0 ≤ j) && decide (j < 64) then bif true && (0 + j.toNat * 1 + 1).ble ws.length then R Exit.normal [some (V.slice 0 off 64 false c z), some (V.ptr 1 0), some
 (V.int IntKind.i64 (IntKind.i64.wrap (j + 1)))] [Blk.ro false la, Blk.row (putAt (0 + j.toNat * 1) [V.int IntKind.u32 (IntKind.u32.wrap (↑(BitVec.ofInt 32
 (IntKind.u32.wrap (↑(BitVec.ofInt 32 (IntKind.u32.wrap (↑(BitVec.ofInt 32 (IntKind.u32.wrap (IntKind.u32.wrap (intOfV (la.getD (off + (IntKind.i64.wrap (4 * j)).toNat *
 1) (V.bool false))) * 16777216)) ||| BitVec.ofInt 32 (IntKind.u32.wrap (IntKind.u32.wrap (intOfV (la.getD (off + (IntKind.i64.wrap (IntKind.i64.wrap (4 * j) + 1)).toNat *
 1) (V.bool false))) * 65536))).toNat : Int)) ||| BitVec.ofInt 32 (IntKind.u32.wrap (IntKind.u32.wrap (intOfV (la.getD (off + (IntKind.i64.wrap (IntKind.i64.wrap (4 * j) +
 2)).toNat * 1) (V.bool false))) * 256))).toNat : Int)) ||| BitVec.ofInt 32 (IntKind.u32.wrap (intOfV (la.getD (off + (IntKind.i64.wrap (IntKind.i64.wrap (4 * j) +
 3)).toNat * 1) (V.bool false))))).toNat : Int))] ws) 90 64] else False else False else False else False else False else False else False else False else False else False
 else False else False else False else False else bif decide (0 ≤ IntKind.i64.wrap (j - 15)) && decide (IntKind.i64.wrap (j - 15) < 64) then bif (0 + (IntKind.i64.wrap (j
 - 15)).toNat * 1).blt ws.length then bif isIntV IntKind.u32 (ws.getD (0 + (IntKind.i64.wrap (j - 15)).toNat * 1) (V.bool false)) then bif decide (0 ≤ IntKind.i64.wrap (j
 - 2)) && decide (IntKind.i64.wrap (j - 2) < 64) then bif (0 + (IntKind.i64.wrap (j - 2)).toNat * 1).blt ws.length then bif isIntV IntKind.u32 (ws.getD (0 +
 (IntKind.i64.wrap (j - 2)).toNat * 1) (V.bool false)) then bif decide (0 ≤ IntKind.i64.wrap (j - 16)) && decide (IntKind.i64.wrap (j - 16) < 64) then bif (0 +
 (IntKind.i64.wrap (j - 16)).toNat * 1).blt ws.length then bif isIntV IntKind.u32 (ws.getD (0 + (IntKind.i64.wrap (j - 16)).toNat * 1) (V.bool false)) then bif decide (0 ≤
 IntKind.i64.wrap (j - 7)) && decide (IntKind.i64.wrap (j - 7) < 64) then bif (0 + (IntKind.i64.wrap (j - 7)).toNat * 1).blt ws.length then bif isIntV IntKind.u32 (ws.getD
 (0 + (IntKind.i64.wrap (j - 7)).toNat * 1) (V.bool false)) then bif decide (0 ≤ j) && decide (j < 64) then bif true && (0 + j.toNat * 1 + 1).ble ws.length then R
 Exit.normal [some (V.slice 0 off 64 false c z), some (V.ptr 1 0), some (V.int IntKind.i64 (IntKind.i64.wrap (j + 1)))] [Blk.ro false la, Blk.row (putAt (0 + j.toNat * 1)
 [V.int IntKind.u32 (IntKind.u32.wrap (IntKind.u32.wrap (IntKind.u32.wrap (intOfV (ws.getD (0 + (IntKind.i64.wrap (j - 16)).toNat * 1) (V.bool false)) + intOfV (ws.getD (0
 + (IntKind.i64.wrap (j - 7)).toNat * 1) (V.bool false))) + IntKind.u32.wrap (↑(BitVec.ofInt 32 (IntKind.u32.wrap (↑(BitVec.ofInt 32 (rotI (intOfV (ws.getD (0 +
 (IntKind.i64.wrap (j - 15)).toNat * 1) (V.bool false))) 7) ^^^ BitVec.ofInt 32 (rotI (intOfV (ws.getD (0 + (IntKind.i64.wrap (j - 15)).toNat * 1) (V.bool false)))
 18)).toNat : Int)) ^^^ BitVec.ofInt 32 ((intOfV (ws.getD (0 + (IntKind.i64.wrap (j - 15)).toNat * 1) (V.bool false))).fdiv 8)).toNat : Int)) + IntKind.u32.wrap
 (↑(BitVec.ofInt 32 (IntKind.u32.wrap (↑(BitVec.ofInt 32 (rotI (intOfV (ws.getD (0 + (IntKind.i64.wrap (j - 2)).toNat * 1) (V.bool false))) 17) ^^^ BitVec.ofInt 32 (rotI
 (intOfV (ws.getD (0 + (IntKind.i64.wrap (j - 2)).toNat * 1) (V.bool false))) 19)).toNat : Int)) ^^^ BitVec.ofInt 32 ((intOfV (ws.getD (0 + (IntKind.i64.wrap (j -
 2)).toNat * 1) (V.bool false))).fdiv 1024)).toNat : Int)))] ws) 90 64] else False else False else False else False else False else False else False else False else False
 else False else False else False else False else False else R (Exit.exit 0) [some (V.slice 0 off 64 false c z), some (V.ptr 1 0), some (V.int IntKind.i64 j)] [Blk.ro
 false la, Blk.row ws 90 64]) := by kernel_rfl
def okB (la : List V) (off : Nat) : Bool := flatL la && (Nat.ble (off + 64) la.length && ((la.drop off).take 64).all (isIntV .u8))
theorem okB_len {la : List V} {off : Nat} (h : okB la off = true) : off + 64 ≤ la.length := by
 unfold okB at h; rw [Bool.and_eq_true, Bool.and_eq_true] at h; exact Nat.le_of_ble_eq_true h.2.1
theorem okB_flat {la : List V} {off : Nat} (h : okB la off = true) : flatL la = true := by
 unfold okB at h; rw [Bool.and_eq_true] at h; exact h.1
theorem okB_get {la : List V} {off i : Nat} (h : okB la off = true) (hi : i < 64) : (off + i * 1).blt la.length = true ∧ isIntV .u8 (la.getD (off + i * 1) (.bool false)) = true := by
 have hl := okB_len h
 unfold okB at h; rw [Bool.and_eq_true, Bool.and_eq_true] at h
 have h2 := h.2.2
 clear h
 rw [Nat.mul_one]
 refine ⟨Nat.ble_eq_true_of_le (by omega), ?_⟩
 have hlt : off + i < la.length := by omega
 rw [List.getD_eq_getElem?_getD, List.getElem?_eq_getElem hlt]
 refine List.all_eq_true.1 h2 _ ?_
 rw [List.mem_iff_getElem?]
 exact ⟨i, by rw [List.getElem?_take, if_pos hi, List.getElem?_drop]; exact List.getElem?_eq_getElem hlt⟩
def bI (la : List V) (off i : Nat) : Int := intOfV (la.getD (off + i * 1) (.bool false))
def shI (b m : Int) : Int := IntKind.u32.wrap (IntKind.u32.wrap b * m)
def wordB (la : List V) (off j : Nat) : Int := orI (orI (orI (shI (bI la off (4 * j)) 16777216) (shI (bI la off (4 * j + 1)) 65536)) (shI (bI la off (4 * j + 2)) 256)) (IntKind.u32.wrap (bI la off (4 * j + 3)))
def wordW (ws : List V) (j : Nat) : Int := addI (addI (addI (wI ws (j - 16)) (wI ws (j - 7))) (xorI (xorI (rotI (wI ws (j - 15)) 7) (rotI (wI ws (j - 15)) 18)) ((wI ws (j - 15)).fdiv 8))) (xorI (xorI (rotI (wI ws (j - 2)) 17) (rotI (wI ws (j - 2)) 19)) ((wI ws (j - 2)).fdiv 1024))
def wordN (la : List V) (off : Nat) (ws : List V) (j : Nat) : Int := if j < 16 then wordB la off j else wordW ws j
def blkL (la : List V) (off : Nat) : Nat → Nat → List V → List V
 | 0, _, ws => ws
 | n + 1, j, ws => blkL la off n (j + 1) (putAt j [.int .u32 (wordN la off ws j)] ws)
theorem put_all32 {ws : List V} {j : Nat} {x : Int} (h : all32 ws = true) (hj : j < ws.length) : all32 (putAt j [.int .u32 x] ws) = true ∧ (putAt j [.int .u32 x] ws).length = ws.length := by
 unfold all32 at h ⊢
 rw [List.all_eq_true] at h ⊢
 refine ⟨fun v hv => ?_, ?_⟩
 ·unfold putAt at hv
  rcases List.mem_append.1 hv with hv | hv
  ·rcases List.mem_append.1 hv with hv | hv
   ·exact h v (List.mem_of_mem_take hv)
   ·rw [List.mem_singleton.1 hv]; rfl
  ·exact h v (List.mem_of_mem_drop hv)
 ·unfold putAt
  simp only [List.length_append, List.length_take, List.length_drop, List.length_cons, List.length_nil]
  omega
def cells64 (f : Nat → Int) : List V := [.int .u32 (f 0), .int .u32 (f 1), .int .u32 (f 2), .int .u32 (f 3), .int .u32 (f 4), .int .u32 (f 5), .int .u32 (f 6), .int .u32 (f 7), .int .u32 (f 8), .int .u32 (f 9), .int .u32 (f 10), .int .u32 (f 11), .int .u32 (f 12), .int .u32 (f 13), .int .u32 (f 14), .int .u32 (f 15), .int .u32 (f 16), .int .u32 (f 17), .int .u32 (f 18), .int .u32 (f 19), .int .u32 (f 20), .int .u32 (f 21), .int .u32 (f 22), .int .u32 (f 23), .int .u32 (f 24), .int .u32 (f 25), .int .u32 (f 26), .int .u32 (f 27), .int .u32 (f 28), .int .u32 (f 29), .int .u32 (f 30), .int .u32 (f 31), .int .u32 (f 32), .int .u32 (f 33), .int .u32 (f 34), .int .u32 (f 35), .int .u32 (f 36), .int .u32 (f 37), .int .u32 (f 38), .int .u32 (f 39), .int .u32 (f 40), .int .u32 (f 41), .int .u32 (f 42), .int .u32 (f 43), .int .u32 (f 44), .int .u32 (f 45), .int .u32 (f 46), .int .u32 (f 47), .int .u32 (f 48), .int .u32 (f 49), .int .u32 (f 50), .int .u32 (f 51), .int .u32 (f 52), .int .u32 (f 53), .int .u32 (f 54), .int .u32 (f 55), .int .u32 (f 56), .int .u32 (f 57), .int .u32 (f 58), .int .u32 (f 59), .int .u32 (f 60), .int .u32 (f 61), .int .u32 (f 62), .int .u32 (f 63)]
theorem cells64_map (f : Nat → Int) : cells64 f = (List.range 64).map fun i => V.int .u32 (f i) := by kernel_rfl
theorem cells64_of {ws : List V} (h : all32 ws = true) (hl : ws.length = 64) : cells64 (wI ws) = ws := by
 rw [cells64_map]
 apply List.ext_getElem?
 intro i
 rcases Nat.lt_or_ge i 64 with hi | hi
 ·rw [List.getElem?_map, List.getElem?_range hi, Option.map_some]
  have h1 := all32_get h (j := i) (by omega)
  unfold wI
  rw [List.getD_eq_getElem?_getD, List.getElem?_eq_getElem (by omega), Option.getD_some] at h1 ⊢
  cases hv : ws[i] with
  | int k n =>
   rw [hv] at h1
   have hk : k = .u32 := of_decide_eq_true h1
   subst hk; rfl
  | _ => rw [hv] at h1; cases h1
 ·rw [List.getElem?_eq_none (by simp; omega), List.getElem?_eq_none (by omega)]
def blkF (la : List V) (off n j : Nat) (ws : List V) : Nat → Int := wI (blkL la off n j ws)
structure BX where
 la : List V
 off : Nat
 c : Nat
 z : Nat
 ws : List V
 j : Nat
def bxV (y : BX) : List V := [.slice 0 y.off 64 false y.c y.z, .ptr 1 0, .int .i64 y.j]
def bxJ (y : BX) : St := [.ro false y.la, .row y.ws 90 64]
def bxPre (y : BX) : Bool := okB y.la y.off && (all32 y.ws && (Nat.beq y.ws.length 64 && Nat.ble y.j 64))
def bxMu (y : BX) : Nat := 64 - y.j
def bxOutG (BL : List V → Nat → Nat → Nat → List V → Nat → Int) : Asks BX := fun y K => K (.exit 0) [.slice 0 y.off 64 false y.c y.z, .ptr 1 0, .int .i64 64] [.ro false y.la, Blk.row (cells64 (BL y.la y.off (64 - y.j) y.j y.ws)) 90 64]
abbrev bxOut : Asks BX := bxOutG blkF
theorem bx_fits (la : List V) (hf : flatL la = true) (off c z : Nat) (ws : List V) (hw : all32 ws = true) (j : Int) : Fits 1 [.slice 0 off 64 false c z, .ptr 1 0, .int .i64 j] [.ro false la, .row ws 90 64]
  [some (.slice 0 off 64 false c z), some (.ptr 1 0), some (.int .i64 j)] [.ro false la, .row ws 90 64] :=
 ⟨[0, 1], [.slice 0 off 64 false c z, .ptr 1 0, .int .i64 j], rfl, rfl, FitsM.of ⟨.inr ⟨.ro false la, .inl (by simp only [renB, renL_of_flat la hf]), rfl⟩, .inr ⟨.row ws 90 64, .inl (by simp only [renB, all32_ren _ ws hw]), rfl⟩, trivial⟩, by decide, fun i hi => by
  match i, hi with
  | 0, _ => rfl⟩
theorem bx_roundOk (y : BX) (hy : bxPre y = true) : roundW Tryd.prog T1 9 10 (rounds 9) 50 26 [0,2,6] (bxV y) (bxJ y) (RoundOkA 1 bxPre bxV bxJ bxMu bxOut y) := by
 obtain ⟨la, off, c, z, ws, j⟩ := y
 unfold bxPre at hy
 rw [Bool.and_eq_true, Bool.and_eq_true, Bool.and_eq_true] at hy
 have p0 : okB la off = true := hy.1
 have p1 : all32 ws = true := hy.2.1
 have p2 : ws.length = 64 := Nat.eq_of_beq_eq_true hy.2.2.1
 have p3 : j ≤ 64 := Nat.le_of_ble_eq_true hy.2.2.2
 clear hy
 have hf := okB_flat p0
 show roundW Tryd.prog T1 9 10 (rounds 9) 50 26 [0,2,6] [.slice 0 off 64 false c z, .ptr 1 0, .int .i64 j] [.ro false la, .row ws 90 64] _
 rw [blk_round]
 cases hb : decide ((j : Int) < 64) with
 | true =>
  have hj : j < 64 := by have := of_decide_eq_true hb; omega
  have e1 : IntKind.i64.wrap ((j : Int) + 1) = ((j + 1 : Nat) : Int) := by rw [IntWalk.i64_in _ ⟨by omega, by omega⟩]; omega
  have d1 : decide ((0 : Int) ≤ (j : Int)) = true := decide_eq_true (by omega)
  have d2 : (true && (0 + j * 1 + 1).ble ws.length) = true := by rw [Bool.true_and]; exact Nat.ble_eq_true_of_le (by omega)
  have e0 : 0 + j * 1 = j := by omega
  -- what stands behind a round
  have fin : ∀ x : Int, x = wordN la off ws j → RoundOkA 1 bxPre bxV bxJ bxMu bxOut ⟨la, off, c, z, ws, j⟩ .normal [some (.slice 0 off 64 false c z), some (.ptr 1 0), some (.int .i64 ((j + 1 : Nat) : Int))] [.ro false la, .row (putAt j [.int .u32 x] ws) 90 64] := by
   intro x hx
   have hp := put_all32 (x := x) p1 (j := j) (by omega)
   refine ⟨⟨la, off, c, z, putAt j [.int .u32 x] ws, j + 1⟩, ?_, bx_fits la hf off c z _ hp.1 _, by simp only [bxMu]; omega, fun K hK => ?_⟩
   ·unfold bxPre
    rw [Bool.and_eq_true, Bool.and_eq_true, Bool.and_eq_true]
    exact ⟨p0, hp.1, by rw [hp.2, p2]; rfl, Nat.ble_eq_true_of_le hj⟩
   ·have hK : K _ _ _ := hK
    have h64 : 64 - j = (64 - (j + 1)) + 1 := by omega
    rw [h64] at hK
    rw [hx]
    exact hK
  cases hb2 : decide ((j : Int) < 16) with
  | true =>
   have hj2 : j < 16 := by have := of_decide_eq_true hb2; omega
   have w0 : IntKind.i64.wrap (4 * (j : Int)) = ((4 * j : Nat) : Int) := by rw [IntWalk.i64_in _ ⟨by omega, by omega⟩]; omega
   have w1 : IntKind.i64.wrap (((4 * j : Nat) : Int) + 1) = ((4 * j + 1 : Nat) : Int) := by rw [IntWalk.i64_in _ ⟨by omega, by omega⟩]; omega
   have w2 : IntKind.i64.wrap (((4 * j : Nat) : Int) + 2) = ((4 * j + 2 : Nat) : Int) := by rw [IntWalk.i64_in _ ⟨by omega, by omega⟩]; omega
   have w3 : IntKind.i64.wrap (((4 * j : Nat) : Int) + 3) = ((4 * j + 3 : Nat) : Int) := by rw [IntWalk.i64_in _ ⟨by omega, by omega⟩]; omega
   rw [w0, w1, w2, w3, e1]
   simp only [Int.toNat_natCast]
   rw [d1, d2, e0]
   have k : ∀ i : Nat, i < 64 → (decide ((0 : Int) ≤ (i : Int)) && decide ((i : Int) < 64)) = true := fun i hi => by
    rw [Bool.and_eq_true]; exact ⟨decide_eq_true (by omega), decide_eq_true (by omega)⟩
   rw [cond_true, cond_true]
   refine must_intro (k _ (by omega)) (must_intro (okB_get p0 (by omega)).1 (must_intro (okB_get p0 (by omega)).2 ?_))
   refine must_intro (k _ (by omega)) (must_intro (okB_get p0 (by omega)).1 (must_intro (okB_get p0 (by omega)).2 ?_))
   refine must_intro (k _ (by omega)) (must_intro (okB_get p0 (by omega)).1 (must_intro (okB_get p0 (by omega)).2 ?_))
   refine must_intro (k _ (by omega)) (must_intro (okB_get p0 (by omega)).1 (must_intro (okB_get p0 (by omega)).2 ?_))
   refine must_intro rfl ?_
   exact fin _ (by unfold wordN; rw [if_pos hj2]; rfl)
  | false =>
   have hj2 : ¬ j < 16 := by have := of_decide_eq_false hb2; omega
   have w15 : IntKind.i64.wrap ((j : Int) - 15) = ((j - 15 : Nat) : Int) := by rw [IntWalk.i64_in _ ⟨by omega, by omega⟩]; omega
   have w2 : IntKind.i64.wrap ((j : Int) - 2) = ((j - 2 : Nat) : Int) := by rw [IntWalk.i64_in _ ⟨by omega, by omega⟩]; omega
   have w16 : IntKind.i64.wrap ((j : Int) - 16) = ((j - 16 : Nat) : Int) := by rw [IntWalk.i64_in _ ⟨by omega, by omega⟩]; omega
   have w7 : IntKind.i64.wrap ((j : Int) - 7) = ((j - 7 : Nat) : Int) := by rw [IntWalk.i64_in _ ⟨by omega, by omega⟩]; omega
   rw [w15, w2, w16, w7, e1]
   simp only [Int.toNat_natCast]
   have s0 : ∀ i : Nat, 0 + i * 1 = i := fun i => by omega
   simp only [s0]
   rw [d1]
   have d2' : (true && (j + 1).ble ws.length) = true := by rw [Bool.true_and]; exact Nat.ble_eq_true_of_le (by omega)
   rw [d2', cond_true, cond_false]
   have k : ∀ i : Nat, i < 64 → (decide ((0 : Int) ≤ (i : Int)) && decide ((i : Int) < 64)) = true := fun i hi => by
    rw [Bool.and_eq_true]; exact ⟨decide_eq_true (by omega), decide_eq_true (by omega)⟩
   have q : ∀ i : Nat, i < 64 → i.blt ws.length = true := fun i hi => Nat.ble_eq_true_of_le (by omega)
   refine must_intro (k _ (by omega)) (must_intro (q _ (by omega)) (must_intro (all32_get p1 (by omega)) ?_))
   refine must_intro (k _ (by omega)) (must_intro (q _ (by omega)) (must_intro (all32_get p1 (by omega)) ?_))
   refine must_intro (k _ (by omega)) (must_intro (q _ (by omega)) (must_intro (all32_get p1 (by omega)) ?_))
   refine must_intro (k _ (by omega)) (must_intro (q _ (by omega)) (must_intro (all32_get p1 (by omega)) ?_))
   refine must_intro rfl ?_
   exact fin _ (by unfold wordN; rw [if_neg hj2]; rfl)
 | false =>
  have hj : j = 64 := by have := of_decide_eq_false hb; omega
  subst hj
  refine ⟨_, _, fun K hK => hK, ?_⟩
  show Fits 1 _ [Blk.ro false la, Blk.row (cells64 (wI ws)) 90 64] _ _
  rw [cells64_of p1 p2]
  exact bx_fits la hf off c z ws p1 64
def bxDec : List (Option V) → St → Option BX
 | [some (.slice 0 off 64 false c z), some (.ptr 1 0), some (.int .i64 0)], .ro false la :: .row ws _ _ :: _ => some ⟨la, off, c, z, ws, 0⟩
 | _, _ => none
noncomputable def lk74G (BL : List V → Nat → Nat → Nat → List V → Nat → Int) : Nat → Trans → Trans := withLoop 26 (loopA 1 (szOf Tryd.prog 50) [0,2,6] bxDec bxPre bxV bxJ (bxOutG BL)) (rounds 9)
theorem bx_loop {f : Fr} {st : St} {Q : Exit → Fr → St → Prop} (h : loopA 1 (szOf Tryd.prog 50) [0,2,6] bxDec bxPre bxV bxJ bxOut f st Q) : CodeSatW Tryd.prog none 1 (.loop (loopOf Tryd.prog 50 26)) f st Q :=
 loopA_ok (P := Tryd.prog) (T := T1) (k := 1) (lim := 9) (n := 10) (g := 50) (p0 := 26) (lk := rounds 9) mixed T1_ok (roundsW 9 _ _) bxMu bx_roundOk h
theorem lk74_ok : FnLoopsW Tryd.prog 1 (lk74G blkF) 50 := by
 unfold lk74G
 exact fnLoopW (fnRoundsW 9 1 50) (by kernel_rfl) fun f st Q h => bx_loop h
noncomputable def lookK (g : Nat) (lk : Nat → Trans → Trans) (args : List V) (st : St) (R : V → St → Prop) : Prop := fnK Tryd.prog (cqT Tryd.prog T1 9 10) (KG Tryd.prog T1 9 10) lk g args st R
theorem lookK_ok {g : Nat} {lk : Nat → Trans → Trans} {args : List V} {st : St} {R : V → St → Prop} (hl : FnLoopsW Tryd.prog st.length lk g) (h : lookK g lk args st R) : FnSat Tryd.prog g args st R :=
 fnKW_ok mixed (cqT_ok mixed T1_ok 9 10) (KG_ok mixed T1_ok 10) hl h
def zeros64 : List V := cells64 fun _ => 0
theorem blk_tree (BL : List V → Nat → Nat → Nat → List V → Nat → Int) (la : List V) (off c z : Nat) (R : V → St → Prop) : lookK 50 (lk74G BL) [.slice 0 off 64 false c z] [.ro false la] R =
  (
 Fits 1 [V.slice 0 off 64 false c z, V.ptr 1 0, V.int IntKind.i64 0] [Blk.ro false la, Blk.row zeros64 90 64] [some (V.slice 0 off 64 false c z), some (V.ptr 1 0), some
 (V.int IntKind.i64 0)] [Blk.ro false la, Blk.row zeros64 90 64] ∧ bif bxPre { la := la, off := off, c := c, z := z, ws := zeros64, j := 0 } then R (V.agg (cells64 (BL la
 off 64 0 zeros64))) [Blk.ro false la, Blk.row (cells64 (BL la off 64 0 zeros64)) 90 64] else False) := by kernel_rfl
noncomputable def blkG : List V → St → Option (List (Bool × (V × St)))
 | [.slice 0 off 64 false c z], [.ro false la] => some [(okB la off, (.agg (cells64 (blkF la off 64 0 zeros64)), []))]
 | _, _ => none
theorem blk_ok (args : List V) (s : St) (l : List (Bool × (V × St))) (v : V) (n : St) (h : blkG args s = some l) (ho : pickO l = some (v, n)) : (∀ b ∈ s, flatL b.cs = true) ∧ FnSat Tryd.prog 50 args s (fun u st => Fits 0 [v] n [some u] st) := by
 unfold blkG at h
 split at h
 ·rename_i off c z la
  cases h
  cases hk : okB la off with
  | false => rw [hk] at ho; cases ho
  | true =>
   rw [hk] at ho
   cases ho
   refine ⟨by simp [Blk.cs, okB_flat hk], lookK_ok (lk := lk74G blkF) lk74_ok ?_⟩
   rw [blk_tree]
   refine ⟨bx_fits la (okB_flat hk) off c z zeros64 rfl 0, must_intro ?_ ?_⟩
   ·unfold bxPre
    rw [Bool.and_eq_true, Bool.and_eq_true, Bool.and_eq_true]
    exact ⟨hk, rfl, rfl, rfl⟩
   ·exact ⟨[], [.agg (cells64 (blkF la off 64 0 zeros64))], rfl, rfl, FitsM.of trivial, by simp, fun i hi => by omega⟩
 ·cases h
end Go.Proofs.YthcoeoibejgaiaaDoor
