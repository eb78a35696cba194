/- Which of the records are usable: what it comes to. -/
import Derived.Test.YthcoeoibejgaiaaGreatDoorMatches
namespace Go.Proofs.YthcoeoibejgaiaaGreatDoor
open Go Go.Vm Go.RowKit
set_option linter.unusedVariables false
set_option maxRecDepth 100000
set_option linter.unusedSectionVars false
variable [Φ : Frz]
theorem clone_tree (x : Value) (n : Nat) (cs : List V) (R : V → St → Prop) : runM Tryz.prog T3 9 10 40 [.lst x n cs] R =
  (
 bif nilX x then R V.nilSlice [] else bif n.beq 0 then R (V.slice 0 0 0 false 0 0) [Blk.row [] 24 4] else bif cs.length.beq (n * 4) && cs.all V.one then bif (0 + n).ble
 9223372036854775807 && ((0 + n) * 24).ble 140737488355328 then R (V.slice 1 0 (0 + n) false 0 0) [Blk.dead, Blk.row cs 24 4] else False else False) := by kernel_rfl
def rT (cs : List V) (j : Nat) : TL := (tlD cs).getD j ⟨0, 0, 0, []⟩
def clT (cs : List V) : Nat → V × St
 | 1 => (.slice 0 0 1 false 0 0, [.row (TL.cells (rT cs 0)) 24 4])
 | 2 => (.slice 0 0 2 false 0 0, [.row (TL.cells (rT cs 0) ++ TL.cells (rT cs 1)) 24 4])
 | 3 => (.slice 0 0 3 false 0 0, [.row (TL.cells (rT cs 0) ++ (TL.cells (rT cs 1) ++ TL.cells (rT cs 2))) 24 4])
 | _ => (.slice 0 0 4 false 0 0, [.row (TL.cells (rT cs 0) ++ (TL.cells (rT cs 1) ++ (TL.cells (rT cs 2) ++ TL.cells (rT cs 3)))) 24 4])
def cloneT : List V → Option (List (Bool × (V × St)))
 | [.lst x n cs] => some [(nilX x, (.nilSlice, [])), (okT n cs && Nat.beq n 0, (.slice 0 0 0 false 0 0, [.row [] 24 4])), (okT n cs && Nat.beq n 1, clT cs 1), (okT n cs && Nat.beq n 2, clT cs 2), (okT n cs && Nat.beq n 3, clT cs 3), (okT n cs && Nat.beq n 4, clT cs 4)]
 | _ => none
theorem rT_tls (l : List TL) (j : Nat) : rT (tls l) j = l.getD j ⟨0, 0, 0, []⟩ := by unfold rT; rw [tlD_tls]
theorem row_fits {cells : List V} {b n : Nat} {st : St} {t : TypeId} (hf : flatL cells = true) (hb : st[b]? = some (.row cells t 4)) : Fits 0 [.slice 0 0 n false 0 0] [.row cells t 4] [some (.slice b 0 n false 0 0)] st :=
 ⟨[b], [.slice b 0 n false 0 0], rfl, rfl, FitsM.of ⟨.inr ⟨.row cells t 4, .inl (by simp only [renB, renL_of_flat _ hf]), hb⟩, trivial⟩, by simp, fun i hi => by omega⟩
theorem oneT : ∀ l : List TL, (tls l).all V.one = true
 | [] => rfl
 | r :: l => by simp only [tls, List.all_cons, oneT l]; rfl
theorem clone_ok (args : List V) (L : List (Bool × (V × St))) (o : V × St) (h : cloneT args = some L) (ho : pickO L = some o) : FnSat Tryz.prog 40 args [] (Is o) := by
 unfold cloneT at h
 split at h
 ·rename_i x n cs
  cases h
  cases hx : nilX x with
  | true =>
   rw [hx] at ho
   cases ho
   refine FnSat.fits (runM_ok mixed T3_ok ?_ (lim := 9) (n := 10))
   rw [clone_tree, hx]
   exact ⟨[], [.nilSlice], rfl, rfl, FitsM.of trivial, by decide, fun i hi => by omega⟩
  | false =>
  rw [hx] at ho
  cases hk : okT n cs with
  | false => rw [hk] at ho; simp [pickO] at ho
  | true =>
  rw [hk] at ho
  obtain ⟨l, rfl, rfl, h1, h2⟩ := okT_spec hk
  have big : l.length ≤ 4 → l.length ≠ 0 → FnSat Tryz.prog 40 [.lst x l.length (tls l)] [] (Is (.slice 0 0 l.length false 0 0, [.row (tls l) 24 4])) := fun h4 h0 => by
   refine FnSat.fits (runM_ok mixed T3_ok ?_ (lim := 9) (n := 10))
   rw [clone_tree, hx, cond_false]
   refine bif_intro (fun e => absurd (Nat.eq_of_beq_eq_true e) h0) (fun _ => ?_)
   refine must_intro (by rw [tls_len, Nat.mul_comm, Nat.beq_refl, oneT]; rfl) (must_intro (by rw [Bool.and_eq_true]; exact ⟨Nat.ble_eq_true_of_le (by omega), Nat.ble_eq_true_of_le (by omega)⟩) ?_)
   rw [Nat.zero_add]
   exact row_fits (tls_flat l) rfl
  match l, h1, h2, hk, ho, big with
  | [], _, _, hk, ho, _ =>
   cases ho
   refine FnSat.fits (runM_ok mixed T3_ok ?_ (lim := 9) (n := 10))
   rw [clone_tree, hx]
   exact row_fits rfl rfl
  | [a], _, _, _, ho, big => cases ho; exact big (by simp) (by simp)
  | [a, b], _, _, _, ho, big => cases ho; exact big (by simp) (by simp)
  | [a, b, c], _, _, _, ho, big => cases ho; exact big (by simp) (by simp)
  | [a, b, c, d], _, _, _, ho, big => cases ho; exact big (by simp) (by simp)
  | a :: b :: c :: d :: e :: r, _, _, _, ho, _ =>
   have ho : (none : Option (V × St)) = some o := ho
   cases ho
 ·cases h
noncomputable def CL1 : Tab := ⟨addT (addP noT 14 usP) 40 cloneT, noL, noLks 9⟩
theorem CL1_ok : TabOk3 Tryz.prog CL1 := ⟨addT_ok (addP_ok noT_ok us_ok) clone_ok, noL_ok, noLks_ok 9⟩
def k4 (n : Nat) : Nat := (if 4 < (n : Int) then 4 else (n : Int)).toNat
def q4 (n : Nat) (cs : List V) : List V := List.take ((k4 n - 0) * 4) cs
theorem usa_tree (x : Value) (n : Nat) (cs : List V) (R : V → St → Prop) : runM Tryz.prog CL1 9 10 13 [.lst x n cs] (fun v st => R v (visD v st)) =
  (
 bif decide (0 ≤ if 4 < (↑n : Int) then 4 else (↑n : Int)) then bif true && (k4 n).ble n then bif nilX (sliceX x 0 (k4 n) 4) then R V.nilSlice [] else bif okT ((k4 n) - 0)
 (q4 n cs) && ((k4 n) - 0).beq 0 then R (V.slice 0 0 0 false 0 0) [Blk.row [] 24 4] else bif okT ((k4 n) - 0) (q4 n cs) && ((k4 n) - 0).beq 1 then bif !usB (rT (q4 n cs)
 0).u (rT (q4 n cs) 0).s (rT (q4 n cs) 0).m (rT (q4 n cs) 0).d then R (V.slice 0 0 0 false 0 0) [Blk.row [V.int IntKind.u8 0, V.int IntKind.u8 0, V.int IntKind.u8 0, V.str
 []] 24 4] else R (V.slice 0 0 1 false 0 0) [Blk.row [V.int IntKind.u8 (rT (q4 n cs) 0).u, V.int IntKind.u8 (rT (q4 n cs) 0).s, V.int IntKind.u8 (rT (q4 n cs) 0).m, V.str
 (rT (q4 n cs) 0).d] 24 4] else bif okT ((k4 n) - 0) (q4 n cs) && ((k4 n) - 0).beq 2 then bif !usB (rT (q4 n cs) 0).u (rT (q4 n cs) 0).s (rT (q4 n cs) 0).m (rT (q4 n cs)
 0).d then bif !!usB (rT (q4 n cs) 1).u (rT (q4 n cs) 1).s (rT (q4 n cs) 1).m (rT (q4 n cs) 1).d then R (V.slice 0 0 1 false 0 0) [Blk.row [V.int IntKind.u8 (rT (q4 n cs)
 1).u, V.int IntKind.u8 (rT (q4 n cs) 1).s, V.int IntKind.u8 (rT (q4 n cs) 1).m, V.str (rT (q4 n cs) 1).d, V.int IntKind.u8 0, V.int IntKind.u8 0, V.int IntKind.u8 0,
 V.str []] 24 4, Blk.dead] else R (V.slice 0 0 0 false 0 0) [Blk.row [V.int IntKind.u8 0, V.int IntKind.u8 0, V.int IntKind.u8 0, V.str [], V.int IntKind.u8 0, V.int
 IntKind.u8 0, V.int IntKind.u8 0, V.str []] 24 4, Blk.dead] else bif !usB (rT (q4 n cs) 1).u (rT (q4 n cs) 1).s (rT (q4 n cs) 1).m (rT (q4 n cs) 1).d then R (V.slice 0 0
 1 false 0 0) [Blk.row [V.int IntKind.u8 (rT (q4 n cs) 0).u, V.int IntKind.u8 (rT (q4 n cs) 0).s, V.int IntKind.u8 (rT (q4 n cs) 0).m, V.str (rT (q4 n cs) 0).d, V.int
 IntKind.u8 0, V.int IntKind.u8 0, V.int IntKind.u8 0, V.str []] 24 4] else R (V.slice 0 0 2 false 0 0) [Blk.row [V.int IntKind.u8 (rT (q4 n cs) 0).u, V.int IntKind.u8 (rT
 (q4 n cs) 0).s, V.int IntKind.u8 (rT (q4 n cs) 0).m, V.str (rT (q4 n cs) 0).d, V.int IntKind.u8 (rT (q4 n cs) 1).u, V.int IntKind.u8 (rT (q4 n cs) 1).s, V.int IntKind.u8
 (rT (q4 n cs) 1).m, V.str (rT (q4 n cs) 1).d] 24 4] else bif okT ((k4 n) - 0) (q4 n cs) && ((k4 n) - 0).beq 3 then bif !usB (rT (q4 n cs) 0).u (rT (q4 n cs) 0).s (rT (q4
 n cs) 0).m (rT (q4 n cs) 0).d then bif !!usB (rT (q4 n cs) 1).u (rT (q4 n cs) 1).s (rT (q4 n cs) 1).m (rT (q4 n cs) 1).d then bif !!usB (rT (q4 n cs) 2).u (rT (q4 n cs)
 2).s (rT (q4 n cs) 2).m (rT (q4 n cs) 2).d then R (V.slice 0 0 2 false 0 0) [Blk.row [V.int IntKind.u8 (rT (q4 n cs) 1).u, V.int IntKind.u8 (rT (q4 n cs) 1).s, V.int
 IntKind.u8 (rT (q4 n cs) 1).m, V.str (rT (q4 n cs) 1).d, V.int IntKind.u8 (rT (q4 n cs) 2).u, V.int IntKind.u8 (rT (q4 n cs) 2).s, V.int IntKind.u8 (rT (q4 n cs) 2).m,
 V.str (rT (q4 n cs) 2).d, V.int IntKind.u8 0, V.int IntKind.u8 0, V.int IntKind.u8 0, V.str []] 24 4, Blk.dead, Blk.dead] else R (V.slice 0 0 1 false 0 0) [Blk.row [V.int
 IntKind.u8 (rT (q4 n cs) 1).u, V.int IntKind.u8 (rT (q4 n cs) 1).s, V.int IntKind.u8 (rT (q4 n cs) 1).m, V.str (rT (q4 n cs) 1).d, V.int IntKind.u8 0, V.int IntKind.u8 0,
 V.int IntKind.u8 0, V.str [], V.int IntKind.u8 0, V.int IntKind.u8 0, V.int IntKind.u8 0, V.str []] 24 4, Blk.dead, Blk.dead] else bif !!usB (rT (q4 n cs) 2).u (rT (q4 n
 cs) 2).s (rT (q4 n cs) 2).m (rT (q4 n cs) 2).d then R (V.slice 0 0 1 false 0 0) [Blk.row [V.int IntKind.u8 (rT (q4 n cs) 2).u, V.int IntKind.u8 (rT (q4 n cs) 2).s, V.int
 IntKind.u8 (rT (q4 n cs) 2).m, V.str (rT (q4 n cs) 2).d, V.int IntKind.u8 0, V.int IntKind.u8 0, V.int IntKind.u8 0, V.str [], V.int IntKind.u8 0, V.int IntKind.u8 0,
 V.int IntKind.u8 0, V.str []] 24 4, Blk.dead, Blk.dead] else R (V.slice 0 0 0 false 0 0) [Blk.row [V.int IntKind.u8 0, V.int IntKind.u8 0, V.int IntKind.u8 0, V.str [],
 V.int IntKind.u8 0, V.int IntKind.u8 0, V.int IntKind.u8 0, V.str [], V.int IntKind.u8 0, V.int IntKind.u8 0, V.int IntKind.u8 0, V.str []] 24 4, Blk.dead, Blk.dead] else
 bif !usB (rT (q4 n cs) 1).u (rT (q4 n cs) 1).s (rT (q4 n cs) 1).m (rT (q4 n cs) 1).d then bif !!usB (rT (q4 n cs) 2).u (rT (q4 n cs) 2).s (rT (q4 n cs) 2).m (rT (q4 n cs)
 2).d then R (V.slice 0 0 2 false 0 0) [Blk.row [V.int IntKind.u8 (rT (q4 n cs) 0).u, V.int IntKind.u8 (rT (q4 n cs) 0).s, V.int IntKind.u8 (rT (q4 n cs) 0).m, V.str (rT
 (q4 n cs) 0).d, V.int IntKind.u8 (rT (q4 n cs) 2).u, V.int IntKind.u8 (rT (q4 n cs) 2).s, V.int IntKind.u8 (rT (q4 n cs) 2).m, V.str (rT (q4 n cs) 2).d, V.int IntKind.u8
 0, V.int IntKind.u8 0, V.int IntKind.u8 0, V.str []] 24 4, Blk.dead] else R (V.slice 0 0 1 false 0 0) [Blk.row [V.int IntKind.u8 (rT (q4 n cs) 0).u, V.int IntKind.u8 (rT
 (q4 n cs) 0).s, V.int IntKind.u8 (rT (q4 n cs) 0).m, V.str (rT (q4 n cs) 0).d, V.int IntKind.u8 0, V.int IntKind.u8 0, V.int IntKind.u8 0, V.str [], V.int IntKind.u8 0,
 V.int IntKind.u8 0, V.int IntKind.u8 0, V.str []] 24 4, Blk.dead] else bif !usB (rT (q4 n cs) 2).u (rT (q4 n cs) 2).s (rT (q4 n cs) 2).m (rT (q4 n cs) 2).d then R
 (V.slice 0 0 2 false 0 0) [Blk.row [V.int IntKind.u8 (rT (q4 n cs) 0).u, V.int IntKind.u8 (rT (q4 n cs) 0).s, V.int IntKind.u8 (rT (q4 n cs) 0).m, V.str (rT (q4 n cs)
 0).d, V.int IntKind.u8 (rT (q4 n cs) 1).u, V.int IntKind.u8 (rT (q4 n cs) 1).s, V.int IntKind.u8 (rT (q4 n cs) 1).m, V.str (rT (q4 n cs) 1).d, V.int IntKind.u8 0, V.int
 IntKind.u8 0, V.int IntKind.u8 0, V.str []] 24 4] else R (V.slice 0 0 3 false 0 0) [Blk.row [V.int IntKind.u8 (rT (q4 n cs) 0).u, V.int IntKind.u8 (rT (q4 n cs) 0).s,
 V.int IntKind.u8 (rT (q4 n cs) 0).m, V.str (rT (q4 n cs) 0).d, V.int IntKind.u8 (rT (q4 n cs) 1).u, V.int IntKind.u8 (rT (q4 n cs) 1).s, V.int IntKind.u8 (rT (q4 n cs)
 1).m, V.str (rT (q4 n cs) 1).d, V.int IntKind.u8 (rT (q4 n cs) 2).u, V.int IntKind.u8 (rT (q4 n cs) 2).s, V.int IntKind.u8 (rT (q4 n cs) 2).m, V.str (rT (q4 n cs) 2).d]
 24 4] else bif okT ((k4 n) - 0) (q4 n cs) && ((k4 n) - 0).beq 4 then bif !usB (rT (q4 n cs) 0).u (rT (q4 n cs) 0).s (rT (q4 n cs) 0).m (rT (q4 n cs) 0).d then bif !!usB
 (rT (q4 n cs) 1).u (rT (q4 n cs) 1).s (rT (q4 n cs) 1).m (rT (q4 n cs) 1).d then bif !!usB (rT (q4 n cs) 2).u (rT (q4 n cs) 2).s (rT (q4 n cs) 2).m (rT (q4 n cs) 2).d
 then bif !!usB (rT (q4 n cs) 3).u (rT (q4 n cs) 3).s (rT (q4 n cs) 3).m (rT (q4 n cs) 3).d then R (V.slice 0 0 3 false 0 0) [Blk.row [V.int IntKind.u8 (rT (q4 n cs) 1).u,
 V.int IntKind.u8 (rT (q4 n cs) 1).s, V.int IntKind.u8 (rT (q4 n cs) 1).m, V.str (rT (q4 n cs) 1).d, V.int IntKind.u8 (rT (q4 n cs) 2).u, V.int IntKind.u8 (rT (q4 n cs)
 2).s, V.int IntKind.u8 (rT (q4 n cs) 2).m, V.str (rT (q4 n cs) 2).d, V.int IntKind.u8 (rT (q4 n cs) 3).u, V.int IntKind.u8 (rT (q4 n cs) 3).s, V.int IntKind.u8 (rT (q4 n
 cs) 3).m, V.str (rT (q4 n cs) 3).d, V.int IntKind.u8 0, V.int IntKind.u8 0, V.int IntKind.u8 0, V.str []] 24 4, Blk.dead, Blk.dead, Blk.dead] else R (V.slice 0 0 2 false
 0 0) [Blk.row [V.int IntKind.u8 (rT (q4 n cs) 1).u, V.int IntKind.u8 (rT (q4 n cs) 1).s, V.int IntKind.u8 (rT (q4 n cs) 1).m, V.str (rT (q4 n cs) 1).d, V.int IntKind.u8
 (rT (q4 n cs) 2).u, V.int IntKind.u8 (rT (q4 n cs) 2).s, V.int IntKind.u8 (rT (q4 n cs) 2).m, V.str (rT (q4 n cs) 2).d, V.int IntKind.u8 0, V.int IntKind.u8 0, V.int
 IntKind.u8 0, V.str [], V.int IntKind.u8 0, V.int IntKind.u8 0, V.int IntKind.u8 0, V.str []] 24 4, Blk.dead, Blk.dead, Blk.dead] else bif !!usB (rT (q4 n cs) 3).u (rT
 (q4 n cs) 3).s (rT (q4 n cs) 3).m (rT (q4 n cs) 3).d then R (V.slice 0 0 2 false 0 0) [Blk.row [V.int IntKind.u8 (rT (q4 n cs) 1).u, V.int IntKind.u8 (rT (q4 n cs) 1).s,
 V.int IntKind.u8 (rT (q4 n cs) 1).m, V.str (rT (q4 n cs) 1).d, V.int IntKind.u8 (rT (q4 n cs) 3).u, V.int IntKind.u8 (rT (q4 n cs) 3).s, V.int IntKind.u8 (rT (q4 n cs)
 3).m, V.str (rT (q4 n cs) 3).d, V.int IntKind.u8 0, V.int IntKind.u8 0, V.int IntKind.u8 0, V.str [], V.int IntKind.u8 0, V.int IntKind.u8 0, V.int IntKind.u8 0, V.str
 []] 24 4, Blk.dead, Blk.dead, Blk.dead] else R (V.slice 0 0 1 false 0 0) [Blk.row [V.int IntKind.u8 (rT (q4 n cs) 1).u, V.int IntKind.u8 (rT (q4 n cs) 1).s, V.int
 IntKind.u8 (rT (q4 n cs) 1).m, V.str (rT (q4 n cs) 1).d, V.int IntKind.u8 0, V.int IntKind.u8 0, V.int IntKind.u8 0, V.str [], V.int IntKind.u8 0, V.int IntKind.u8 0,
 V.int IntKind.u8 0, V.str [], V.int IntKind.u8 0, V.int IntKind.u8 0, V.int IntKind.u8 0, V.str []] 24 4, Blk.dead, Blk.dead, Blk.dead] else bif !!usB (rT (q4 n cs) 2).u
 (rT (q4 n cs) 2).s (rT (q4 n cs) 2).m (rT (q4 n cs) 2).d then bif !!usB (rT (q4 n cs) 3).u (rT (q4 n cs) 3).s (rT (q4 n cs) 3).m (rT (q4 n cs) 3).d then R (V.slice 0 0 2
 false 0 0) [Blk.row [V.int IntKind.u8 (rT (q4 n cs) 2).u, V.int IntKind.u8 (rT (q4 n cs) 2).s, V.int IntKind.u8 (rT (q4 n cs) 2).m, V.str (rT (q4 n cs) 2).d, V.int
 IntKind.u8 (rT (q4 n cs) 3).u, V.int IntKind.u8 (rT (q4 n cs) 3).s, V.int IntKind.u8 (rT (q4 n cs) 3).m, V.str (rT (q4 n cs) 3).d, V.int IntKind.u8 0, V.int IntKind.u8 0,
 V.int IntKind.u8 0, V.str [], V.int IntKind.u8 0, V.int IntKind.u8 0, V.int IntKind.u8 0, V.str []] 24 4, Blk.dead, Blk.dead, Blk.dead] else R (V.slice 0 0 1 false 0 0)
 [Blk.row [V.int IntKind.u8 (rT (q4 n cs) 2).u, V.int IntKind.u8 (rT (q4 n cs) 2).s, V.int IntKind.u8 (rT (q4 n cs) 2).m, V.str (rT (q4 n cs) 2).d, V.int IntKind.u8 0,
 V.int IntKind.u8 0, V.int IntKind.u8 0, V.str [], V.int IntKind.u8 0, V.int IntKind.u8 0, V.int IntKind.u8 0, V.str [], V.int IntKind.u8 0, V.int IntKind.u8 0, V.int
 IntKind.u8 0, V.str []] 24 4, Blk.dead, Blk.dead, Blk.dead] else bif !!usB (rT (q4 n cs) 3).u (rT (q4 n cs) 3).s (rT (q4 n cs) 3).m (rT (q4 n cs) 3).d then R (V.slice 0 0
 1 false 0 0) [Blk.row [V.int IntKind.u8 (rT (q4 n cs) 3).u, V.int IntKind.u8 (rT (q4 n cs) 3).s, V.int IntKind.u8 (rT (q4 n cs) 3).m, V.str (rT (q4 n cs) 3).d, V.int
 IntKind.u8 0, V.int IntKind.u8 0, V.int IntKind.u8 0, V.str [], V.int IntKind.u8 0, V.int IntKind.u8 0, V.int IntKind.u8 0, V.str [], V.int IntKind.u8 0, V.int IntKind.u8
 0, V.int IntKind.u8 0, V.str []] 24 4, Blk.dead, Blk.dead, Blk.dead] else R (V.slice 0 0 0 false 0 0) [Blk.row [V.int IntKind.u8 0, V.int IntKind.u8 0, V.int IntKind.u8
 0, V.str [], V.int IntKind.u8 0, V.int IntKind.u8 0, V.int IntKind.u8 0, V.str [], V.int IntKind.u8 0, V.int IntKind.u8 0, V.int IntKind.u8 0, V.str [], V.int IntKind.u8
 0, V.int IntKind.u8 0, V.int IntKind.u8 0, V.str []] 24 4, Blk.dead, Blk.dead, Blk.dead] else bif !usB (rT (q4 n cs) 1).u (rT (q4 n cs) 1).s (rT (q4 n cs) 1).m (rT (q4 n
 cs) 1).d then bif !!usB (rT (q4 n cs) 2).u (rT (q4 n cs) 2).s (rT (q4 n cs) 2).m (rT (q4 n cs) 2).d then bif !!usB (rT (q4 n cs) 3).u (rT (q4 n cs) 3).s (rT (q4 n cs)
 3).m (rT (q4 n cs) 3).d then R (V.slice 0 0 3 false 0 0) [Blk.row [V.int IntKind.u8 (rT (q4 n cs) 0).u, V.int IntKind.u8 (rT (q4 n cs) 0).s, V.int IntKind.u8 (rT (q4 n
 cs) 0).m, V.str (rT (q4 n cs) 0).d, V.int IntKind.u8 (rT (q4 n cs) 2).u, V.int IntKind.u8 (rT (q4 n cs) 2).s, V.int IntKind.u8 (rT (q4 n cs) 2).m, V.str (rT (q4 n cs)
 2).d, V.int IntKind.u8 (rT (q4 n cs) 3).u, V.int IntKind.u8 (rT (q4 n cs) 3).s, V.int IntKind.u8 (rT (q4 n cs) 3).m, V.str (rT (q4 n cs) 3).d, V.int IntKind.u8 0, V.int
 IntKind.u8 0, V.int IntKind.u8 0, V.str []] 24 4, Blk.dead, Blk.dead] else R (V.slice 0 0 2 false 0 0) [Blk.row [V.int IntKind.u8 (rT (q4 n cs) 0).u, V.int IntKind.u8 (rT
 (q4 n cs) 0).s, V.int IntKind.u8 (rT (q4 n cs) 0).m, V.str (rT (q4 n cs) 0).d, V.int IntKind.u8 (rT (q4 n cs) 2).u, V.int IntKind.u8 (rT (q4 n cs) 2).s, V.int IntKind.u8
 (rT (q4 n cs) 2).m, V.str (rT (q4 n cs) 2).d, V.int IntKind.u8 0, V.int IntKind.u8 0, V.int IntKind.u8 0, V.str [], V.int IntKind.u8 0, V.int IntKind.u8 0, V.int
 IntKind.u8 0, V.str []] 24 4, Blk.dead, Blk.dead] else bif !!usB (rT (q4 n cs) 3).u (rT (q4 n cs) 3).s (rT (q4 n cs) 3).m (rT (q4 n cs) 3).d then R (V.slice 0 0 2 false 0
 0) [Blk.row [V.int IntKind.u8 (rT (q4 n cs) 0).u, V.int IntKind.u8 (rT (q4 n cs) 0).s, V.int IntKind.u8 (rT (q4 n cs) 0).m, V.str (rT (q4 n cs) 0).d, V.int IntKind.u8 (rT
 (q4 n cs) 3).u, V.int IntKind.u8 (rT (q4 n cs) 3).s, V.int IntKind.u8 (rT (q4 n cs) 3).m, V.str (rT (q4 n cs) 3).d, V.int IntKind.u8 0, V.int IntKind.u8 0, V.int
 IntKind.u8 0, V.str [], V.int IntKind.u8 0, V.int IntKind.u8 0, V.int IntKind.u8 0, V.str []] 24 4, Blk.dead, Blk.dead] else R (V.slice 0 0 1 false 0 0) [Blk.row [V.int
 IntKind.u8 (rT (q4 n cs) 0).u, V.int IntKind.u8 (rT (q4 n cs) 0).s, V.int IntKind.u8 (rT (q4 n cs) 0).m, V.str (rT (q4 n cs) 0).d, V.int IntKind.u8 0, V.int IntKind.u8 0,
 V.int IntKind.u8 0, V.str [], V.int IntKind.u8 0, V.int IntKind.u8 0, V.int IntKind.u8 0, V.str [], V.int IntKind.u8 0, V.int IntKind.u8 0, V.int IntKind.u8 0, V.str []]
 24 4, Blk.dead, Blk.dead] else bif !usB (rT (q4 n cs) 2).u (rT (q4 n cs) 2).s (rT (q4 n cs) 2).m (rT (q4 n cs) 2).d then bif !!usB (rT (q4 n cs) 3).u (rT (q4 n cs) 3).s
 (rT (q4 n cs) 3).m (rT (q4 n cs) 3).d then R (V.slice 0 0 3 false 0 0) [Blk.row [V.int IntKind.u8 (rT (q4 n cs) 0).u, V.int IntKind.u8 (rT (q4 n cs) 0).s, V.int
 IntKind.u8 (rT (q4 n cs) 0).m, V.str (rT (q4 n cs) 0).d, V.int IntKind.u8 (rT (q4 n cs) 1).u, V.int IntKind.u8 (rT (q4 n cs) 1).s, V.int IntKind.u8 (rT (q4 n cs) 1).m,
 V.str (rT (q4 n cs) 1).d, V.int IntKind.u8 (rT (q4 n cs) 3).u, V.int IntKind.u8 (rT (q4 n cs) 3).s, V.int IntKind.u8 (rT (q4 n cs) 3).m, V.str (rT (q4 n cs) 3).d, V.int
 IntKind.u8 0, V.int IntKind.u8 0, V.int IntKind.u8 0, V.str []] 24 4, Blk.dead] else R (V.slice 0 0 2 false 0 0) [Blk.row [V.int IntKind.u8 (rT (q4 n cs) 0).u, V.int
 IntKind.u8 (rT (q4 n cs) 0).s, V.int IntKind.u8 (rT (q4 n cs) 0).m, V.str (rT (q4 n cs) 0).d, V.int IntKind.u8 (rT (q4 n cs) 1).u, V.int IntKind.u8 (rT (q4 n cs) 1).s,
 V.int IntKind.u8 (rT (q4 n cs) 1).m, V.str (rT (q4 n cs) 1).d, V.int IntKind.u8 0, V.int IntKind.u8 0, V.int IntKind.u8 0, V.str [], V.int IntKind.u8 0, V.int IntKind.u8
 0, V.int IntKind.u8 0, V.str []] 24 4, Blk.dead] else bif !usB (rT (q4 n cs) 3).u (rT (q4 n cs) 3).s (rT (q4 n cs) 3).m (rT (q4 n cs) 3).d then R (V.slice 0 0 3 false 0
 0) [Blk.row [V.int IntKind.u8 (rT (q4 n cs) 0).u, V.int IntKind.u8 (rT (q4 n cs) 0).s, V.int IntKind.u8 (rT (q4 n cs) 0).m, V.str (rT (q4 n cs) 0).d, V.int IntKind.u8 (rT
 (q4 n cs) 1).u, V.int IntKind.u8 (rT (q4 n cs) 1).s, V.int IntKind.u8 (rT (q4 n cs) 1).m, V.str (rT (q4 n cs) 1).d, V.int IntKind.u8 (rT (q4 n cs) 2).u, V.int IntKind.u8
 (rT (q4 n cs) 2).s, V.int IntKind.u8 (rT (q4 n cs) 2).m, V.str (rT (q4 n cs) 2).d, V.int IntKind.u8 0, V.int IntKind.u8 0, V.int IntKind.u8 0, V.str []] 24 4] else R
 (V.slice 0 0 4 false 0 0) [Blk.row [V.int IntKind.u8 (rT (q4 n cs) 0).u, V.int IntKind.u8 (rT (q4 n cs) 0).s, V.int IntKind.u8 (rT (q4 n cs) 0).m, V.str (rT (q4 n cs)
 0).d, V.int IntKind.u8 (rT (q4 n cs) 1).u, V.int IntKind.u8 (rT (q4 n cs) 1).s, V.int IntKind.u8 (rT (q4 n cs) 1).m, V.str (rT (q4 n cs) 1).d, V.int IntKind.u8 (rT (q4 n
 cs) 2).u, V.int IntKind.u8 (rT (q4 n cs) 2).s, V.int IntKind.u8 (rT (q4 n cs) 2).m, V.str (rT (q4 n cs) 2).d, V.int IntKind.u8 (rT (q4 n cs) 3).u, V.int IntKind.u8 (rT
 (q4 n cs) 3).s, V.int IntKind.u8 (rT (q4 n cs) 3).m, V.str (rT (q4 n cs) 3).d] 24 4] else False else False else False) := by kernel_rfl
def goodQ : List TL → List TL
 | [] => []
 | r :: l => bif usB r.u r.s r.m r.d then r :: goodQ l else goodQ l
def zerosQ : List TL → List V
 | [] => []
 | r :: l => bif usB r.u r.s r.m r.d then zerosQ l else .int .u8 0 :: .int .u8 0 :: .int .u8 0 :: .str [] :: zerosQ l
def usaL (cs : List V) : List TL := (tlD cs).take 4
def usaT : List V → Option (List (Bool × (V × St)))
 | [.lst x n cs] => some [(okT n cs && nilX (sliceX x 0 (k4 n) 4), (.nilSlice, [])), (okT n cs, (.slice 0 0 (goodQ (usaL cs)).length false 0 0, [.row (tls (goodQ (usaL cs)) ++ zerosQ (usaL cs)) 24 4]))]
 | _ => none
theorem k4_eq (n : Nat) : k4 n = min 4 n := by unfold k4; split <;> omega
theorem usa_ok (args : List V) (L : List (Bool × (V × St))) (o : V × St) (h : usaT args = some L) (ho : pickO L = some o) : FnSat Tryz.prog 13 args [] (Is o) := by
 unfold usaT at h
 split at h
 ·rename_i x n cs
  cases h
  cases hk : okT n cs with
  | false => rw [hk] at ho; simp [pickO] at ho
  | true =>
  rw [hk, Bool.true_and] at ho
  obtain ⟨l, rfl, rfl, h1, h2⟩ := okT_spec hk
  have hK : k4 l.length = (l.take 4).length := by rw [k4_eq, List.length_take]
  have hq : q4 l.length (tls l) = tls (l.take 4) := by
   unfold q4
   rw [Nat.sub_zero, k4_eq, Nat.mul_comm, tls_take]
   congr 1
   rcases Nat.le_total 4 l.length with h | h
   ·rw [Nat.min_eq_left h]
   ·rw [Nat.min_eq_right h, List.take_of_length_le h, List.take_of_length_le (Nat.le_refl _)]
  have c1 : decide (0 ≤ if 4 < (l.length : Int) then 4 else (l.length : Int)) = true := decide_eq_true (by split <;> omega)
  have c2 : (true && (k4 l.length).ble l.length) = true := by rw [Bool.true_and]; exact Nat.ble_eq_true_of_le (by rw [k4_eq]; omega)
  refine FnSat.fits ((runM_ok mixed CL1_ok (lim := 9) (n := 10) (cast (usa_tree x l.length (tls l) (fun v st => Fits 0 [o.1] o.2 [some v] st)).symm ?_)).mono fun u st hq => fits_visD hq)
  rw [c1, c2, cond_true, cond_true]
  cases hx : nilX (sliceX x 0 (k4 l.length) 4) with
  | true =>
   rw [hx] at ho
   cases ho
   exact ⟨[], [.nilSlice], rfl, rfl, FitsM.of trivial, by decide, fun i hi => by omega⟩
  | false =>
  rw [hx] at ho
  have ho : (V.slice 0 0 (goodQ (usaL (tls l))).length false 0 0, [Blk.row (tls (goodQ (usaL (tls l))) ++ zerosQ (usaL (tls l))) 24 4]) = o := Option.some.inj ho
  rw [← ho, cond_false, hq, Nat.sub_zero, hK]
  have hu : usaL (tls l) = l.take 4 := by unfold usaL; rw [tlD_tls]
  rw [hu]
  have hl : (l.take 4).length ≤ 4 := by rw [List.length_take]; omega
  have hkq : okT (l.take 4).length (tls (l.take 4)) = true := okT_mk (by omega)
  rw [hkq]
  clear hx ho hu hkq hK hq c1 c2 hk h1 h2
  generalize l.take 4 = q at *
  simp only [rT_tls, Bool.true_and]
  match q, hl with
  | [], _ => exact row_fits rfl rfl
  | [a], _ =>
   simp only [List.getD_cons_zero]
   cases ha : usB a.u a.s a.m a.d <;> (simp only [goodQ, zerosQ, ha, cond_true, cond_false]; exact row_fits rfl rfl)
  | [a, b], _ =>
   simp only [List.getD_cons_zero, List.getD_cons_succ]
   cases ha : usB a.u a.s a.m a.d <;> cases hb : usB b.u b.s b.m b.d <;> (simp only [goodQ, zerosQ, ha, hb, cond_true, cond_false]; exact row_fits rfl rfl)
  | [a, b, c], _ =>
   simp only [List.getD_cons_zero, List.getD_cons_succ]
   cases ha : usB a.u a.s a.m a.d <;> cases hb : usB b.u b.s b.m b.d <;> cases hc : usB c.u c.s c.m c.d <;> (simp only [goodQ, zerosQ, ha, hb, hc, cond_true, cond_false]; exact row_fits rfl rfl)
  | [a, b, c, d], _ =>
   simp only [List.getD_cons_zero, List.getD_cons_succ]
   cases ha : usB a.u a.s a.m a.d <;> cases hb : usB b.u b.s b.m b.d <;> cases hc : usB c.u c.s c.m c.d <;> cases hd : usB d.u d.s d.m d.d <;> (simp only [goodQ, zerosQ, ha, hb, hc, hd, cond_true, cond_false]; exact row_fits rfl rfl)
  | a :: b :: c :: d :: e :: r, hl => simp only [List.length_cons] at hl; omega
 ·cases h
end Go.Proofs.YthcoeoibejgaiaaGreatDoor
