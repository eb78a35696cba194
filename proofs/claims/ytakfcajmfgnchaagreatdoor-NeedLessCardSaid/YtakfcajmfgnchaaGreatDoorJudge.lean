/- How a chain is judged: what it comes to. -/
import Derived.Test.YtakfcajmfgnchaaGreatDoorRead
namespace Go.Proofs.YtakfcajmfgnchaaGreatDoor
open Go Go.Vm Go.RowKit
set_option linter.unusedVariables false
set_option maxRecDepth 100000
set_option linter.unusedSectionVars false
variable [Φ : Frz]
noncomputable def JG0 : Tab := ⟨addT noT 41 readT, addS (addS (addS noL 42 datesG) 43 hostG) 44 anG, aR 9⟩
theorem JG0_ok : TabOk3 Tryz.prog JG0 := ⟨ba aC readT_ok, bL (bL (bL aD datesG_ok) hostG_ok) anG_ok, am 9⟩
theorem jg_tree (x : Value) (n : Nat) (cs : List V) (h : List UInt8) (now : Int) (y : Value) (m : Nat) (ds : List V) (R : V → Prop) : runW Tryz.prog JG0 9 10 17 [.lst x n cs, .str h, .int .i64 now, .lst y m ds] R =
  (
 bif okS n cs && (rdN (List.map aa cs)).beq 0 then R (V.int IntKind.u8 3) else bif okS n cs && (rdN (List.map aa cs)).beq 1 then bif (dN (rdG (List.map aa cs)
 0) * 1).ble (strs (dL (rdG (List.map aa cs) 0))).length && ((List.take (dN (rdG (List.map aa cs) 0) * 1) (strs (dL (rdG (List.map aa cs) 0)))).all aw &&
 (List.take (dN (rdG (List.map aa cs) 0) * 1) (strs (dL (rdG (List.map aa cs) 0)))).length.beq (dN (rdG (List.map aa cs) 0))) then bif !datesB (dF (rdG
 (List.map aa cs) 0)) (dU (rdG (List.map aa cs) 0)) now then R (V.int IntKind.u8 1) else bif (dN (rdG (List.map aa cs) 0) * 1).ble (strs (dL (rdG (List.map
 aa cs) 0))).length && ((List.take (dN (rdG (List.map aa cs) 0) * 1) (strs (dL (rdG (List.map aa cs) 0)))).all aw && (List.take (dN (rdG (List.map aa
 cs) 0) * 1) (strs (dL (rdG (List.map aa cs) 0)))).length.beq (dN (rdG (List.map aa cs) 0))) && (List.map aa (List.take (dN (rdG (List.map aa cs) 0) * 1)
 (strs (dL (rdG (List.map aa cs) 0))))).length.ble 9223372036854775807 then bif !hasH (List.map aa (List.take (dN (rdG (List.map aa cs) 0) * 1) (strs (dL (rdG
 (List.map aa cs) 0))))) h then R (V.int IntKind.u8 2) else bif true && (isCr [Blk.row [V.str (dK (rdG (List.map aa cs) 0)), V.str (dG (rdG (List.map aa cs)
 0)), V.nos 1 (dN (rdG (List.map aa cs) 0)), V.int IntKind.i64 (dF (rdG (List.map aa cs) 0)), V.int IntKind.i64 (dU (rdG (List.map aa cs) 0)), V.bool (dCa (rdG
 (List.map aa cs) 0))] 70 6, Blk.ro true (strs (dL (rdG (List.map aa cs) 0)))] [V.str (dK (rdG (List.map aa cs) 0)), V.str (dG (rdG (List.map aa cs) 0)),
 V.nos 1 (dN (rdG (List.map aa cs) 0)), V.int IntKind.i64 (dF (rdG (List.map aa cs) 0)), V.int IntKind.i64 (dU (rdG (List.map aa cs) 0)), V.bool (dCa (rdG
 (List.map aa cs) 0))] && true) && (ds.length.beq (m * 1) && (ds.all aw && ds.length.beq m) && (true && (List.map aa ds).length.ble 9223372036854775807)) then
 bif !anchP now (List.map aa ds) none [{ k := (dK (rdG (List.map aa cs) 0)), g := (dG (rdG (List.map aa cs) 0)), l := List.map aa (List.take (dN (rdG (List.map aa cs) 0) * 1) (strs (dL (rdG (List.map aa cs) 0)))), f := dF (rdG (List.map aa cs) 0), u := dU (rdG (List.map aa cs) 0), ca := dCa (rdG (List.map aa cs) 0) }]
 then R (V.int IntKind.u8 3) else R (V.int IntKind.u8 0) else False else False else False else bif okS n cs && (rdN (List.map aa cs)).beq 2 then bif (dN (rdG (List.map
 aa cs) 0) * 1).ble (strs (dL (rdG (List.map aa cs) 0))).length && ((List.take (dN (rdG (List.map aa cs) 0) * 1) (strs (dL (rdG (List.map aa cs) 0)))).all
 aw && (List.take (dN (rdG (List.map aa cs) 0) * 1) (strs (dL (rdG (List.map aa cs) 0)))).length.beq (dN (rdG (List.map aa cs) 0))) then bif !datesB (dF
 (rdG (List.map aa cs) 0)) (dU (rdG (List.map aa cs) 0)) now then R (V.int IntKind.u8 1) else bif (dN (rdG (List.map aa cs) 0) * 1).ble (strs (dL (rdG
 (List.map aa cs) 0))).length && ((List.take (dN (rdG (List.map aa cs) 0) * 1) (strs (dL (rdG (List.map aa cs) 0)))).all aw && (List.take (dN (rdG
 (List.map aa cs) 0) * 1) (strs (dL (rdG (List.map aa cs) 0)))).length.beq (dN (rdG (List.map aa cs) 0))) && (List.map aa (List.take (dN (rdG (List.map
 aa cs) 0) * 1) (strs (dL (rdG (List.map aa cs) 0))))).length.ble 9223372036854775807 then bif !hasH (List.map aa (List.take (dN (rdG (List.map aa cs) 0) *
 1) (strs (dL (rdG (List.map aa cs) 0))))) h then R (V.int IntKind.u8 2) else bif true && (isCr [Blk.row [V.str (dK (rdG (List.map aa cs) 0)), V.str (dG (rdG
 (List.map aa cs) 0)), V.nos 1 (dN (rdG (List.map aa cs) 0)), V.int IntKind.i64 (dF (rdG (List.map aa cs) 0)), V.int IntKind.i64 (dU (rdG (List.map aa cs)
 0)), V.bool (dCa (rdG (List.map aa cs) 0)), V.str (dK (rdG (List.map aa cs) 1)), V.str (dG (rdG (List.map aa cs) 1)), V.nos 2 (dN (rdG (List.map aa cs)
 1)), V.int IntKind.i64 (dF (rdG (List.map aa cs) 1)), V.int IntKind.i64 (dU (rdG (List.map aa cs) 1)), V.bool (dCa (rdG (List.map aa cs) 1))] 70 6, Blk.ro
 true (strs (dL (rdG (List.map aa cs) 0))), Blk.ro true (strs (dL (rdG (List.map aa cs) 1)))] [V.str (dK (rdG (List.map aa cs) 0)), V.str (dG (rdG (List.map
 aa cs) 0)), V.nos 1 (dN (rdG (List.map aa cs) 0)), V.int IntKind.i64 (dF (rdG (List.map aa cs) 0)), V.int IntKind.i64 (dU (rdG (List.map aa cs) 0)),
 V.bool (dCa (rdG (List.map aa cs) 0)), V.str (dK (rdG (List.map aa cs) 1)), V.str (dG (rdG (List.map aa cs) 1)), V.nos 2 (dN (rdG (List.map aa cs) 1)),
 V.int IntKind.i64 (dF (rdG (List.map aa cs) 1)), V.int IntKind.i64 (dU (rdG (List.map aa cs) 1)), V.bool (dCa (rdG (List.map aa cs) 1))] && true) &&
 (ds.length.beq (m * 1) && (ds.all aw && ds.length.beq m) && (true && (List.map aa ds).length.ble 9223372036854775807)) then bif !anchP now (List.map aa ds)
 none [{ k := (dK (rdG (List.map aa cs) 0)), g := (dG (rdG (List.map aa cs) 0)), l := List.map aa (List.take (dN (rdG (List.map aa cs) 0) * 1) (strs (dL (rdG (List.map aa cs) 0)))), f := dF (rdG (List.map aa cs) 0), u := dU (rdG (List.map aa cs) 0), ca := dCa (rdG (List.map aa cs) 0) },
 { k := (dK (rdG (List.map aa cs) 1)), g := (dG (rdG (List.map aa cs) 1)), l := List.map aa (List.take (dN (rdG (List.map aa cs) 1) * 1) (strs (dL (rdG (List.map aa cs) 1)))), f := dF (rdG (List.map aa cs) 1), u := dU (rdG (List.map aa cs) 1), ca := dCa (rdG (List.map aa cs) 1) }]
 then R (V.int IntKind.u8 3) else R (V.int IntKind.u8 0) else False else False else False else bif okS n cs && (rdN (List.map aa cs)).beq 3 then bif (dN (rdG (List.map
 aa cs) 0) * 1).ble (strs (dL (rdG (List.map aa cs) 0))).length && ((List.take (dN (rdG (List.map aa cs) 0) * 1) (strs (dL (rdG (List.map aa cs) 0)))).all
 aw && (List.take (dN (rdG (List.map aa cs) 0) * 1) (strs (dL (rdG (List.map aa cs) 0)))).length.beq (dN (rdG (List.map aa cs) 0))) then bif !datesB (dF
 (rdG (List.map aa cs) 0)) (dU (rdG (List.map aa cs) 0)) now then R (V.int IntKind.u8 1) else bif (dN (rdG (List.map aa cs) 0) * 1).ble (strs (dL (rdG
 (List.map aa cs) 0))).length && ((List.take (dN (rdG (List.map aa cs) 0) * 1) (strs (dL (rdG (List.map aa cs) 0)))).all aw && (List.take (dN (rdG
 (List.map aa cs) 0) * 1) (strs (dL (rdG (List.map aa cs) 0)))).length.beq (dN (rdG (List.map aa cs) 0))) && (List.map aa (List.take (dN (rdG (List.map
 aa cs) 0) * 1) (strs (dL (rdG (List.map aa cs) 0))))).length.ble 9223372036854775807 then bif !hasH (List.map aa (List.take (dN (rdG (List.map aa cs) 0) *
 1) (strs (dL (rdG (List.map aa cs) 0))))) h then R (V.int IntKind.u8 2) else bif true && (isCr [Blk.row [V.str (dK (rdG (List.map aa cs) 0)), V.str (dG (rdG
 (List.map aa cs) 0)), V.nos 1 (dN (rdG (List.map aa cs) 0)), V.int IntKind.i64 (dF (rdG (List.map aa cs) 0)), V.int IntKind.i64 (dU (rdG (List.map aa cs)
 0)), V.bool (dCa (rdG (List.map aa cs) 0)), V.str (dK (rdG (List.map aa cs) 1)), V.str (dG (rdG (List.map aa cs) 1)), V.nos 2 (dN (rdG (List.map aa cs)
 1)), V.int IntKind.i64 (dF (rdG (List.map aa cs) 1)), V.int IntKind.i64 (dU (rdG (List.map aa cs) 1)), V.bool (dCa (rdG (List.map aa cs) 1)), V.str (dK (rdG
 (List.map aa cs) 2)), V.str (dG (rdG (List.map aa cs) 2)), V.nos 3 (dN (rdG (List.map aa cs) 2)), V.int IntKind.i64 (dF (rdG (List.map aa cs) 2)), V.int
 IntKind.i64 (dU (rdG (List.map aa cs) 2)), V.bool (dCa (rdG (List.map aa cs) 2))] 70 6, Blk.ro true (strs (dL (rdG (List.map aa cs) 0))), Blk.ro true (strs
 (dL (rdG (List.map aa cs) 1))), Blk.ro true (strs (dL (rdG (List.map aa cs) 2)))] [V.str (dK (rdG (List.map aa cs) 0)), V.str (dG (rdG (List.map aa cs)
 0)), V.nos 1 (dN (rdG (List.map aa cs) 0)), V.int IntKind.i64 (dF (rdG (List.map aa cs) 0)), V.int IntKind.i64 (dU (rdG (List.map aa cs) 0)), V.bool (dCa (rdG
 (List.map aa cs) 0)), V.str (dK (rdG (List.map aa cs) 1)), V.str (dG (rdG (List.map aa cs) 1)), V.nos 2 (dN (rdG (List.map aa cs) 1)), V.int IntKind.i64
 (dF (rdG (List.map aa cs) 1)), V.int IntKind.i64 (dU (rdG (List.map aa cs) 1)), V.bool (dCa (rdG (List.map aa cs) 1)), V.str (dK (rdG (List.map aa cs)
 2)), V.str (dG (rdG (List.map aa cs) 2)), V.nos 3 (dN (rdG (List.map aa cs) 2)), V.int IntKind.i64 (dF (rdG (List.map aa cs) 2)), V.int IntKind.i64 (dU (rdG
 (List.map aa cs) 2)), V.bool (dCa (rdG (List.map aa cs) 2))] && true) && (ds.length.beq (m * 1) && (ds.all aw && ds.length.beq m) && (true && (List.map aa
 ds).length.ble 9223372036854775807)) then bif !anchP now (List.map aa ds) none [{ k := (dK (rdG (List.map aa cs) 0)), g := (dG (rdG (List.map aa cs) 0)), l := List.map aa (List.take (dN (rdG (List.map aa cs) 0) * 1) (strs (dL (rdG (List.map aa cs) 0)))), f := dF (rdG (List.map aa cs) 0), u := dU (rdG (List.map aa cs) 0), ca := dCa (rdG (List.map aa cs) 0) },
 { k := (dK (rdG (List.map aa cs) 1)), g := (dG (rdG (List.map aa cs) 1)), l := List.map aa (List.take (dN (rdG (List.map aa cs) 1) * 1) (strs (dL (rdG (List.map aa cs) 1)))), f := dF (rdG (List.map aa cs) 1), u := dU (rdG (List.map aa cs) 1), ca := dCa (rdG (List.map aa cs) 1) },
 { k := (dK (rdG (List.map aa cs) 2)), g := (dG (rdG (List.map aa cs) 2)), l := List.map aa (List.take (dN (rdG (List.map aa cs) 2) * 1) (strs (dL (rdG (List.map aa cs) 2)))), f := dF (rdG (List.map aa cs) 2), u := dU (rdG (List.map aa cs) 2), ca := dCa (rdG (List.map aa cs) 2) }]
 then R (V.int IntKind.u8 3) else R (V.int IntKind.u8 0) else False else False else False else bif okS n cs then bif (dN (rdG (List.map aa cs) 0) * 1).ble (strs (dL
 (rdG (List.map aa cs) 0))).length && ((List.take (dN (rdG (List.map aa cs) 0) * 1) (strs (dL (rdG (List.map aa cs) 0)))).all aw && (List.take (dN (rdG
 (List.map aa cs) 0) * 1) (strs (dL (rdG (List.map aa cs) 0)))).length.beq (dN (rdG (List.map aa cs) 0))) then bif !datesB (dF (rdG (List.map aa cs) 0))
 (dU (rdG (List.map aa cs) 0)) now then R (V.int IntKind.u8 1) else bif (dN (rdG (List.map aa cs) 0) * 1).ble (strs (dL (rdG (List.map aa cs) 0))).length &&
 ((List.take (dN (rdG (List.map aa cs) 0) * 1) (strs (dL (rdG (List.map aa cs) 0)))).all aw && (List.take (dN (rdG (List.map aa cs) 0) * 1) (strs (dL (rdG
 (List.map aa cs) 0)))).length.beq (dN (rdG (List.map aa cs) 0))) && (List.map aa (List.take (dN (rdG (List.map aa cs) 0) * 1) (strs (dL (rdG (List.map
 aa cs) 0))))).length.ble 9223372036854775807 then bif !hasH (List.map aa (List.take (dN (rdG (List.map aa cs) 0) * 1) (strs (dL (rdG (List.map aa cs)
 0))))) h then R (V.int IntKind.u8 2) else bif true && (isCr [Blk.row [V.str (dK (rdG (List.map aa cs) 0)), V.str (dG (rdG (List.map aa cs) 0)), V.nos 1 (dN (rdG
 (List.map aa cs) 0)), V.int IntKind.i64 (dF (rdG (List.map aa cs) 0)), V.int IntKind.i64 (dU (rdG (List.map aa cs) 0)), V.bool (dCa (rdG (List.map aa cs)
 0)), V.str (dK (rdG (List.map aa cs) 1)), V.str (dG (rdG (List.map aa cs) 1)), V.nos 2 (dN (rdG (List.map aa cs) 1)), V.int IntKind.i64 (dF (rdG (List.map
 aa cs) 1)), V.int IntKind.i64 (dU (rdG (List.map aa cs) 1)), V.bool (dCa (rdG (List.map aa cs) 1)), V.str (dK (rdG (List.map aa cs) 2)), V.str (dG (rdG
 (List.map aa cs) 2)), V.nos 3 (dN (rdG (List.map aa cs) 2)), V.int IntKind.i64 (dF (rdG (List.map aa cs) 2)), V.int IntKind.i64 (dU (rdG (List.map aa cs)
 2)), V.bool (dCa (rdG (List.map aa cs) 2)), V.str (dK (rdG (List.map aa cs) 3)), V.str (dG (rdG (List.map aa cs) 3)), V.nos 4 (dN (rdG (List.map aa cs)
 3)), V.int IntKind.i64 (dF (rdG (List.map aa cs) 3)), V.int IntKind.i64 (dU (rdG (List.map aa cs) 3)), V.bool (dCa (rdG (List.map aa cs) 3))] 70 6, Blk.ro
 true (strs (dL (rdG (List.map aa cs) 0))), Blk.ro true (strs (dL (rdG (List.map aa cs) 1))), Blk.ro true (strs (dL (rdG (List.map aa cs) 2))), Blk.ro true
 (strs (dL (rdG (List.map aa cs) 3)))] [V.str (dK (rdG (List.map aa cs) 0)), V.str (dG (rdG (List.map aa cs) 0)), V.nos 1 (dN (rdG (List.map aa cs) 0)),
 V.int IntKind.i64 (dF (rdG (List.map aa cs) 0)), V.int IntKind.i64 (dU (rdG (List.map aa cs) 0)), V.bool (dCa (rdG (List.map aa cs) 0)), V.str (dK (rdG
 (List.map aa cs) 1)), V.str (dG (rdG (List.map aa cs) 1)), V.nos 2 (dN (rdG (List.map aa cs) 1)), V.int IntKind.i64 (dF (rdG (List.map aa cs) 1)), V.int
 IntKind.i64 (dU (rdG (List.map aa cs) 1)), V.bool (dCa (rdG (List.map aa cs) 1)), V.str (dK (rdG (List.map aa cs) 2)), V.str (dG (rdG (List.map aa cs)
 2)), V.nos 3 (dN (rdG (List.map aa cs) 2)), V.int IntKind.i64 (dF (rdG (List.map aa cs) 2)), V.int IntKind.i64 (dU (rdG (List.map aa cs) 2)), V.bool (dCa (rdG
 (List.map aa cs) 2)), V.str (dK (rdG (List.map aa cs) 3)), V.str (dG (rdG (List.map aa cs) 3)), V.nos 4 (dN (rdG (List.map aa cs) 3)), V.int IntKind.i64
 (dF (rdG (List.map aa cs) 3)), V.int IntKind.i64 (dU (rdG (List.map aa cs) 3)), V.bool (dCa (rdG (List.map aa cs) 3))] && true) && (ds.length.beq (m * 1) &&
 (ds.all aw && ds.length.beq m) && (true && (List.map aa ds).length.ble 9223372036854775807)) then bif !anchP now (List.map aa ds) none [{ k := (dK (rdG (List.map aa cs) 0)), g := (dG (rdG (List.map aa cs) 0)), l := List.map aa (List.take (dN (rdG (List.map aa cs) 0) * 1) (strs (dL (rdG (List.map aa cs) 0)))), f := dF (rdG (List.map aa cs) 0), u := dU (rdG (List.map aa cs) 0), ca := dCa (rdG (List.map aa cs) 0) },
 { k := (dK (rdG (List.map aa cs) 1)), g := (dG (rdG (List.map aa cs) 1)), l := List.map aa (List.take (dN (rdG (List.map aa cs) 1) * 1) (strs (dL (rdG (List.map aa cs) 1)))), f := dF (rdG (List.map aa cs) 1), u := dU (rdG (List.map aa cs) 1), ca := dCa (rdG (List.map aa cs) 1) },
 { k := (dK (rdG (List.map aa cs) 2)), g := (dG (rdG (List.map aa cs) 2)), l := List.map aa (List.take (dN (rdG (List.map aa cs) 2) * 1) (strs (dL (rdG (List.map aa cs) 2)))), f := dF (rdG (List.map aa cs) 2), u := dU (rdG (List.map aa cs) 2), ca := dCa (rdG (List.map aa cs) 2) },
 { k := (dK (rdG (List.map aa cs) 3)), g := (dG (rdG (List.map aa cs) 3)), l := List.map aa (List.take (dN (rdG (List.map aa cs) 3) * 1) (strs (dL (rdG (List.map aa cs) 3)))), f := dF (rdG (List.map aa cs) 3), u := dU (rdG (List.map aa cs) 3), ca := dCa (rdG (List.map aa cs) 3) }]
 then R (V.int IntKind.u8 3) else R (V.int IntKind.u8 0) else False else False else False else False) := by kernel_rfl
theorem dL_small (s : List UInt8) : (dL s).length ≤ 64 := by
 have key : ∀ c, decC s = some c → c.l.length ≤ 64 := by
  intro c hc
  unfold decC at hc
  cases h1 : onlyB s 48 with
  | false => rw [h1] at hc; cases hc
  | true =>
   cases h2 : (allE (ae s) != 0) with
   | true => rw [h1, h2] at hc; cases hc
   | false =>
    rw [h1, h2, cond_true, cond_false] at hc
    unfold decT at hc
    split at hc
    ·rename_i x0 x1 x2 x3 x4 x5 _
     have hb : ∀ {α : Type} {b : Bool} {x y : Option α} {z : α}, (bif b then x else y) = some z → (b = true ∧ x = some z) ∨ (b = false ∧ y = some z) := by
      intro α b x y z h
      cases b
      ·exact .inr ⟨rfl, h⟩
      ·exact .inl ⟨rfl, h⟩
     rcases hb hc with ⟨_, hc⟩ | ⟨_, hc⟩
     ·rcases hb hc with ⟨_, hc⟩ | ⟨_, hc⟩
      ·rcases hb hc with ⟨_, hc⟩ | ⟨_, hc⟩
       ·cases hc
       ·rcases hb hc with ⟨_, hc⟩ | ⟨_, hc⟩
        ·rcases hb hc with ⟨_, hc⟩ | ⟨_, hc⟩
         ·cases hc
          rw [List.length_map]
          exact all_small x2.2
         ·cases hc
        ·cases hc
      ·cases hc
     ·cases hc
    ·cases hc
 unfold dL dCd decR
 cases decide ((s.length : Int) > 512) with
 | true => simp
 | false =>
  rw [cond_false]
  cases hc : decC s with
  | none => simp
  | some c => exact key c hc
def crOf (s : List UInt8) : CR := ⟨dK s, dG s, dL s, dF s, dU s, dCa s⟩
def bV (l : List (List UInt8)) : List CR := (readS l).map crOf
theorem goodP_get : ∀ (l : List (List UInt8)) (i : Nat), i < (goodP l).length → (goodP l)[i]? = l[i]?
 | [], i, h => by simp [goodP] at h
 | s :: r, i, h => by
  rw [goodP] at h ⊢
  cases hs : (decE s == 0) with
  | false => rw [hs] at h; simp at h
  | true =>
   rw [hs, cond_true] at h
   rw [cond_true]
   cases i with
   | zero => rfl
   | succ i => simpa using goodP_get r i (by simpa using h)
theorem readS_get {l : List (List UInt8)} {i : Nat} (h : i < rdN l) : (readS l)[i]? = some (rdG l i) := by
 have h1 := rdN_le l
 unfold readS
 rw [goodP_get _ _ h]
 exact rd_at (by omega)
theorem dA {l : List (List UInt8)} {j : Nat} (h : rdN l = j) : bV l = (List.range j).map fun i => crOf (rdG l i) := by
 apply List.ext_getElem?
 intro i
 unfold bV
 rw [List.getElem?_map, List.getElem?_map]
 rcases Nat.lt_or_ge i j with hi | hi
 ·rw [readS_get (by omega), List.getElem?_range hi]; rfl
 ·rw [List.getElem?_eq_none (l := readS l) (by show rdN l ≤ i; omega), List.getElem?_eq_none (by simp; omega)]; rfl
def bY (h : List UInt8) (now : Int) (an : List (List UInt8)) : List CR → Int
 | [] => 3
 | c :: r => bif !datesB c.f c.u now then 1 else bif !hasH c.l h then 2 else bif !anchP now an none (c :: r) then 3 else 0
theorem nm_at {st : St} {k : Nat} {s : List UInt8} (h : st[k]? = some (.ro true (strs (dL s)))) : nmOk st (.nos k (dN s)) = true ∧ Vm.nmD st (.nos k (dN s)) = dL s := by
 have hv : bv st (.nos k (dN s)) = some (true, dL s) := by
  unfold bv cg dN
  simp only [h, Nat.mul_one, aG]
  rw [List.take_of_length_le (by rw [aG]; exact Nat.le_refl _), bA, ao, aG, Nat.beq_refl, Nat.ble_eq_true_of_le (Nat.le_refl _)]
  rfl
 unfold nmOk Vm.nmD
 rw [hv]
 exact ⟨by show (true && Nat.ble (dL s).length 9223372036854775807) = true; rw [Bool.true_and]; exact Nat.ble_eq_true_of_le (by have := dL_small s; omega), rfl⟩
theorem cr_rdA {st : St} {k : Nat} {s : List UInt8} {r : List V} (h : st[k]? = some (.ro true (strs (dL s)))) : isCr st (rdA s k r) = isCr st r ∧ crD st (rdA s k r) = crOf s :: crD st r := by
 obtain ⟨h1, h2⟩ := nm_at h
 refine ⟨?_, ?_⟩
 ·unfold isCr rdA
  simp only [isCg, h1, aw, aU, c8, decide_true, Bool.true_and]
 ·unfold rdA crOf
  simp only [crD, h2, aa, ak, cC]
section
variable {h : List UInt8} {now : Int} {an : List (List UInt8)} {c : CR} {r : List CR}
theorem judge_1 (h1 : (!datesB c.f c.u now) = true) : bY h now an (c :: r) = 1 := by rw [bY, h1]; rfl
theorem judge_2 (h1 : (!datesB c.f c.u now) = false) (h2 : (!hasH c.l h) = true) : bY h now an (c :: r) = 2 := by rw [bY, h1, h2]; rfl
theorem judge_3 (h1 : (!datesB c.f c.u now) = false) (h2 : (!hasH c.l h) = false) (h3 : (!anchP now an none (c :: r)) = true) : bY h now an (c :: r) = 3 := by rw [bY, h1, h2, h3]; rfl
theorem judge_0 (h1 : (!datesB c.f c.u now) = false) (h2 : (!hasH c.l h) = false) (h3 : (!anchP now an none (c :: r)) = false) : bY h now an (c :: r) = 0 := by rw [bY, h1, h2, h3]; rfl
end
theorem judge_sat (x : Value) (l : List (List UInt8)) (h : List UInt8) (now : Int) (y : Value) (an : List (List UInt8)) (h1 : l.length ≤ 9223372036854775807) (h2 : an.length ≤ 9223372036854775807) :
  FnSat Tryz.prog 17 [lstS x l, .str h, .int .i64 now, lstS y an] [] (Is (.int .u8 (bY h now an (bV l)), [])) := by
 refine az (lim := 9) (n := 10) ay JG0_ok rfl rfl ?_
 unfold lstS
 rw [jg_tree, ao, okS_mk h1]
 have q1 : ∀ s, (dN s * 1).ble (strs (dL s)).length = true := fun s => by rw [aG, Nat.mul_one]; exact Nat.ble_eq_true_of_le (Nat.le_refl _)
 have q2 : ∀ s, List.take (dN s * 1) (strs (dL s)) = strs (dL s) := fun s => List.take_of_length_le (by rw [aG, Nat.mul_one]; exact Nat.le_refl _)
 have q3 : ∀ s, (strs (dL s)).length.beq (dN s) = true := fun s => by rw [aG]; exact Nat.beq_refl _
 have q4 : ∀ s, (dL s).length.ble 9223372036854775807 = true := fun s => Nat.ble_eq_true_of_le (by have := dL_small s; omega)
 have q5 : (strs an).length.beq (an.length * 1) = true := by rw [aG, Nat.mul_one]; exact Nat.beq_refl _
 have q6 : (strs an).length.beq an.length = true := by rw [aG]; exact Nat.beq_refl _
 have q7 : an.length.ble 9223372036854775807 = true := Nat.ble_eq_true_of_le h2
 simp only [shiftS, q1, q2, q3, q4, q5, q6, q7, bA, ao, Bool.true_and, Bool.and_true, Bool.and_self, cond_true]
 have h4 := (rdN_le l).1
 rcases (by omega : rdN l = 0 ∨ rdN l = 1 ∨ rdN l = 2 ∨ rdN l = 3 ∨ rdN l = 4) with hj | hj | hj | hj | hj
 ·have hR : bV l = [] := dA hj
  rw [hR, hj]; rfl
 ·have hR : bV l = [crOf (rdG l 0)] := dA hj
  rw [hR, hj, show Nat.beq 1 0 = false from rfl, cond_false, show Nat.beq 1 1 = true from rfl, cond_true]
  refine ac (fun a => congrArg (V.int .u8) (judge_1 (c := crOf (rdG l 0)) a).symm) (fun a => ?_)
  refine ac (fun b => congrArg (V.int .u8) (judge_2 (c := crOf (rdG l 0)) a b).symm) (fun b => ?_)
  refine ad (by show isCr _ (rdA (rdG l 0) 1 []) = true; exact ((cr_rdA (k := 1) (s := rdG l 0) rfl).1.trans rfl)) ?_
  exact ac (fun d => congrArg (V.int .u8) (judge_3 (c := crOf (rdG l 0)) a b d).symm) (fun d => congrArg (V.int .u8) (judge_0 (c := crOf (rdG l 0)) a b d).symm)
 ·have hR : bV l = [crOf (rdG l 0), crOf (rdG l 1)] := dA hj
  rw [hR, hj, show Nat.beq 2 0 = false from rfl, cond_false, show Nat.beq 2 1 = false from rfl, cond_false, show Nat.beq 2 2 = true from rfl, cond_true]
  refine ac (fun a => congrArg (V.int .u8) (judge_1 (c := crOf (rdG l 0)) a).symm) (fun a => ?_)
  refine ac (fun b => congrArg (V.int .u8) (judge_2 (c := crOf (rdG l 0)) a b).symm) (fun b => ?_)
  refine ad (by show isCr _ (rdA (rdG l 0) 1 (rdA (rdG l 1) 2 [])) = true; exact ((cr_rdA (k := 1) (s := rdG l 0) rfl).1.trans ((cr_rdA (k := 2) (s := rdG l 1) rfl).1.trans rfl))) ?_
  exact ac (fun d => congrArg (V.int .u8) (judge_3 (c := crOf (rdG l 0)) a b d).symm) (fun d => congrArg (V.int .u8) (judge_0 (c := crOf (rdG l 0)) a b d).symm)
 ·have hR : bV l = [crOf (rdG l 0), crOf (rdG l 1), crOf (rdG l 2)] := dA hj
  rw [hR, hj, show Nat.beq 3 0 = false from rfl, cond_false, show Nat.beq 3 1 = false from rfl, cond_false, show Nat.beq 3 2 = false from rfl, cond_false, show Nat.beq 3 3 = true from rfl, cond_true]
  refine ac (fun a => congrArg (V.int .u8) (judge_1 (c := crOf (rdG l 0)) a).symm) (fun a => ?_)
  refine ac (fun b => congrArg (V.int .u8) (judge_2 (c := crOf (rdG l 0)) a b).symm) (fun b => ?_)
  refine ad (by show isCr _ (rdA (rdG l 0) 1 (rdA (rdG l 1) 2 (rdA (rdG l 2) 3 []))) = true; exact ((cr_rdA (k := 1) (s := rdG l 0) rfl).1.trans ((cr_rdA (k := 2) (s := rdG l 1) rfl).1.trans ((cr_rdA (k := 3) (s := rdG l 2) rfl).1.trans rfl)))) ?_
  exact ac (fun d => congrArg (V.int .u8) (judge_3 (c := crOf (rdG l 0)) a b d).symm) (fun d => congrArg (V.int .u8) (judge_0 (c := crOf (rdG l 0)) a b d).symm)
 ·have hR : bV l = [crOf (rdG l 0), crOf (rdG l 1), crOf (rdG l 2), crOf (rdG l 3)] := dA hj
  rw [hR, hj, show Nat.beq 4 0 = false from rfl, cond_false, show Nat.beq 4 1 = false from rfl, cond_false, show Nat.beq 4 2 = false from rfl, cond_false, show Nat.beq 4 3 = false from rfl, cond_false]
  refine ac (fun a => congrArg (V.int .u8) (judge_1 (c := crOf (rdG l 0)) a).symm) (fun a => ?_)
  refine ac (fun b => congrArg (V.int .u8) (judge_2 (c := crOf (rdG l 0)) a b).symm) (fun b => ?_)
  refine ad (by show isCr _ (rdA (rdG l 0) 1 (rdA (rdG l 1) 2 (rdA (rdG l 2) 3 (rdA (rdG l 3) 4 [])))) = true; exact ((cr_rdA (k := 1) (s := rdG l 0) rfl).1.trans ((cr_rdA (k := 2) (s := rdG l 1) rfl).1.trans ((cr_rdA (k := 3) (s := rdG l 2) rfl).1.trans ((cr_rdA (k := 4) (s := rdG l 3) rfl).1.trans rfl))))) ?_
  exact ac (fun d => congrArg (V.int .u8) (judge_3 (c := crOf (rdG l 0)) a b d).symm) (fun d => congrArg (V.int .u8) (judge_0 (c := crOf (rdG l 0)) a b d).symm)
end Go.Proofs.YtakfcajmfgnchaaGreatDoor
