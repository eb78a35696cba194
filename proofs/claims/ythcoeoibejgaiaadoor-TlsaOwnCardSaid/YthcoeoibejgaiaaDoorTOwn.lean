/- TlsaOwn: what it comes to. -/
import Derived.Test.YthcoeoibejgaiaaDoorMatV
import Derived.Test.YthcoeoibejgaiaaDoorLong16
import Derived.Test.YthcoeoibejgaiaaDoorAwake
namespace Go.Proofs.YthcoeoibejgaiaaDoor
open Go Go.Vm Go.RowKit
set_option linter.unusedVariables false
set_option maxRecDepth 100000
set_option linter.unusedSectionVars false
variable [Φ : Frz]
def rdNil : List V → Option (List (Bool × (V × St)))
 | [.lst _ n cs] => some []
 | _ => none
theorem rdNil_ok (args : List V) (L : List (Bool × (V × St))) (o : V × St) (h : rdNil args = some L) (ho : pickO L = some o) : FnSat Tryd.prog 8 args [] (Is o) := by
 unfold rdNil at h
 split at h
 ·cases h; cases ho
 ·cases h
def readQ : List V → Option (List (Bool × (V × St)))
 | [.lst _ n cs] => some [(okS n cs && Nat.beq (rdN (cs.map strOfV)) 2, readPL (cs.map strOfV) 2), (okS n cs && Nat.beq (rdN (cs.map strOfV)) 3, readPL (cs.map strOfV) 3), (okS n cs && Nat.beq (rdN (cs.map strOfV)) 4, readPL (cs.map strOfV) 4)]
 | _ => none
theorem readQ_ok (args : List V) (L : List (Bool × (V × St))) (o : V × St) (h : readQ args = some L) (ho : pickO L = some o) : FnSat Tryd.prog 8 args [] (Is o) := by
 unfold readQ at h
 split at h
 ·rename_i x n cs
  cases h
  refine readP_ok [.lst x n cs] _ o rfl ?_
  cases hk : okS n cs with
  | false => rw [hk] at ho; simp [pickO] at ho
  | true =>
  rw [hk] at ho
  rw [← ho]
  simp only [Bool.true_and] at ho ⊢
  have h4 := (rdN_le (cs.map strOfV)).1
  rcases (by omega : rdN (cs.map strOfV) = 0 ∨ rdN (cs.map strOfV) = 1 ∨ rdN (cs.map strOfV) = 2 ∨ rdN (cs.map strOfV) = 3 ∨ rdN (cs.map strOfV) = 4) with hj | hj | hj | hj | hj <;> rw [hj] at ho ⊢ <;> first | (cases ho; done) | rfl
 ·cases h
noncomputable def TOX (RD : List V → Option (List (Bool × (V × St)))) (LOK LB : V → V → St → Bool) (OK : V → St → Bool) (MV : Int → Int → Int → List UInt8 → V → List UInt8 → Int → St → Bool) (ROK : V → St → Bool) (KV : V → St → Bool) : Tab := ⟨addT (addT (addP noT 4 awakeF) 8 RD) 7 ofT, addS (addS (addS (addS (addS noL 5 (longGV LOK LB)) 6 (matGV OK MV)) 9 hostG) 10 datesG) 11 (linkGV ROK KV), noLks 9⟩
theorem TOE_ok : TabOk3 Tryd.prog (TOX rdNil longOK longV mvOK mvV rOK linkW) := ⟨addT_ok (addT_ok (addP_ok noT_ok awakeF_ok) rdNil_ok) of_ok, addS_ok (addS_ok (addS_ok (addS_ok (addS_ok noL_ok longG_ok) matGV_ok) hostG_ok) datesG_ok) linkGV_ok, noLks_ok 9⟩
theorem TOQ_ok : TabOk3 Tryd.prog (TOX readQ longOK longV mvOK mvV rOK linkW) := ⟨addT_ok (addT_ok (addP_ok noT_ok awakeF_ok) readQ_ok) of_ok, addS_ok (addS_ok (addS_ok (addS_ok (addS_ok noL_ok longG_ok) matGV_ok) hostG_ok) datesG_ok) linkGV_ok, noLks_ok 9⟩
noncomputable def tM0 (u : Int) (s : Int) (m : Int) (d : List UInt8) (cs : List V) (ds : List V) (h : List UInt8) (g : List UInt8) : St := [Blk.row [V.int IntKind.u8 u, V.int IntKind.u8 s, V.int IntKind.u8 m, V.str d] 23 4, Blk.row [V.int IntKind.u8 u, V.int IntKind.u8 s, V.int IntKind.u8 m, V.str (d)] 23 4, Blk.dead, Blk.row (V.str h :: V.str g :: ds) 9 1, Blk.row [V.str (dK (rdG (List.map strOfV cs) 0)), V.str (dG (rdG (List.map strOfV cs) 0)), V.nos 5 (dN (rdG (List.map strOfV cs) 0)), V.int IntKind.i64 (dF (rdG (List.map strOfV cs) 0)), V.int IntKind.i64 (dU (rdG (List.map strOfV cs) 0)), V.bool (dCa (rdG (List.map strOfV cs) 0)), V.str (dK (rdG (List.map strOfV cs) 1)), V.str (dG (rdG (List.map strOfV cs) 1)), V.nos 6 (dN (rdG (List.map strOfV cs) 1)), V.int IntKind.i64 (dF (rdG (List.map strOfV cs) 1)), V.int IntKind.i64 (dU (rdG (List.map strOfV cs) 1)), V.bool (dCa (rdG (List.map strOfV cs) 1)), V.str (dK (rdG (List.map strOfV cs) 2)), V.str (dG (rdG (List.map strOfV cs) 2)), V.nos 7 (dN (rdG (List.map strOfV cs) 2)), V.int IntKind.i64 (dF (rdG (List.map strOfV cs) 2)), V.int IntKind.i64 (dU (rdG (List.map strOfV cs) 2)), V.bool (dCa (rdG (List.map strOfV cs) 2)), V.str (dK (rdG (List.map strOfV cs) 3)), V.str (dG (rdG (List.map strOfV cs) 3)), V.nos 8 (dN (rdG (List.map strOfV cs) 3)), V.int IntKind.i64 (dF (rdG (List.map strOfV cs) 3)), V.int IntKind.i64 (dU (rdG (List.map strOfV cs) 3)), V.bool (dCa (rdG (List.map strOfV cs) 3))] 34 6, Blk.ro true (shiftL 4 (strs (dL (rdG (List.map strOfV cs) 0)))), Blk.ro true (shiftL 4 (strs (dL (rdG (List.map strOfV cs) 1)))), Blk.ro true (shiftL 4 (strs (dL (rdG (List.map strOfV cs) 2)))), Blk.ro true (shiftL 4 (strs (dL (rdG (List.map strOfV cs) 3)))), Blk.dead, Blk.dead, Blk.row (cs ++ ds) 9 1]
noncomputable def tM1 (u : Int) (s : Int) (m : Int) (d : List UInt8) (cs : List V) (h : List UInt8) (g : List UInt8) : St := [Blk.row [V.int IntKind.u8 u, V.int IntKind.u8 s, V.int IntKind.u8 m, V.str d] 23 4, Blk.row [V.int IntKind.u8 u, V.int IntKind.u8 s, V.int IntKind.u8 m, V.str (d)] 23 4, Blk.row [V.str h, V.str g] 9 1, Blk.row [V.str (dK (rdG (List.map strOfV cs) 0)), V.str (dG (rdG (List.map strOfV cs) 0)), V.nos 4 (dN (rdG (List.map strOfV cs) 0)), V.int IntKind.i64 (dF (rdG (List.map strOfV cs) 0)), V.int IntKind.i64 (dU (rdG (List.map strOfV cs) 0)), V.bool (dCa (rdG (List.map strOfV cs) 0)), V.str (dK (rdG (List.map strOfV cs) 1)), V.str (dG (rdG (List.map strOfV cs) 1)), V.nos 5 (dN (rdG (List.map strOfV cs) 1)), V.int IntKind.i64 (dF (rdG (List.map strOfV cs) 1)), V.int IntKind.i64 (dU (rdG (List.map strOfV cs) 1)), V.bool (dCa (rdG (List.map strOfV cs) 1)), V.str (dK (rdG (List.map strOfV cs) 2)), V.str (dG (rdG (List.map strOfV cs) 2)), V.nos 6 (dN (rdG (List.map strOfV cs) 2)), V.int IntKind.i64 (dF (rdG (List.map strOfV cs) 2)), V.int IntKind.i64 (dU (rdG (List.map strOfV cs) 2)), V.bool (dCa (rdG (List.map strOfV cs) 2)), V.str (dK (rdG (List.map strOfV cs) 3)), V.str (dG (rdG (List.map strOfV cs) 3)), V.nos 7 (dN (rdG (List.map strOfV cs) 3)), V.int IntKind.i64 (dF (rdG (List.map strOfV cs) 3)), V.int IntKind.i64 (dU (rdG (List.map strOfV cs) 3)), V.bool (dCa (rdG (List.map strOfV cs) 3))] 34 6, Blk.ro true (shiftL 3 (strs (dL (rdG (List.map strOfV cs) 0)))), Blk.ro true (shiftL 3 (strs (dL (rdG (List.map strOfV cs) 1)))), Blk.ro true (shiftL 3 (strs (dL (rdG (List.map strOfV cs) 2)))), Blk.ro true (shiftL 3 (strs (dL (rdG (List.map strOfV cs) 3)))), Blk.dead, Blk.row cs 9 1]
noncomputable def tM2 (u : Int) (s : Int) (m : Int) (d : List UInt8) (cs : List V) (ds : List V) (h : List UInt8) (g : List UInt8) : St := [Blk.row [V.int IntKind.u8 u, V.int IntKind.u8 s, V.int IntKind.u8 m, V.str d] 23 4, Blk.row [V.int IntKind.u8 u, V.int IntKind.u8 s, V.int IntKind.u8 m, V.str (d)] 23 4, Blk.dead, Blk.row (V.str h :: V.str g :: ds) 9 1, Blk.row [V.str (dK (rdG (List.map strOfV cs) 0)), V.str (dG (rdG (List.map strOfV cs) 0)), V.nos 5 (dN (rdG (List.map strOfV cs) 0)), V.int IntKind.i64 (dF (rdG (List.map strOfV cs) 0)), V.int IntKind.i64 (dU (rdG (List.map strOfV cs) 0)), V.bool (dCa (rdG (List.map strOfV cs) 0)), V.str (dK (rdG (List.map strOfV cs) 1)), V.str (dG (rdG (List.map strOfV cs) 1)), V.nos 6 (dN (rdG (List.map strOfV cs) 1)), V.int IntKind.i64 (dF (rdG (List.map strOfV cs) 1)), V.int IntKind.i64 (dU (rdG (List.map strOfV cs) 1)), V.bool (dCa (rdG (List.map strOfV cs) 1)), V.str (dK (rdG (List.map strOfV cs) 2)), V.str (dG (rdG (List.map strOfV cs) 2)), V.nos 7 (dN (rdG (List.map strOfV cs) 2)), V.int IntKind.i64 (dF (rdG (List.map strOfV cs) 2)), V.int IntKind.i64 (dU (rdG (List.map strOfV cs) 2)), V.bool (dCa (rdG (List.map strOfV cs) 2))] 34 6, Blk.ro true (shiftL 4 (strs (dL (rdG (List.map strOfV cs) 0)))), Blk.ro true (shiftL 4 (strs (dL (rdG (List.map strOfV cs) 1)))), Blk.ro true (shiftL 4 (strs (dL (rdG (List.map strOfV cs) 2)))), Blk.ro true [], Blk.dead, Blk.dead, Blk.row (cs ++ ds) 9 1]
noncomputable def tM3 (u : Int) (s : Int) (m : Int) (d : List UInt8) (cs : List V) (h : List UInt8) (g : List UInt8) : St := [Blk.row [V.int IntKind.u8 u, V.int IntKind.u8 s, V.int IntKind.u8 m, V.str d] 23 4, Blk.row [V.int IntKind.u8 u, V.int IntKind.u8 s, V.int IntKind.u8 m, V.str (d)] 23 4, Blk.row [V.str h, V.str g] 9 1, Blk.row [V.str (dK (rdG (List.map strOfV cs) 0)), V.str (dG (rdG (List.map strOfV cs) 0)), V.nos 4 (dN (rdG (List.map strOfV cs) 0)), V.int IntKind.i64 (dF (rdG (List.map strOfV cs) 0)), V.int IntKind.i64 (dU (rdG (List.map strOfV cs) 0)), V.bool (dCa (rdG (List.map strOfV cs) 0)), V.str (dK (rdG (List.map strOfV cs) 1)), V.str (dG (rdG (List.map strOfV cs) 1)), V.nos 5 (dN (rdG (List.map strOfV cs) 1)), V.int IntKind.i64 (dF (rdG (List.map strOfV cs) 1)), V.int IntKind.i64 (dU (rdG (List.map strOfV cs) 1)), V.bool (dCa (rdG (List.map strOfV cs) 1)), V.str (dK (rdG (List.map strOfV cs) 2)), V.str (dG (rdG (List.map strOfV cs) 2)), V.nos 6 (dN (rdG (List.map strOfV cs) 2)), V.int IntKind.i64 (dF (rdG (List.map strOfV cs) 2)), V.int IntKind.i64 (dU (rdG (List.map strOfV cs) 2)), V.bool (dCa (rdG (List.map strOfV cs) 2))] 34 6, Blk.ro true (shiftL 3 (strs (dL (rdG (List.map strOfV cs) 0)))), Blk.ro true (shiftL 3 (strs (dL (rdG (List.map strOfV cs) 1)))), Blk.ro true (shiftL 3 (strs (dL (rdG (List.map strOfV cs) 2)))), Blk.ro true [], Blk.dead, Blk.row cs 9 1]
noncomputable def tM4 (u : Int) (s : Int) (m : Int) (d : List UInt8) (cs : List V) (ds : List V) (h : List UInt8) (g : List UInt8) : St := [Blk.row [V.int IntKind.u8 u, V.int IntKind.u8 s, V.int IntKind.u8 m, V.str d] 23 4, Blk.row [V.int IntKind.u8 u, V.int IntKind.u8 s, V.int IntKind.u8 m, V.str (d)] 23 4, Blk.dead, Blk.row (V.str h :: V.str g :: ds) 9 1, Blk.row [V.str (dK (rdG (List.map strOfV cs) 0)), V.str (dG (rdG (List.map strOfV cs) 0)), V.nos 5 (dN (rdG (List.map strOfV cs) 0)), V.int IntKind.i64 (dF (rdG (List.map strOfV cs) 0)), V.int IntKind.i64 (dU (rdG (List.map strOfV cs) 0)), V.bool (dCa (rdG (List.map strOfV cs) 0)), V.str (dK (rdG (List.map strOfV cs) 1)), V.str (dG (rdG (List.map strOfV cs) 1)), V.nos 6 (dN (rdG (List.map strOfV cs) 1)), V.int IntKind.i64 (dF (rdG (List.map strOfV cs) 1)), V.int IntKind.i64 (dU (rdG (List.map strOfV cs) 1)), V.bool (dCa (rdG (List.map strOfV cs) 1))] 34 6, Blk.ro true (shiftL 4 (strs (dL (rdG (List.map strOfV cs) 0)))), Blk.ro true (shiftL 4 (strs (dL (rdG (List.map strOfV cs) 1)))), Blk.ro true [], Blk.ro true [], Blk.dead, Blk.dead, Blk.row (cs ++ ds) 9 1]
noncomputable def tM5 (u : Int) (s : Int) (m : Int) (d : List UInt8) (cs : List V) (h : List UInt8) (g : List UInt8) : St := [Blk.row [V.int IntKind.u8 u, V.int IntKind.u8 s, V.int IntKind.u8 m, V.str d] 23 4, Blk.row [V.int IntKind.u8 u, V.int IntKind.u8 s, V.int IntKind.u8 m, V.str (d)] 23 4, Blk.row [V.str h, V.str g] 9 1, Blk.row [V.str (dK (rdG (List.map strOfV cs) 0)), V.str (dG (rdG (List.map strOfV cs) 0)), V.nos 4 (dN (rdG (List.map strOfV cs) 0)), V.int IntKind.i64 (dF (rdG (List.map strOfV cs) 0)), V.int IntKind.i64 (dU (rdG (List.map strOfV cs) 0)), V.bool (dCa (rdG (List.map strOfV cs) 0)), V.str (dK (rdG (List.map strOfV cs) 1)), V.str (dG (rdG (List.map strOfV cs) 1)), V.nos 5 (dN (rdG (List.map strOfV cs) 1)), V.int IntKind.i64 (dF (rdG (List.map strOfV cs) 1)), V.int IntKind.i64 (dU (rdG (List.map strOfV cs) 1)), V.bool (dCa (rdG (List.map strOfV cs) 1))] 34 6, Blk.ro true (shiftL 3 (strs (dL (rdG (List.map strOfV cs) 0)))), Blk.ro true (shiftL 3 (strs (dL (rdG (List.map strOfV cs) 1)))), Blk.ro true [], Blk.ro true [], Blk.dead, Blk.row cs 9 1]
noncomputable def tM6 (u : Int) (s : Int) (m : Int) (d : List UInt8) (ds : List V) (h : List UInt8) (g : List UInt8) : St := [Blk.row [V.int IntKind.u8 u, V.int IntKind.u8 s, V.int IntKind.u8 m, V.str d] 23 4, Blk.row [V.int IntKind.u8 u, V.int IntKind.u8 s, V.int IntKind.u8 m, V.str (d)] 23 4, Blk.dead, Blk.row (V.str h :: V.str g :: ds) 9 1]
noncomputable def tM7 (u : Int) (s : Int) (m : Int) (d : List UInt8) (h : List UInt8) (g : List UInt8) : St := [Blk.row [V.int IntKind.u8 u, V.int IntKind.u8 s, V.int IntKind.u8 m, V.str d] 23 4, Blk.row [V.int IntKind.u8 u, V.int IntKind.u8 s, V.int IntKind.u8 m, V.str (d)] 23 4, Blk.row [V.str h, V.str g] 9 1]
noncomputable def tM8 (u : Int) (s : Int) (m : Int) (d : List UInt8) : St := [Blk.row [V.int IntKind.u8 u, V.int IntKind.u8 s, V.int IntKind.u8 m, V.str d] 23 4, Blk.row [V.int IntKind.u8 u, V.int IntKind.u8 s, V.int IntKind.u8 m, V.str (d)] 23 4]
theorem to_a (LOK LB : V → V → St → Bool) (OK : V → St → Bool) (MV : Int → Int → Int → List UInt8 → V → List UInt8 → Int → St → Bool) (ROK : V → St → Bool) (KV : V → St → Bool) (u s m : Int) (d : List UInt8) (x : Value) (p : Value) (k : Nat) (ds : List V) (h g : List UInt8) (now thn : Int) (R : V → Prop) : runW Tryd.prog (TOX rdNil LOK LB OK MV ROK KV) 9 10 3 [.agg [.int .u8 u, .int .u8 s, .int .u8 m, .str d], .lst x 0 [], .lst p k ds, .str h, .str g, .int .i64 now, .int .i64 thn] R =
  (
 bif LOK (V.lst x 0 []) (V.slice 1 0 1 false 0 0) (tM8 u s m d) then bif LB (V.lst x 0 []) (V.slice 1 0 1 false 0 0) (tM8 u s m d) then R (V.bool true) else bif k.beq 0
 then bif LOK (V.slice 2 0 2 false 0 0) V.nilSlice (tM7 u s m d h g) then bif LB (V.slice 2 0 2 false 0 0) V.nilSlice (tM7 u s m d h g) then R (V.bool true) else bif OK
 (V.lst x 0 []) [] && (u8B s && u8B m) then bif u == 3 then bif OK (V.lst (sliceX x 0 0 1) 0 []) [] && (u8B s && u8B m) then bif MV u s m (d) (V.lst x 0 []) h now [] == MV
 u s m (d) (V.lst (sliceX x 0 0 1) 0 []) g thn [] then R (V.bool (MV u s m (d) (V.lst x 0 []) h now [] == false)) else R (V.bool false) else False else bif u != 2 then bif
 u != 2 then R (V.bool !MV u s m (d) (V.lst x 0 []) h now []) else R (V.bool false) else bif OK (V.lst (sliceX x 0 0 1) 0 []) [] && (u8B s && u8B m) then bif MV u s m (d)
 (V.lst (sliceX x 0 0 1) 0 []) h now [] then bif u != 2 then R (V.bool !MV u s m (d) (V.lst x 0 []) h now []) else R (V.bool false) else bif !MV u s m (d) (V.lst x 0 []) h
 now [] then R (V.bool true) else False else False else False else False else bif ds.length.beq (k * 1) && ds.all V.one then bif (2 + k).ble 9223372036854775807 && ((2 +
 k) * 16).ble 140737488355328 then bif LOK (V.slice 3 0 (2 + k) false 0 0) V.nilSlice (tM6 u s m d ds h g) then bif LB (V.slice 3 0 (2 + k) false 0 0) V.nilSlice (tM6 u s
 m d ds h g) then R (V.bool true) else bif OK (V.lst x 0 []) [] && (u8B s && u8B m) then bif u == 3 then bif OK (V.lst (sliceX x 0 0 1) 0 []) [] && (u8B s && u8B m) then
 bif MV u s m (d) (V.lst x 0 []) h now [] == MV u s m (d) (V.lst (sliceX x 0 0 1) 0 []) g thn [] then R (V.bool (MV u s m (d) (V.lst x 0 []) h now [] == false)) else R
 (V.bool false) else False else bif u != 2 then bif u != 2 then R (V.bool !MV u s m (d) (V.lst x 0 []) h now []) else R (V.bool false) else bif OK (V.lst (sliceX x 0 0 1)
 0 []) [] && (u8B s && u8B m) then bif MV u s m (d) (V.lst (sliceX x 0 0 1) 0 []) h now [] then bif u != 2 then R (V.bool !MV u s m (d) (V.lst x 0 []) h now []) else R
 (V.bool false) else bif !MV u s m (d) (V.lst x 0 []) h now [] then R (V.bool true) else False else False else False else False else False else False else False) := by kernel_rfl
theorem to_b (LOK LB : V → V → St → Bool) (OK : V → St → Bool) (MV : Int → Int → Int → List UInt8 → V → List UInt8 → Int → St → Bool) (ROK : V → St → Bool) (KV : V → St → Bool) (u s m : Int) (d : List UInt8) (x : Value) (n : Nat) (cs : List V) (p : Value) (h g : List UInt8) (now thn : Int) (R : V → Prop) : runW Tryd.prog (TOX readQ LOK LB OK MV ROK KV) 9 10 3 [.agg [.int .u8 u, .int .u8 s, .int .u8 m, .str d], .lst x (n + 1) cs, .lst p 0 [], .str h, .str g, .int .i64 now, .int .i64 thn] R =
  (
 bif LOK (V.lst x (n + 1) cs) (V.slice 1 0 1 false 0 0) (tM8 u s m d) then bif LB (V.lst x (n + 1) cs) (V.slice 1 0 1 false 0 0) (tM8 u s m d) then R (V.bool true) else
 bif LOK (V.slice 2 0 2 false 0 0) V.nilSlice (tM7 u s m d h g) then bif LB (V.slice 2 0 2 false 0 0) V.nilSlice (tM7 u s m d h g) then R (V.bool true) else bif OK (V.lst
 x (n + 1) cs) [] && (u8B s && u8B m) then bif u == 3 then bif OK (V.lst (sliceX x 0 1 1) 1 (List.take 1 cs)) [] && (u8B s && u8B m) then bif MV u s m (d) (V.lst x (n + 1)
 cs) h now [] == MV u s m (d) (V.lst (sliceX x 0 1 1) 1 (List.take 1 cs)) g thn [] then bif decide ((↑(n + 1) : Int) > 0) then bif true && decide (0 < (↑(n + 1) : Int))
 then bif Nat.blt 0 cs.length then bif isStrV (cs.getD 0 (V.bool false)) then bif u8B s && u8B m then R (V.bool (MV u s m (d) (V.lst x (n + 1) cs) h now [] == ofB u s m
 (d) (strOfV (cs.getD 0 (V.bool false))))) else False else False else False else False else R (V.bool (MV u s m (d) (V.lst x (n + 1) cs) h now [] == false)) else R (V.bool
 false) else False else bif u != 2 then bif u != 2 then R (V.bool !MV u s m (d) (V.lst x (n + 1) cs) h now []) else R (V.bool false) else bif OK (V.lst (sliceX x 0 1 1) 1
 (List.take 1 cs)) [] && (u8B s && u8B m) then bif MV u s m (d) (V.lst (sliceX x 0 1 1) 1 (List.take 1 cs)) h now [] then bif u != 2 then R (V.bool !MV u s m (d) (V.lst x
 (n + 1) cs) h now []) else R (V.bool false) else bif !MV u s m (d) (V.lst x (n + 1) cs) h now [] then R (V.bool true) else bif okS (n + 1) cs && (rdN (List.map strOfV
 cs)).beq 2 then bif cs.length.beq ((n + 1) * 1) && cs.all V.one then bif (0 + (n + 1)).ble 9223372036854775807 && ((0 + (n + 1)) * 16).ble 140737488355328 then bif decide
 (0 ≤ if (if 4 > (↑(n + 1) : Int) then 4 else (↑(n + 1) : Int)) < (↑(0 + (n + 1)) : Int) then if 4 > (↑(n + 1) : Int) then 4 else (↑(n + 1) : Int) else (↑(0 + (n + 1)) :
 Int)) then bif true && (if (if 4 > (↑(n + 1) : Int) then 4 else (↑(n + 1) : Int)) < (↑(0 + (n + 1)) : Int) then if 4 > (↑(n + 1) : Int) then 4 else (↑(n + 1) : Int) else
 (↑(0 + (n + 1)) : Int)).toNat.ble (0 + (n + 1)) then bif decide ((↑(rdN (List.map strOfV cs)) : Int) > 1) then bif true && decide (0 < (↑(rdN (List.map strOfV cs)) :
 Int)) then bif (dN (rdG (List.map strOfV cs) 0) * 1).ble (shiftL 3 (strs (dL (rdG (List.map strOfV cs) 0)))).length && ((List.take (dN (rdG (List.map strOfV cs) 0) * 1)
 (shiftL 3 (strs (dL (rdG (List.map strOfV cs) 0))))).all isStrV && (List.take (dN (rdG (List.map strOfV cs) 0) * 1) (shiftL 3 (strs (dL (rdG (List.map strOfV cs)
 0))))).length.beq (dN (rdG (List.map strOfV cs) 0))) && (List.map strOfV (List.take (dN (rdG (List.map strOfV cs) 0) * 1) (shiftL 3 (strs (dL (rdG (List.map strOfV cs)
 0)))))).length.ble 9223372036854775807 then bif hasH (List.map strOfV (List.take (dN (rdG (List.map strOfV cs) 0) * 1) (shiftL 3 (strs (dL (rdG (List.map strOfV cs)
 0)))))) h then bif true && decide (0 < (↑(rdN (List.map strOfV cs)) : Int)) then bif (dN (rdG (List.map strOfV cs) 0) * 1).ble (shiftL 3 (strs (dL (rdG (List.map strOfV
 cs) 0)))).length && ((List.take (dN (rdG (List.map strOfV cs) 0) * 1) (shiftL 3 (strs (dL (rdG (List.map strOfV cs) 0))))).all isStrV && (List.take (dN (rdG (List.map
 strOfV cs) 0) * 1) (shiftL 3 (strs (dL (rdG (List.map strOfV cs) 0))))).length.beq (dN (rdG (List.map strOfV cs) 0))) then bif datesB (dF (rdG (List.map strOfV cs) 0))
 (dU (rdG (List.map strOfV cs) 0)) now then bif true && Nat.ble 2 (rdN (List.map strOfV cs)) then bif ROK (V.slice 3 0 2 false 0 0) (tM5 u s m d cs h g) then bif KV
 (V.slice 3 0 2 false 0 0) (tM5 u s m d cs h g) then bif OK (V.slice 9 0 ((if (if 4 > (↑(n + 1) : Int) then 4 else (↑(n + 1) : Int)) < (↑(0 + (n + 1)) : Int) then if 4 >
 (↑(n + 1) : Int) then 4 else (↑(n + 1) : Int) else (↑(0 + (n + 1)) : Int)).toNat - 0) false 0 0) (tM5 u s m d cs h g) && (u8B s && u8B m) then R (V.bool (MV u s m (d)
 (V.slice 9 0 ((if (if 4 > (↑(n + 1) : Int) then 4 else (↑(n + 1) : Int)) < (↑(0 + (n + 1)) : Int) then if 4 > (↑(n + 1) : Int) then 4 else (↑(n + 1) : Int) else (↑(0 + (n
 + 1)) : Int)).toNat - 0) false 0 0) h now (tM5 u s m d cs h g))) else False else R (V.bool false) else False else False else R (V.bool false) else False else False else R
 (V.bool false) else False else False else R (V.bool false) else False else False else False else False else bif okS (n + 1) cs && (rdN (List.map strOfV cs)).beq 3 then
 bif cs.length.beq ((n + 1) * 1) && cs.all V.one then bif (0 + (n + 1)).ble 9223372036854775807 && ((0 + (n + 1)) * 16).ble 140737488355328 then bif decide (0 ≤ if (if 4 >
 (↑(n + 1) : Int) then 4 else (↑(n + 1) : Int)) < (↑(0 + (n + 1)) : Int) then if 4 > (↑(n + 1) : Int) then 4 else (↑(n + 1) : Int) else (↑(0 + (n + 1)) : Int)) then bif
 true && (if (if 4 > (↑(n + 1) : Int) then 4 else (↑(n + 1) : Int)) < (↑(0 + (n + 1)) : Int) then if 4 > (↑(n + 1) : Int) then 4 else (↑(n + 1) : Int) else (↑(0 + (n + 1))
 : Int)).toNat.ble (0 + (n + 1)) then bif decide ((↑(rdN (List.map strOfV cs)) : Int) > 1) then bif true && decide (0 < (↑(rdN (List.map strOfV cs)) : Int)) then bif (dN
 (rdG (List.map strOfV cs) 0) * 1).ble (shiftL 3 (strs (dL (rdG (List.map strOfV cs) 0)))).length && ((List.take (dN (rdG (List.map strOfV cs) 0) * 1) (shiftL 3 (strs (dL
 (rdG (List.map strOfV cs) 0))))).all isStrV && (List.take (dN (rdG (List.map strOfV cs) 0) * 1) (shiftL 3 (strs (dL (rdG (List.map strOfV cs) 0))))).length.beq (dN (rdG
 (List.map strOfV cs) 0))) && (List.map strOfV (List.take (dN (rdG (List.map strOfV cs) 0) * 1) (shiftL 3 (strs (dL (rdG (List.map strOfV cs) 0)))))).length.ble
 9223372036854775807 then bif hasH (List.map strOfV (List.take (dN (rdG (List.map strOfV cs) 0) * 1) (shiftL 3 (strs (dL (rdG (List.map strOfV cs) 0)))))) h then bif true
 && decide (0 < (↑(rdN (List.map strOfV cs)) : Int)) then bif (dN (rdG (List.map strOfV cs) 0) * 1).ble (shiftL 3 (strs (dL (rdG (List.map strOfV cs) 0)))).length &&
 ((List.take (dN (rdG (List.map strOfV cs) 0) * 1) (shiftL 3 (strs (dL (rdG (List.map strOfV cs) 0))))).all isStrV && (List.take (dN (rdG (List.map strOfV cs) 0) * 1)
 (shiftL 3 (strs (dL (rdG (List.map strOfV cs) 0))))).length.beq (dN (rdG (List.map strOfV cs) 0))) then bif datesB (dF (rdG (List.map strOfV cs) 0)) (dU (rdG (List.map
 strOfV cs) 0)) now then bif true && Nat.ble 2 (rdN (List.map strOfV cs)) then bif ROK (V.slice 3 0 2 false 0 0) (tM3 u s m d cs h g) then bif KV (V.slice 3 0 2 false 0 0)
 (tM3 u s m d cs h g) then bif OK (V.slice 9 0 ((if (if 4 > (↑(n + 1) : Int) then 4 else (↑(n + 1) : Int)) < (↑(0 + (n + 1)) : Int) then if 4 > (↑(n + 1) : Int) then 4
 else (↑(n + 1) : Int) else (↑(0 + (n + 1)) : Int)).toNat - 0) false 0 0) (tM3 u s m d cs h g) && (u8B s && u8B m) then R (V.bool (MV u s m (d) (V.slice 9 0 ((if (if 4 >
 (↑(n + 1) : Int) then 4 else (↑(n + 1) : Int)) < (↑(0 + (n + 1)) : Int) then if 4 > (↑(n + 1) : Int) then 4 else (↑(n + 1) : Int) else (↑(0 + (n + 1)) : Int)).toNat - 0)
 false 0 0) h now (tM3 u s m d cs h g))) else False else R (V.bool false) else False else False else R (V.bool false) else False else False else R (V.bool false) else
 False else False else R (V.bool false) else False else False else False else False else bif okS (n + 1) cs && (rdN (List.map strOfV cs)).beq 4 then bif cs.length.beq ((n
 + 1) * 1) && cs.all V.one then bif (0 + (n + 1)).ble 9223372036854775807 && ((0 + (n + 1)) * 16).ble 140737488355328 then bif decide (0 ≤ if (if 4 > (↑(n + 1) : Int) then
 4 else (↑(n + 1) : Int)) < (↑(0 + (n + 1)) : Int) then if 4 > (↑(n + 1) : Int) then 4 else (↑(n + 1) : Int) else (↑(0 + (n + 1)) : Int)) then bif true && (if (if 4 > (↑(n
 + 1) : Int) then 4 else (↑(n + 1) : Int)) < (↑(0 + (n + 1)) : Int) then if 4 > (↑(n + 1) : Int) then 4 else (↑(n + 1) : Int) else (↑(0 + (n + 1)) : Int)).toNat.ble (0 +
 (n + 1)) then bif decide ((↑(rdN (List.map strOfV cs)) : Int) > 1) then bif true && decide (0 < (↑(rdN (List.map strOfV cs)) : Int)) then bif (dN (rdG (List.map strOfV
 cs) 0) * 1).ble (shiftL 3 (strs (dL (rdG (List.map strOfV cs) 0)))).length && ((List.take (dN (rdG (List.map strOfV cs) 0) * 1) (shiftL 3 (strs (dL (rdG (List.map strOfV
 cs) 0))))).all isStrV && (List.take (dN (rdG (List.map strOfV cs) 0) * 1) (shiftL 3 (strs (dL (rdG (List.map strOfV cs) 0))))).length.beq (dN (rdG (List.map strOfV cs)
 0))) && (List.map strOfV (List.take (dN (rdG (List.map strOfV cs) 0) * 1) (shiftL 3 (strs (dL (rdG (List.map strOfV cs) 0)))))).length.ble 9223372036854775807 then bif
 hasH (List.map strOfV (List.take (dN (rdG (List.map strOfV cs) 0) * 1) (shiftL 3 (strs (dL (rdG (List.map strOfV cs) 0)))))) h then bif true && decide (0 < (↑(rdN
 (List.map strOfV cs)) : Int)) then bif (dN (rdG (List.map strOfV cs) 0) * 1).ble (shiftL 3 (strs (dL (rdG (List.map strOfV cs) 0)))).length && ((List.take (dN (rdG
 (List.map strOfV cs) 0) * 1) (shiftL 3 (strs (dL (rdG (List.map strOfV cs) 0))))).all isStrV && (List.take (dN (rdG (List.map strOfV cs) 0) * 1) (shiftL 3 (strs (dL (rdG
 (List.map strOfV cs) 0))))).length.beq (dN (rdG (List.map strOfV cs) 0))) then bif datesB (dF (rdG (List.map strOfV cs) 0)) (dU (rdG (List.map strOfV cs) 0)) now then bif
 true && Nat.ble 2 (rdN (List.map strOfV cs)) then bif ROK (V.slice 3 0 2 false 0 0) (tM1 u s m d cs h g) then bif KV (V.slice 3 0 2 false 0 0) (tM1 u s m d cs h g) then
 bif OK (V.slice 9 0 ((if (if 4 > (↑(n + 1) : Int) then 4 else (↑(n + 1) : Int)) < (↑(0 + (n + 1)) : Int) then if 4 > (↑(n + 1) : Int) then 4 else (↑(n + 1) : Int) else
 (↑(0 + (n + 1)) : Int)).toNat - 0) false 0 0) (tM1 u s m d cs h g) && (u8B s && u8B m) then R (V.bool (MV u s m (d) (V.slice 9 0 ((if (if 4 > (↑(n + 1) : Int) then 4 else
 (↑(n + 1) : Int)) < (↑(0 + (n + 1)) : Int) then if 4 > (↑(n + 1) : Int) then 4 else (↑(n + 1) : Int) else (↑(0 + (n + 1)) : Int)).toNat - 0) false 0 0) h now (tM1 u s m d
 cs h g))) else False else R (V.bool false) else False else False else R (V.bool false) else False else False else R (V.bool false) else False else False else R (V.bool
 false) else False else False else False else False else False else False else False else False else False) := by kernel_rfl
theorem to_c (LOK LB : V → V → St → Bool) (OK : V → St → Bool) (MV : Int → Int → Int → List UInt8 → V → List UInt8 → Int → St → Bool) (ROK : V → St → Bool) (KV : V → St → Bool) (u s m : Int) (d : List UInt8) (x : Value) (n : Nat) (cs : List V) (p : Value) (k : Nat) (ds : List V) (h g : List UInt8) (now thn : Int) (R : V → Prop) : runW Tryd.prog (TOX readQ LOK LB OK MV ROK KV) 9 10 3 [.agg [.int .u8 u, .int .u8 s, .int .u8 m, .str d], .lst x (n + 1) cs, .lst p (k + 1) ds, .str h, .str g, .int .i64 now, .int .i64 thn] R =
  (
 bif LOK (V.lst x (n + 1) cs) (V.slice 1 0 1 false 0 0) (tM8 u s m d) then bif LB (V.lst x (n + 1) cs) (V.slice 1 0 1 false 0 0) (tM8 u s m d) then R (V.bool true) else
 bif ds.length.beq ((k + 1) * 1) && ds.all V.one then bif (2 + (k + 1)).ble 9223372036854775807 && ((2 + (k + 1)) * 16).ble 140737488355328 then bif LOK (V.slice 3 0 (2 +
 (k + 1)) false 0 0) V.nilSlice (tM6 u s m d ds h g) then bif LB (V.slice 3 0 (2 + (k + 1)) false 0 0) V.nilSlice (tM6 u s m d ds h g) then R (V.bool true) else bif OK
 (V.lst x (n + 1) cs) [] && (u8B s && u8B m) then bif u == 3 then bif OK (V.lst (sliceX x 0 1 1) 1 (List.take 1 cs)) [] && (u8B s && u8B m) then bif MV u s m (d) (V.lst x
 (n + 1) cs) h now [] == MV u s m (d) (V.lst (sliceX x 0 1 1) 1 (List.take 1 cs)) g thn [] then bif decide ((↑(n + 1) : Int) > 0) then bif true && decide (0 < (↑(n + 1) :
 Int)) then bif Nat.blt 0 cs.length then bif isStrV (cs.getD 0 (V.bool false)) then bif u8B s && u8B m then R (V.bool (MV u s m (d) (V.lst x (n + 1) cs) h now [] == ofB u
 s m (d) (strOfV (cs.getD 0 (V.bool false))))) else False else False else False else False else R (V.bool (MV u s m (d) (V.lst x (n + 1) cs) h now [] == false)) else R
 (V.bool false) else False else bif u != 2 then bif u != 2 then R (V.bool !MV u s m (d) (V.lst x (n + 1) cs) h now []) else R (V.bool false) else bif OK (V.lst (sliceX x 0
 1 1) 1 (List.take 1 cs)) [] && (u8B s && u8B m) then bif MV u s m (d) (V.lst (sliceX x 0 1 1) 1 (List.take 1 cs)) h now [] then bif u != 2 then R (V.bool !MV u s m (d)
 (V.lst x (n + 1) cs) h now []) else R (V.bool false) else bif !MV u s m (d) (V.lst x (n + 1) cs) h now [] then R (V.bool true) else bif okS (n + 1) cs && (rdN (List.map
 strOfV cs)).beq 2 then bif cs.length.beq ((n + 1) * 1) && cs.all V.one then bif (0 + (n + 1)).ble 9223372036854775807 && ((0 + (n + 1)) * 16).ble 140737488355328 then bif
 ds.length.beq ((k + 1) * 1) && ds.all V.one then bif cs.length.beq ((0 + (n + 1)) * 1) then bif (0 + (n + 1) + (k + 1)).ble 9223372036854775807 && ((0 + (n + 1) + (k +
 1)) * 16).ble 140737488355328 then bif decide (0 ≤ if (if 4 > (↑(n + 1) : Int) then 4 else (↑(n + 1) : Int)) < (↑(0 + (n + 1) + (k + 1)) : Int) then if 4 > (↑(n + 1) :
 Int) then 4 else (↑(n + 1) : Int) else (↑(0 + (n + 1) + (k + 1)) : Int)) then bif true && (if (if 4 > (↑(n + 1) : Int) then 4 else (↑(n + 1) : Int)) < (↑(0 + (n + 1) + (k
 + 1)) : Int) then if 4 > (↑(n + 1) : Int) then 4 else (↑(n + 1) : Int) else (↑(0 + (n + 1) + (k + 1)) : Int)).toNat.ble (0 + (n + 1) + (k + 1)) then bif decide ((↑(rdN
 (List.map strOfV cs)) : Int) > 1) then bif true && decide (0 < (↑(rdN (List.map strOfV cs)) : Int)) then bif (dN (rdG (List.map strOfV cs) 0) * 1).ble (shiftL 4 (strs (dL
 (rdG (List.map strOfV cs) 0)))).length && ((List.take (dN (rdG (List.map strOfV cs) 0) * 1) (shiftL 4 (strs (dL (rdG (List.map strOfV cs) 0))))).all isStrV && (List.take
 (dN (rdG (List.map strOfV cs) 0) * 1) (shiftL 4 (strs (dL (rdG (List.map strOfV cs) 0))))).length.beq (dN (rdG (List.map strOfV cs) 0))) && (List.map strOfV (List.take
 (dN (rdG (List.map strOfV cs) 0) * 1) (shiftL 4 (strs (dL (rdG (List.map strOfV cs) 0)))))).length.ble 9223372036854775807 then bif hasH (List.map strOfV (List.take (dN
 (rdG (List.map strOfV cs) 0) * 1) (shiftL 4 (strs (dL (rdG (List.map strOfV cs) 0)))))) h then bif true && decide (0 < (↑(rdN (List.map strOfV cs)) : Int)) then bif (dN
 (rdG (List.map strOfV cs) 0) * 1).ble (shiftL 4 (strs (dL (rdG (List.map strOfV cs) 0)))).length && ((List.take (dN (rdG (List.map strOfV cs) 0) * 1) (shiftL 4 (strs (dL
 (rdG (List.map strOfV cs) 0))))).all isStrV && (List.take (dN (rdG (List.map strOfV cs) 0) * 1) (shiftL 4 (strs (dL (rdG (List.map strOfV cs) 0))))).length.beq (dN (rdG
 (List.map strOfV cs) 0))) then bif datesB (dF (rdG (List.map strOfV cs) 0)) (dU (rdG (List.map strOfV cs) 0)) now then bif true && Nat.ble 2 (rdN (List.map strOfV cs))
 then bif ROK (V.slice 4 0 2 false 0 0) (tM4 u s m d cs ds h g) then bif KV (V.slice 4 0 2 false 0 0) (tM4 u s m d cs ds h g) then bif OK (V.slice 11 0 ((if (if 4 > (↑(n +
 1) : Int) then 4 else (↑(n + 1) : Int)) < (↑(0 + (n + 1) + (k + 1)) : Int) then if 4 > (↑(n + 1) : Int) then 4 else (↑(n + 1) : Int) else (↑(0 + (n + 1) + (k + 1)) :
 Int)).toNat - 0) false 0 0) (tM4 u s m d cs ds h g) && (u8B s && u8B m) then R (V.bool (MV u s m (d) (V.slice 11 0 ((if (if 4 > (↑(n + 1) : Int) then 4 else (↑(n + 1) :
 Int)) < (↑(0 + (n + 1) + (k + 1)) : Int) then if 4 > (↑(n + 1) : Int) then 4 else (↑(n + 1) : Int) else (↑(0 + (n + 1) + (k + 1)) : Int)).toNat - 0) false 0 0) h now (tM4
 u s m d cs ds h g))) else False else R (V.bool false) else False else False else R (V.bool false) else False else False else R (V.bool false) else False else False else R
 (V.bool false) else False else False else False else False else False else False else False else bif okS (n + 1) cs && (rdN (List.map strOfV cs)).beq 3 then bif
 cs.length.beq ((n + 1) * 1) && cs.all V.one then bif (0 + (n + 1)).ble 9223372036854775807 && ((0 + (n + 1)) * 16).ble 140737488355328 then bif ds.length.beq ((k + 1) *
 1) && ds.all V.one then bif cs.length.beq ((0 + (n + 1)) * 1) then bif (0 + (n + 1) + (k + 1)).ble 9223372036854775807 && ((0 + (n + 1) + (k + 1)) * 16).ble
 140737488355328 then bif decide (0 ≤ if (if 4 > (↑(n + 1) : Int) then 4 else (↑(n + 1) : Int)) < (↑(0 + (n + 1) + (k + 1)) : Int) then if 4 > (↑(n + 1) : Int) then 4 else
 (↑(n + 1) : Int) else (↑(0 + (n + 1) + (k + 1)) : Int)) then bif true && (if (if 4 > (↑(n + 1) : Int) then 4 else (↑(n + 1) : Int)) < (↑(0 + (n + 1) + (k + 1)) : Int)
 then if 4 > (↑(n + 1) : Int) then 4 else (↑(n + 1) : Int) else (↑(0 + (n + 1) + (k + 1)) : Int)).toNat.ble (0 + (n + 1) + (k + 1)) then bif decide ((↑(rdN (List.map
 strOfV cs)) : Int) > 1) then bif true && decide (0 < (↑(rdN (List.map strOfV cs)) : Int)) then bif (dN (rdG (List.map strOfV cs) 0) * 1).ble (shiftL 4 (strs (dL (rdG
 (List.map strOfV cs) 0)))).length && ((List.take (dN (rdG (List.map strOfV cs) 0) * 1) (shiftL 4 (strs (dL (rdG (List.map strOfV cs) 0))))).all isStrV && (List.take (dN
 (rdG (List.map strOfV cs) 0) * 1) (shiftL 4 (strs (dL (rdG (List.map strOfV cs) 0))))).length.beq (dN (rdG (List.map strOfV cs) 0))) && (List.map strOfV (List.take (dN
 (rdG (List.map strOfV cs) 0) * 1) (shiftL 4 (strs (dL (rdG (List.map strOfV cs) 0)))))).length.ble 9223372036854775807 then bif hasH (List.map strOfV (List.take (dN (rdG
 (List.map strOfV cs) 0) * 1) (shiftL 4 (strs (dL (rdG (List.map strOfV cs) 0)))))) h then bif true && decide (0 < (↑(rdN (List.map strOfV cs)) : Int)) then bif (dN (rdG
 (List.map strOfV cs) 0) * 1).ble (shiftL 4 (strs (dL (rdG (List.map strOfV cs) 0)))).length && ((List.take (dN (rdG (List.map strOfV cs) 0) * 1) (shiftL 4 (strs (dL (rdG
 (List.map strOfV cs) 0))))).all isStrV && (List.take (dN (rdG (List.map strOfV cs) 0) * 1) (shiftL 4 (strs (dL (rdG (List.map strOfV cs) 0))))).length.beq (dN (rdG
 (List.map strOfV cs) 0))) then bif datesB (dF (rdG (List.map strOfV cs) 0)) (dU (rdG (List.map strOfV cs) 0)) now then bif true && Nat.ble 2 (rdN (List.map strOfV cs))
 then bif ROK (V.slice 4 0 2 false 0 0) (tM2 u s m d cs ds h g) then bif KV (V.slice 4 0 2 false 0 0) (tM2 u s m d cs ds h g) then bif OK (V.slice 11 0 ((if (if 4 > (↑(n +
 1) : Int) then 4 else (↑(n + 1) : Int)) < (↑(0 + (n + 1) + (k + 1)) : Int) then if 4 > (↑(n + 1) : Int) then 4 else (↑(n + 1) : Int) else (↑(0 + (n + 1) + (k + 1)) :
 Int)).toNat - 0) false 0 0) (tM2 u s m d cs ds h g) && (u8B s && u8B m) then R (V.bool (MV u s m (d) (V.slice 11 0 ((if (if 4 > (↑(n + 1) : Int) then 4 else (↑(n + 1) :
 Int)) < (↑(0 + (n + 1) + (k + 1)) : Int) then if 4 > (↑(n + 1) : Int) then 4 else (↑(n + 1) : Int) else (↑(0 + (n + 1) + (k + 1)) : Int)).toNat - 0) false 0 0) h now (tM2
 u s m d cs ds h g))) else False else R (V.bool false) else False else False else R (V.bool false) else False else False else R (V.bool false) else False else False else R
 (V.bool false) else False else False else False else False else False else False else False else bif okS (n + 1) cs && (rdN (List.map strOfV cs)).beq 4 then bif
 cs.length.beq ((n + 1) * 1) && cs.all V.one then bif (0 + (n + 1)).ble 9223372036854775807 && ((0 + (n + 1)) * 16).ble 140737488355328 then bif ds.length.beq ((k + 1) *
 1) && ds.all V.one then bif cs.length.beq ((0 + (n + 1)) * 1) then bif (0 + (n + 1) + (k + 1)).ble 9223372036854775807 && ((0 + (n + 1) + (k + 1)) * 16).ble
 140737488355328 then bif decide (0 ≤ if (if 4 > (↑(n + 1) : Int) then 4 else (↑(n + 1) : Int)) < (↑(0 + (n + 1) + (k + 1)) : Int) then if 4 > (↑(n + 1) : Int) then 4 else
 (↑(n + 1) : Int) else (↑(0 + (n + 1) + (k + 1)) : Int)) then bif true && (if (if 4 > (↑(n + 1) : Int) then 4 else (↑(n + 1) : Int)) < (↑(0 + (n + 1) + (k + 1)) : Int)
 then if 4 > (↑(n + 1) : Int) then 4 else (↑(n + 1) : Int) else (↑(0 + (n + 1) + (k + 1)) : Int)).toNat.ble (0 + (n + 1) + (k + 1)) then bif decide ((↑(rdN (List.map
 strOfV cs)) : Int) > 1) then bif true && decide (0 < (↑(rdN (List.map strOfV cs)) : Int)) then bif (dN (rdG (List.map strOfV cs) 0) * 1).ble (shiftL 4 (strs (dL (rdG
 (List.map strOfV cs) 0)))).length && ((List.take (dN (rdG (List.map strOfV cs) 0) * 1) (shiftL 4 (strs (dL (rdG (List.map strOfV cs) 0))))).all isStrV && (List.take (dN
 (rdG (List.map strOfV cs) 0) * 1) (shiftL 4 (strs (dL (rdG (List.map strOfV cs) 0))))).length.beq (dN (rdG (List.map strOfV cs) 0))) && (List.map strOfV (List.take (dN
 (rdG (List.map strOfV cs) 0) * 1) (shiftL 4 (strs (dL (rdG (List.map strOfV cs) 0)))))).length.ble 9223372036854775807 then bif hasH (List.map strOfV (List.take (dN (rdG
 (List.map strOfV cs) 0) * 1) (shiftL 4 (strs (dL (rdG (List.map strOfV cs) 0)))))) h then bif true && decide (0 < (↑(rdN (List.map strOfV cs)) : Int)) then bif (dN (rdG
 (List.map strOfV cs) 0) * 1).ble (shiftL 4 (strs (dL (rdG (List.map strOfV cs) 0)))).length && ((List.take (dN (rdG (List.map strOfV cs) 0) * 1) (shiftL 4 (strs (dL (rdG
 (List.map strOfV cs) 0))))).all isStrV && (List.take (dN (rdG (List.map strOfV cs) 0) * 1) (shiftL 4 (strs (dL (rdG (List.map strOfV cs) 0))))).length.beq (dN (rdG
 (List.map strOfV cs) 0))) then bif datesB (dF (rdG (List.map strOfV cs) 0)) (dU (rdG (List.map strOfV cs) 0)) now then bif true && Nat.ble 2 (rdN (List.map strOfV cs))
 then bif ROK (V.slice 4 0 2 false 0 0) (tM0 u s m d cs ds h g) then bif KV (V.slice 4 0 2 false 0 0) (tM0 u s m d cs ds h g) then bif OK (V.slice 11 0 ((if (if 4 > (↑(n +
 1) : Int) then 4 else (↑(n + 1) : Int)) < (↑(0 + (n + 1) + (k + 1)) : Int) then if 4 > (↑(n + 1) : Int) then 4 else (↑(n + 1) : Int) else (↑(0 + (n + 1) + (k + 1)) :
 Int)).toNat - 0) false 0 0) (tM0 u s m d cs ds h g) && (u8B s && u8B m) then R (V.bool (MV u s m (d) (V.slice 11 0 ((if (if 4 > (↑(n + 1) : Int) then 4 else (↑(n + 1) :
 Int)) < (↑(0 + (n + 1) + (k + 1)) : Int) then if 4 > (↑(n + 1) : Int) then 4 else (↑(n + 1) : Int) else (↑(0 + (n + 1) + (k + 1)) : Int)).toNat - 0) false 0 0) h now (tM0
 u s m d cs ds h g))) else False else R (V.bool false) else False else False else R (V.bool false) else False else False else R (V.bool false) else False else False else R
 (V.bool false) else False else False else False else False else False else False else False else False else False else False else False else False else False else False) := by kernel_rfl
theorem goodP_app : ∀ a b : List (List UInt8), ∃ w, goodP (a ++ b) = goodP a ++ w
 | [], b => ⟨_, rfl⟩
 | s :: r, b => by
  obtain ⟨w, hw⟩ := goodP_app r b
  rw [List.cons_append, goodP, goodP]
  cases (decE s == 0) with
  | true => exact ⟨w, by rw [cond_true, cond_true, hw]; rfl⟩
  | false => exact ⟨[], rfl⟩
theorem readS_app (l t : List (List UInt8)) : ∃ w, readS (l ++ t) = readS l ++ w := by
 unfold readS
 rw [List.take_append]
 exact goodP_app _ _
theorem linkC_two : ∀ {L : List CR}, linkC L = true → linkC (L.take 2) = true
 | [], _ => rfl
 | [_], _ => rfl
 | a :: b :: r, h => by
  unfold linkC at h
  show (b.ca && ((a.g == digB b.k) && true)) = true
  rw [Bool.and_eq_true, Bool.and_eq_true] at h
  rw [h.1, h.2.1]; rfl
theorem matF_some {u s m : Int} {d : List UInt8} {now : Int} {l : List (List UInt8)} : ∀ {k i : Nat}, matF u s m d now l k i = true → ∃ j, i ≤ j ∧ j < i + k ∧ lateC now ((readC l).take (j + 1)) = false ∧ linkC ((readC l).take (j + 1)) = true
 | 0, i, h => by cases h
 | k + 1, i, h => by
  rw [matF] at h
  cases hc : (!lateC now ((readC l).take (i + 1)) && (ofB u s m d (strOfV ((strs l).getD i (.bool false))) && linkC ((readC l).take (i + 1)))) with
  | true =>
   simp only [Bool.and_eq_true, Bool.not_eq_true'] at hc
   exact ⟨i, Nat.le_refl _, by omega, hc.1, hc.2.2⟩
  | false =>
   rw [hc, cond_false] at h
   obtain ⟨j, h1, h2, h3⟩ := matF_some h
   exact ⟨j, by omega, by omega, h3⟩
theorem matF_more {u s m : Int} {d : List UInt8} {now : Int} {l f : List (List UInt8)} {w : List CR} (hr : readC f = readC l ++ w) (hs : ∀ i, i < (readC l).length → (strs f).getD i (.bool false) = (strs l).getD i (.bool false)) : ∀ {k n i : Nat}, matF u s m d now l k i = true → i + k ≤ (readC l).length → k ≤ n → matF u s m d now f n i = true
 | 0, _, _, h, _, _ => by cases h
 | k + 1, 0, i, h, _, hn => by omega
 | k + 1, n + 1, i, h, hk, hn => by
  rw [matF] at h ⊢
  rw [hr, List.take_append_of_le_length (by omega), hs i (by omega)]
  cases hc : (!lateC now ((readC l).take (i + 1)) && (ofB u s m d (strOfV ((strs l).getD i (.bool false))) && linkC ((readC l).take (i + 1)))) with
  | true => rfl
  | false =>
   rw [hc, cond_false] at h
   rw [cond_false]
   exact matF_more hr hs h (by omega) (by omega)
theorem mat_two {u s m : Int} {d h : List UInt8} {now : Int} {l : List (List UInt8)} (h2 : u = 2) (hm : matB u s m d l h now = true) : 2 ≤ rdN l ∧ hasH (dL (rdG l 0)) h = true ∧ datesB (dF (rdG l 0)) (dU (rdG l 0)) now = true ∧ linkC [crOf (rdG l 0), crOf (rdG l 1)] = true ∧ matF u s m d now l (rdN l - 1) 1 = true := by
 subst h2
 unfold matB at hm
 have hm : (!Nat.beq (rdN l) 0 && (hasH (dL (rdG l 0)) h && matF 2 s m d now l (rdN l - 1) 1)) = true := hm
 simp only [Bool.and_eq_true] at hm
 obtain ⟨h1, h2, h3⟩ := hm
 obtain ⟨j, j1, j2, j3, j4⟩ := matF_some h3
 have e := readC_of (l := l) rfl
 have hj : 2 ≤ rdN l := by omega
 have e2 : (readC l).take 2 = [crOf (rdG l 0), crOf (rdG l 1)] := by
  apply List.ext_getElem?
  intro i
  rw [List.getElem?_take]
  rcases (by omega : i = 0 ∨ i = 1 ∨ 2 ≤ i) with hi | hi | hi
  ·subst hi
   rw [if_pos (by omega), e, List.getElem?_map, List.getElem?_range (by omega)]; rfl
  ·subst hi
   rw [if_pos (by omega), e, List.getElem?_map, List.getElem?_range (by omega)]; rfl
  ·rw [if_neg (by omega)]
   exact (List.getElem?_eq_none (by simpa using hi)).symm
 refine ⟨hj, h2, ?_, ?_, h3⟩
 ·have h0 : crOf (rdG l 0) ∈ (readC l).take (j + 1) := by
   have : crOf (rdG l 0) ∈ ((readC l).take (j + 1)).take 2 := by
    rw [List.take_take, Nat.min_eq_left (by omega), e2]; simp
   exact List.mem_of_mem_take this
  have := (List.any_eq_false.1 j3) _ h0
  simpa [crOf] using this
 ·have := linkC_two j4
  rw [List.take_take, Nat.min_eq_left (by omega), e2] at this
  exact this
theorem mat_mono {u s m : Int} {d h : List UInt8} {now : Int} {l : List (List UInt8)} (t : List (List UInt8)) (h2 : u = 2) (hm : matB u s m d l h now = true) : matB u s m d (l ++ t) h now = true := by
 obtain ⟨q1, q2, q3, q4, q5⟩ := mat_two h2 hm
 subst h2
 obtain ⟨w, hw⟩ := readS_app l t
 have hN : rdN (l ++ t) = rdN l + w.length := by unfold rdN; rw [hw, List.length_append]
 have hL := (rdN_le l).2
 have hC : readC (l ++ t) = readC l ++ w.map crOf := by unfold readC; rw [hw, List.map_append]
 have hG : rdG (l ++ t) 0 = rdG l 0 := by unfold rdG; rw [List.getD_eq_getElem?_getD, List.getD_eq_getElem?_getD, List.getElem?_append_left (by omega)]
 have hS : ∀ i, i < (readC l).length → (strs (l ++ t)).getD i (.bool false) = (strs l).getD i (.bool false) := fun i hi => by
  rw [readC_len] at hi
  unfold strs
  rw [List.map_append, List.getD_eq_getElem?_getD, List.getD_eq_getElem?_getD, List.getElem?_append_left (by simp; omega)]
 unfold matB
 show (!Nat.beq (rdN (l ++ t)) 0 && (hasH (dL (rdG (l ++ t) 0)) h && matF 2 s m d now (l ++ t) (rdN (l ++ t) - 1) 1)) = true
 rw [hG, q2, matF_more hC hS q5 (by rw [readC_len]; omega) (by omega)]
 cases hb : Nat.beq (rdN (l ++ t)) 0 with
 | false => rfl
 | true => have := Nat.eq_of_beq_eq_true hb; omega
theorem two_view {st : St} {b n0 n1 : Nat} {z0 z1 : Bool} {A B : List UInt8} {T : List V} {t : TypeId} {sz : Nat} (hb : st[b]? = some (.row (rdA A n0 (rdA B n1 T)) t sz)) (h0 : st[n0]? = some (.ro z0 (strs (dL A)))) (h1 : st[n1]? = some (.ro z1 (strs (dL B)))) : rOK (.slice b 0 2 false 0 0) st = true ∧ linkW (.slice b 0 2 false 0 0) st = linkC [crOf A, crOf B] := by
 have hv : viewC st 6 (.slice b 0 2 false 0 0) = some (Nat.ble (0 + 2 * 6) (rdA A n0 (rdA B n1 T)).length, (2, rdA A n0 (rdA B n1 []))) := by simp only [viewC, hb]; rfl
 have hv2 : viewR st (.slice b 0 2 false 0 0) = some (true, [crOf A, crOf B]) := by
  unfold viewR
  rw [hv]
  simp only [(cr_rdAz h0).1, (cr_rdAz h1).1, (cr_rdAz h0).2, (cr_rdAz h1).2]
  have : Nat.ble (0 + 2 * 6) (rdA A n0 (rdA B n1 T)).length = true := Nat.ble_eq_true_of_le (by unfold rdA; simp only [List.length_cons]; omega)
  rw [this]; rfl
 unfold rOK linkW
 rw [hv2]
 exact ⟨rfl, rfl⟩
theorem lst_view {st : St} {x : Value} {l : List (List UInt8)} : viewS st (.lst x l.length (strs l)) = some (true, l) := by
 simp only [viewS, viewC, strs_len, Nat.mul_one, Nat.beq_refl, strs_isStr, strs_strOf, Bool.and_self]
theorem row_view {st : St} {b : Nat} {f : List (List UInt8)} {t : TypeId} {sz n : Nat} {c z : Nat} {ex : Bool} (hb : st[b]? = some (.row (strs f) t sz)) (hn : n ≤ f.length) : viewS st (.slice b 0 n ex c z) = some (true, f.take n) := by
 have hv : viewC st 1 (.slice b 0 n ex c z) = some (Nat.ble (0 + n * 1) (strs f).length, (n, strs (f.take n))) := by
  simp only [viewC, hb, Nat.mul_one, List.drop_zero]
  unfold strs
  rw [List.map_take]
 unfold viewS
 rw [hv]
 simp only [strs_isStr, strs_strOf, strs_len, List.length_take, Nat.min_eq_left hn, Nat.beq_refl, Nat.ble_eq_true_of_le (show 0 + n * 1 ≤ f.length by omega), Bool.and_self]
theorem mv_of {st : St} {v : V} {l : List (List UInt8)} (hv : viewS st v = some (true, l)) (hl : l.length ≤ 9223372036854775807) : mvOK v st = true ∧ ∀ u s m d h now, mvV u s m d v h now st = matB u s m d l h now := by
 unfold mvOK mvV
 rw [hv]
 exact ⟨by show (true && _) = true; rw [Bool.true_and]; exact Nat.ble_eq_true_of_le hl, fun _ _ _ _ _ _ => rfl⟩
theorem lg_of {st : St} {v : V} {l : List (List UInt8)} {q : V} {r : List TL} (hv : viewS st v = some (true, l)) (hq : viewT st q = some (true, r)) (hl : l.length ≤ 9223372036854775807) (hr : r.length ≤ 9223372036854775807) : longOK v q st = true ∧ longV v q st = longB l r := by
 unfold longOK longV
 rw [hv, hq]
 refine ⟨?_, rfl⟩
 show (true && (true && (Nat.ble l.length 9223372036854775807 && Nat.ble r.length 9223372036854775807))) = true
 rw [Nat.ble_eq_true_of_le hl, Nat.ble_eq_true_of_le hr]; rfl
theorem mat_three {s m : Int} {d h : List UInt8} {now : Int} {a : List UInt8} {r : List (List UInt8)} : matB 3 s m d (a :: r) h now = ofB 3 s m d a := rfl
theorem mat_else {u s m : Int} {d h : List UInt8} {now : Int} {l : List (List UInt8)} (h3 : u ≠ 3) (h2 : u ≠ 2) : matB u s m d l h now = false := by
 unfold matB
 rw [beq_false_of_ne h3, beq_false_of_ne h2]; rfl
theorem mat_one {s m : Int} {d h : List UInt8} {now : Int} {a : List UInt8} : matB 2 s m d [a] h now = false := by
 cases hm : matB 2 s m d [a] h now with
 | false => rfl
 | true =>
  obtain ⟨q1, _⟩ := mat_two rfl hm
  have := (rdN_le [a]).2
  simp at this; omega
theorem mat_nil {u s m : Int} {d h : List UInt8} {now : Int} : matB u s m d [] h now = false := by
 unfold matB
 cases u == 3 <;> cases u == 2 <;> rfl
theorem l1_len : ∀ (r : List (List UInt8)) (a : Nat), l1N a r < 9000 → a + 10 * r.length ≤ l1N a r
 | [], a, _ => by simp [l1N]
 | s :: r, a, h => by
  rw [l1N] at h ⊢
  split
  ·rename_i ha
   rw [if_pos ha] at h
   have := l1_len r _ h
   rw [List.length_cons]; omega
  ·rename_i ha
   rw [if_neg ha] at h
   omega
theorem l2_le : ∀ (r : List TL) (a : Nat), a ≤ l2N a r
 | [], a => Nat.le_refl _
 | s :: r, a => by
  rw [l2N]
  split
  ·have := l2_le r (a + 10 + min 9000 s.d.length); omega
  ·exact Nat.le_refl _
theorem longS_small {l : List (List UInt8)} {r : List TL} (h : longB l r = false) : l.length < 900 := by
 unfold longB at h
 have h := of_decide_eq_false h
 have h2 := l2_le r (l1N 0 l)
 unfold longN at h
 have := l1_len l 0 (by omega)
 omega
theorem strs_one (l : List (List UInt8)) : (strs l).all V.one = true := by
 unfold strs
 rw [List.all_map, List.all_eq_true]
 intro x _
 rfl
theorem own_nil (u s m : Int) (d : List UInt8) (x : Value) (p : Value) (e : List (List UInt8)) (h g : List UInt8) (now thn : Int) (hs : u8B s = true) (hm : u8B m = true) (h2 : e.length ≤ 9223372036854775807) (hz : (2 + e.length) * 16 ≤ 140737488355328) :
  FnSat Tryd.prog 3 [.agg [.int .u8 u, .int .u8 s, .int .u8 m, .str d], .lst x 0 [], .lst p e.length (strs e), .str h, .str g, .int .i64 now, .int .i64 thn] [] (fun v _ => v = .bool true) := by
 refine runW_ok (lim := 9) (n := 10) mixed TOE_ok ?_
 refine cast (to_a longOK longV mvOK mvV rOK linkW u s m d x p e.length (strs e) h g now thn (fun v => v = .bool true)).symm ?_
 have A1 := lg_of (st := tM8 u s m d) (v := .lst x 0 []) (q := .slice 1 0 1 false 0 0) (l := []) (r := [⟨u, s, m, d⟩]) rfl rfl (by simp) (by simp)
 have A2 := lg_of (st := tM7 u s m d h g) (v := .slice 2 0 2 false 0 0) (q := .nilSlice) (l := [h, g]) (r := []) rfl rfl (by simp) (by simp)
 have A3 := lg_of (st := tM6 u s m d (strs e) h g) (v := .slice 3 0 (2 + e.length) false 0 0) (q := .nilSlice) (l := (h :: g :: e).take (2 + e.length)) (r := []) (row_view (f := h :: g :: e) rfl (by simp; omega)) rfl (by rw [List.length_take]; omega) (by simp)
 have B1 := mv_of (st := []) (v := .lst x 0 []) (l := []) rfl (by simp)
 have B2 := mv_of (st := []) (v := .lst (sliceX x 0 0 1) 0 []) (l := []) rfl (by simp)
 have c1 : ((strs e).length.beq (e.length * 1) && (strs e).all V.one) = true := by rw [strs_len, strs_one, Nat.mul_one, Nat.beq_refl]; rfl
 have c2 : ((2 + e.length).ble 9223372036854775807 && ((2 + e.length) * 16).ble 140737488355328) = true := by rw [Nat.ble_eq_true_of_le (by omega), Nat.ble_eq_true_of_le hz]; rfl
 simp only [A1.1, A1.2, A2.1, A2.2, A3.1, A3.2, B1.1, B1.2, B2.1, B2.2, c1, c2, hs, hm, mat_nil, cond_true, Bool.and_self]
 refine bif_intro (fun _ => trivial) (fun _ => ?_)
 refine bif_intro (fun _ => ?_) (fun _ => ?_)
 ·refine bif_intro (fun _ => trivial) (fun _ => ?_)
  cases u == 3 <;> cases u != 2 <;> simp
 ·refine bif_intro (fun _ => trivial) (fun _ => ?_)
  cases u == 3 <;> cases u != 2 <;> simp
theorem shS (k : Nat) (l : List (List UInt8)) : shiftL k (strs l) = strs l := shiftS k l
theorem own_b (u s m : Int) (d : List UInt8) (x : Value) (a : List UInt8) (t : List (List UInt8)) (p : Value) (h g : List UInt8) (now thn : Int) (hs : u8B s = true) (hm : u8B m = true) (h1 : (a :: t).length ≤ 9223372036854775807) :
  FnSat Tryd.prog 3 [.agg [.int .u8 u, .int .u8 s, .int .u8 m, .str d], .lst x (t.length + 1) (strs (a :: t)), .lst p 0 [], .str h, .str g, .int .i64 now, .int .i64 thn] [] (fun v _ => v = .bool true) := by
 refine runW_ok (lim := 9) (n := 10) mixed TOQ_ok ?_
 refine cast (to_b longOK longV mvOK mvV rOK linkW u s m d x t.length (strs (a :: t)) p h g now thn (fun v => v = .bool true)).symm ?_
 have A1 := lg_of (st := tM8 u s m d) (v := .lst x (t.length + 1) (strs (a :: t))) (q := .slice 1 0 1 false 0 0) (l := a :: t) (r := [⟨u, s, m, d⟩]) lst_view rfl h1 (by simp)
 have A2 := lg_of (st := tM7 u s m d h g) (v := .slice 2 0 2 false 0 0) (q := .nilSlice) (l := [h, g]) (r := []) rfl rfl (by simp) (by simp)
 have B1 := mv_of (st := []) (v := .lst x (t.length + 1) (strs (a :: t))) (l := a :: t) lst_view h1
 have B2 := mv_of (st := []) (v := .lst (sliceX x 0 1 1) 1 (List.take 1 (strs (a :: t)))) (l := [a]) rfl (by simp)
 have d1 : decide ((↑(t.length + 1) : Int) > 0) = true := decide_eq_true (by omega)
 have d2 : decide (0 < (↑(t.length + 1) : Int)) = true := decide_eq_true (by omega)
 have d3 : Nat.blt 0 (strs (a :: t)).length = true := rfl
 have d4 : isStrV ((strs (a :: t)).getD 0 (V.bool false)) = true := rfl
 have d5 : strOfV ((strs (a :: t)).getD 0 (V.bool false)) = a := rfl
 simp only [A1.1, A1.2, A2.1, A2.2, B1.1, B1.2, B2.1, B2.2, d1, d3, d4, d5, hs, hm, cond_true, Bool.and_self]
 refine bif_intro (fun _ => trivial) (fun hl => ?_)
 refine bif_intro (fun _ => trivial) (fun _ => ?_)
 have hsm := longS_small hl
 rw [List.length_cons] at hsm
 by_cases u3 : u = 3
 ·subst u3
  have e3 : ((3 : Int) == 3) = true := rfl
  simp only [mat_three, e3, cond_true, beq_self_eq_true]
 have e3 : (u == 3) = false := beq_false_of_ne u3
 by_cases u2 : u = 2
 ·subst u2
  have e2 : ((2 : Int) != 2) = false := rfl
  simp only [e3, e2, mat_one, cond_false]
  refine bif_intro (fun _ => trivial) (fun hM => ?_)
  have hM : matB 2 s m d (a :: t) h now = true := by simpa using hM
  obtain ⟨q1, q2, q3, q4, _⟩ := mat_two rfl hM
  have hN := (rdN_le (a :: t))
  have c0 : okS (t.length + 1) (strs (a :: t)) = true := okS_mk (l := a :: t) h1
  have c1 : ((strs (a :: t)).length.beq ((t.length + 1) * 1) && (strs (a :: t)).all V.one) = true := by rw [strs_len, strs_one, Nat.mul_one, List.length_cons, Nat.beq_refl]; rfl
  have c2 : ((0 + (t.length + 1)).ble 9223372036854775807 && ((0 + (t.length + 1)) * 16).ble 140737488355328) = true := by rw [Nat.ble_eq_true_of_le (by omega), Nat.ble_eq_true_of_le (by omega)]; rfl
  have hK : (if (if 4 > (↑(t.length + 1) : Int) then 4 else (↑(t.length + 1) : Int)) < (↑(0 + (t.length + 1)) : Int) then if 4 > (↑(t.length + 1) : Int) then 4 else (↑(t.length + 1) : Int) else (↑(0 + (t.length + 1)) : Int)) = ((t.length + 1 : Nat) : Int) := by
   split <;> split at * <;> omega
  have k1 : decide (0 ≤ ((t.length + 1 : Nat) : Int)) = true := decide_eq_true (by omega)
  have k2 : (true && (t.length + 1).ble (0 + (t.length + 1))) = true := by rw [Bool.true_and]; exact Nat.ble_eq_true_of_le (by omega)
  have k3 : t.length + 1 - 0 = t.length + 1 := rfl
  have d6 : decide ((↑(rdN (a :: t)) : Int) > 1) = true := decide_eq_true (by omega)
  have d7 : (true && decide (0 < (↑(rdN (a :: t)) : Int))) = true := by rw [Bool.true_and]; exact decide_eq_true (by omega)
  have d8 : (true && Nat.ble 2 (rdN (a :: t))) = true := by rw [Bool.true_and]; exact Nat.ble_eq_true_of_le q1
  have n1 : (dN (rdG (a :: t) 0) * 1).ble (strs (dL (rdG (a :: t) 0))).length = true := by rw [strs_len, Nat.mul_one]; exact Nat.ble_eq_true_of_le (Nat.le_refl _)
  have n2 : List.take (dN (rdG (a :: t) 0) * 1) (strs (dL (rdG (a :: t) 0))) = strs (dL (rdG (a :: t) 0)) := by rw [Nat.mul_one]; exact List.take_of_length_le (by rw [strs_len]; exact Nat.le_refl _)
  have n3 : (strs (dL (rdG (a :: t) 0))).length.beq (dN (rdG (a :: t) 0)) = true := by rw [strs_len]; exact Nat.beq_refl _
  have n4 : (dL (rdG (a :: t) 0)).length.ble 9223372036854775807 = true := Nat.ble_eq_true_of_le (by have := dL_small (rdG (a :: t) 0); omega)
  have full : ∀ (st : St) (b : Nat), st[b]? = some (.row (strs (a :: t)) 9 1) → mvOK (.slice b 0 (t.length + 1) false 0 0) st = true ∧ mvV 2 s m d (.slice b 0 (t.length + 1) false 0 0) h now st = true := fun st b hb => by
   have hv := row_view (n := t.length + 1) (ex := false) (c := 0) (z := 0) hb (by simp)
   rw [List.take_of_length_le (by simp)] at hv
   obtain ⟨q1, q2⟩ := mv_of hv h1
   exact ⟨q1, by rw [q2, hM]⟩
  have T2 := two_view (st := tM5 2 s m d (strs (a :: t)) h g) (b := 3) (n0 := 4) (n1 := 5) (z0 := true) (z1 := true) (A := rdG (a :: t) 0) (B := rdG (a :: t) 1) (T := []) (by unfold tM5; rw [strs_strOf]; rfl) (by unfold tM5; simp only [strs_strOf, shS]; rfl) (by unfold tM5; simp only [strs_strOf, shS]; rfl)
  have T3 := two_view (st := tM3 2 s m d (strs (a :: t)) h g) (b := 3) (n0 := 4) (n1 := 5) (z0 := true) (z1 := true) (A := rdG (a :: t) 0) (B := rdG (a :: t) 1) (T := rdA (rdG (a :: t) 2) 6 []) (by unfold tM3; rw [strs_strOf]; rfl) (by unfold tM3; simp only [strs_strOf, shS]; rfl) (by unfold tM3; simp only [strs_strOf, shS]; rfl)
  have T4 := two_view (st := tM1 2 s m d (strs (a :: t)) h g) (b := 3) (n0 := 4) (n1 := 5) (z0 := true) (z1 := true) (A := rdG (a :: t) 0) (B := rdG (a :: t) 1) (T := rdA (rdG (a :: t) 2) 6 (rdA (rdG (a :: t) 3) 7 [])) (by unfold tM1; rw [strs_strOf]; rfl) (by unfold tM1; simp only [strs_strOf, shS]; rfl) (by unfold tM1; simp only [strs_strOf, shS]; rfl)
  have F2 := full (tM5 2 s m d (strs (a :: t)) h g) 9 rfl
  have F3 := full (tM3 2 s m d (strs (a :: t)) h g) 9 rfl
  have F4 := full (tM1 2 s m d (strs (a :: t)) h g) 9 rfl
  rw [q4] at T2 T3 T4
  simp only [strs_strOf, shS, hK, Int.toNat_natCast, k1, k2, k3, c0, c1, c2, d6, d7, d8, n1, n2, n3, n4, strs_isStr, q2, q3, T2.1, T2.2, T3.1, T3.2, T4.1, T4.2, F2.1, F2.2, F3.1, F3.2, F4.1, F4.2, cond_true, Bool.and_self, Bool.true_and]
  rcases (by omega : rdN (a :: t) = 2 ∨ rdN (a :: t) = 3 ∨ rdN (a :: t) = 4) with hj | hj | hj <;> rw [hj] <;> exact trivial
 ·have e2 : (u != 2) = true := by rw [bne, beq_false_of_ne u2]; rfl
  simp only [e3, e2, mat_else u3 u2, cond_true, cond_false, Bool.not_false]
theorem own_c (u s m : Int) (d : List UInt8) (x : Value) (a : List UInt8) (t : List (List UInt8)) (p : Value) (f : List UInt8) (e : List (List UInt8)) (h g : List UInt8) (now thn : Int) (hs : u8B s = true) (hm : u8B m = true) (h1 : (a :: t).length ≤ 9223372036854775807) (hz : (2 + (f :: e).length) * 16 ≤ 140737488355328) :
  FnSat Tryd.prog 3 [.agg [.int .u8 u, .int .u8 s, .int .u8 m, .str d], .lst x (t.length + 1) (strs (a :: t)), .lst p (e.length + 1) (strs (f :: e)), .str h, .str g, .int .i64 now, .int .i64 thn] [] (fun v _ => v = .bool true) := by
 rw [List.length_cons] at hz
 refine runW_ok (lim := 9) (n := 10) mixed TOQ_ok ?_
 refine cast (to_c longOK longV mvOK mvV rOK linkW u s m d x t.length (strs (a :: t)) p e.length (strs (f :: e)) h g now thn (fun v => v = .bool true)).symm ?_
 have A1 := lg_of (st := tM8 u s m d) (v := .lst x (t.length + 1) (strs (a :: t))) (q := .slice 1 0 1 false 0 0) (l := a :: t) (r := [⟨u, s, m, d⟩]) lst_view rfl h1 (by simp)
 have A3 := lg_of (st := tM6 u s m d (strs (f :: e)) h g) (v := .slice 3 0 (2 + (e.length + 1)) false 0 0) (q := .nilSlice) (l := (h :: g :: f :: e).take (2 + (e.length + 1))) (r := []) (row_view (f := h :: g :: f :: e) rfl (by simp; omega)) rfl (by rw [List.length_take]; omega) (by simp)
 rw [List.take_of_length_le (by simp; omega)] at A3
 have B1 := mv_of (st := []) (v := .lst x (t.length + 1) (strs (a :: t))) (l := a :: t) lst_view h1
 have B2 := mv_of (st := []) (v := .lst (sliceX x 0 1 1) 1 (List.take 1 (strs (a :: t)))) (l := [a]) rfl (by simp)
 have d1 : decide ((↑(t.length + 1) : Int) > 0) = true := decide_eq_true (by omega)
 have d2 : decide (0 < (↑(t.length + 1) : Int)) = true := decide_eq_true (by omega)
 have d3 : Nat.blt 0 (strs (a :: t)).length = true := rfl
 have d4 : isStrV ((strs (a :: t)).getD 0 (V.bool false)) = true := rfl
 have d5 : strOfV ((strs (a :: t)).getD 0 (V.bool false)) = a := rfl
 have m1 : ((strs (f :: e)).length.beq ((e.length + 1) * 1) && (strs (f :: e)).all V.one) = true := by rw [strs_len, strs_one, Nat.mul_one, List.length_cons, Nat.beq_refl]; rfl
 have m2 : ((2 + (e.length + 1)).ble 9223372036854775807 && ((2 + (e.length + 1)) * 16).ble 140737488355328) = true := by rw [Nat.ble_eq_true_of_le (by omega), Nat.ble_eq_true_of_le hz]; rfl
 simp only [A1.1, A1.2, A3.1, A3.2, B1.1, B1.2, B2.1, B2.2, d1, d3, d4, d5, m1, m2, hs, hm, cond_true, Bool.and_self]
 refine bif_intro (fun _ => trivial) (fun hl => ?_)
 refine bif_intro (fun _ => trivial) (fun hl2 => ?_)
 have hsm := longS_small hl
 have hsm2 := longS_small hl2
 simp only [List.length_cons] at hsm hsm2
 by_cases u3 : u = 3
 ·subst u3
  have e3 : ((3 : Int) == 3) = true := rfl
  simp only [mat_three, e3, cond_true, beq_self_eq_true]
 have e3 : (u == 3) = false := beq_false_of_ne u3
 by_cases u2 : u = 2
 ·subst u2
  have e2 : ((2 : Int) != 2) = false := rfl
  simp only [e3, e2, mat_one, cond_false]
  refine bif_intro (fun _ => trivial) (fun hM => ?_)
  have hM : matB 2 s m d (a :: t) h now = true := by simpa using hM
  obtain ⟨q1, q2, q3, q4, _⟩ := mat_two rfl hM
  have hN := (rdN_le (a :: t))
  have c0 : okS (t.length + 1) (strs (a :: t)) = true := okS_mk (l := a :: t) h1
  have c1 : ((strs (a :: t)).length.beq ((t.length + 1) * 1) && (strs (a :: t)).all V.one) = true := by rw [strs_len, strs_one, Nat.mul_one, List.length_cons, Nat.beq_refl]; rfl
  have c1' : (strs (a :: t)).length.beq ((0 + (t.length + 1)) * 1) = true := by rw [strs_len, Nat.mul_one, Nat.zero_add, List.length_cons, Nat.beq_refl]
  have c2 : ((0 + (t.length + 1)).ble 9223372036854775807 && ((0 + (t.length + 1)) * 16).ble 140737488355328) = true := by rw [Nat.ble_eq_true_of_le (by omega), Nat.ble_eq_true_of_le (by omega)]; rfl
  have c3 : ((0 + (t.length + 1) + (e.length + 1)).ble 9223372036854775807 && ((0 + (t.length + 1) + (e.length + 1)) * 16).ble 140737488355328) = true := by rw [Nat.ble_eq_true_of_le (by omega), Nat.ble_eq_true_of_le (by omega)]; rfl
  obtain ⟨K, hK, hK1, hK2⟩ : ∃ K : Nat, (if (if 4 > (↑(t.length + 1) : Int) then 4 else (↑(t.length + 1) : Int)) < (↑(0 + (t.length + 1) + (e.length + 1)) : Int) then if 4 > (↑(t.length + 1) : Int) then 4 else (↑(t.length + 1) : Int) else (↑(0 + (t.length + 1) + (e.length + 1)) : Int)) = (K : Int) ∧ t.length + 1 ≤ K ∧ K ≤ 0 + (t.length + 1) + (e.length + 1) := by
   refine ⟨min (0 + (t.length + 1) + (e.length + 1)) (max (t.length + 1) 4), ?_, by omega, by omega⟩
   repeat' split
   all_goals omega
  have k1 : decide (0 ≤ (K : Int)) = true := decide_eq_true (by omega)
  have k2 : (true && K.ble (0 + (t.length + 1) + (e.length + 1))) = true := by rw [Bool.true_and]; exact Nat.ble_eq_true_of_le hK2
  have k3 : K - 0 = K := rfl
  have d6 : decide ((↑(rdN (a :: t)) : Int) > 1) = true := decide_eq_true (by omega)
  have d7 : (true && decide (0 < (↑(rdN (a :: t)) : Int))) = true := by rw [Bool.true_and]; exact decide_eq_true (by omega)
  have d8 : (true && Nat.ble 2 (rdN (a :: t))) = true := by rw [Bool.true_and]; exact Nat.ble_eq_true_of_le q1
  have n1 : (dN (rdG (a :: t) 0) * 1).ble (strs (dL (rdG (a :: t) 0))).length = true := by rw [strs_len, Nat.mul_one]; exact Nat.ble_eq_true_of_le (Nat.le_refl _)
  have n2 : List.take (dN (rdG (a :: t) 0) * 1) (strs (dL (rdG (a :: t) 0))) = strs (dL (rdG (a :: t) 0)) := by rw [Nat.mul_one]; exact List.take_of_length_le (by rw [strs_len]; exact Nat.le_refl _)
  have n3 : (strs (dL (rdG (a :: t) 0))).length.beq (dN (rdG (a :: t) 0)) = true := by rw [strs_len]; exact Nat.beq_refl _
  have n4 : (dL (rdG (a :: t) 0)).length.ble 9223372036854775807 = true := Nat.ble_eq_true_of_le (by have := dL_small (rdG (a :: t) 0); omega)
  have hcat : strs (a :: t) ++ strs (f :: e) = strs ((a :: t) ++ (f :: e)) := by unfold strs; rw [List.map_append]
  have full : ∀ (st : St) (b : Nat), st[b]? = some (.row (strs (a :: t) ++ strs (f :: e)) 9 1) → mvOK (.slice b 0 K false 0 0) st = true ∧ mvV 2 s m d (.slice b 0 K false 0 0) h now st = true := fun st b hb => by
   rw [hcat] at hb
   have hv := row_view (n := K) (ex := false) (c := 0) (z := 0) hb (by simp; omega)
   have hw : ((a :: t) ++ (f :: e)).take K = (a :: t) ++ (f :: e).take (K - (a :: t).length) := by
    rw [List.take_append, List.take_of_length_le (by simpa using hK1)]
   rw [hw] at hv
   obtain ⟨q1, q2⟩ := mv_of hv (by rw [← hw, List.length_take]; omega)
   exact ⟨q1, by rw [q2, mat_mono _ rfl hM]⟩
  have T2 := two_view (st := tM4 2 s m d (strs (a :: t)) (strs (f :: e)) h g) (b := 4) (n0 := 5) (n1 := 6) (z0 := true) (z1 := true) (A := rdG (a :: t) 0) (B := rdG (a :: t) 1) (T := []) (by unfold tM4; rw [strs_strOf]; rfl) (by unfold tM4; simp only [strs_strOf, shS]; rfl) (by unfold tM4; simp only [strs_strOf, shS]; rfl)
  have T3 := two_view (st := tM2 2 s m d (strs (a :: t)) (strs (f :: e)) h g) (b := 4) (n0 := 5) (n1 := 6) (z0 := true) (z1 := true) (A := rdG (a :: t) 0) (B := rdG (a :: t) 1) (T := rdA (rdG (a :: t) 2) 7 []) (by unfold tM2; rw [strs_strOf]; rfl) (by unfold tM2; simp only [strs_strOf, shS]; rfl) (by unfold tM2; simp only [strs_strOf, shS]; rfl)
  have T4 := two_view (st := tM0 2 s m d (strs (a :: t)) (strs (f :: e)) h g) (b := 4) (n0 := 5) (n1 := 6) (z0 := true) (z1 := true) (A := rdG (a :: t) 0) (B := rdG (a :: t) 1) (T := rdA (rdG (a :: t) 2) 7 (rdA (rdG (a :: t) 3) 8 [])) (by unfold tM0; rw [strs_strOf]; rfl) (by unfold tM0; simp only [strs_strOf, shS]; rfl) (by unfold tM0; simp only [strs_strOf, shS]; rfl)
  have F2 := full (tM4 2 s m d (strs (a :: t)) (strs (f :: e)) h g) 11 rfl
  have F3 := full (tM2 2 s m d (strs (a :: t)) (strs (f :: e)) h g) 11 rfl
  have F4 := full (tM0 2 s m d (strs (a :: t)) (strs (f :: e)) h g) 11 rfl
  rw [q4] at T2 T3 T4
  simp only [strs_strOf, shS, hK, Int.toNat_natCast, k1, k2, k3, c0, c1, c1', c2, c3, d6, d7, d8, n1, n2, n3, n4, strs_isStr, q2, q3, T2.1, T2.2, T3.1, T3.2, T4.1, T4.2, F2.1, F2.2, F3.1, F3.2, F4.1, F4.2, cond_true, Bool.and_self, Bool.true_and]
  rcases (by omega : rdN (a :: t) = 2 ∨ rdN (a :: t) = 3 ∨ rdN (a :: t) = 4) with hj | hj | hj <;> rw [hj] <;> exact trivial
 ·have e2 : (u != 2) = true := by rw [bne, beq_false_of_ne u2]; rfl
  simp only [e3, e2, mat_else u3 u2, cond_true, cond_false, Bool.not_false]
theorem u8_wf {n : Int} (h : (Lit.int .u8 n).wf = true) : u8B n = true := by
 have h1 : IntKind.u8.min ≤ n ∧ n ≤ IntKind.u8.max := by simpa [Lit.wf] using h
 have h2 : IntKind.u8.min = 0 := by decide
 have h3 : IntKind.u8.max = 255 := by decide
 rw [h2, h3] at h1
 unfold u8B
 simp only [Bool.and_eq_true, decide_eq_true_eq]
 omega
theorem own_close (u s m : Int) (d : List UInt8) (x : Value) (l : List (List UInt8)) (p : Value) (e : List (List UInt8)) (h g : List UInt8) (now thn : Int) (hs : (Lit.int .u8 s).wf = true) (hm : (Lit.int .u8 m).wf = true) (h1 : l.length ≤ 9223372036854775807) (h2 : e.length ≤ 9223372036854775807) (hz : e.length * 16 ≤ 140737488351232) :
  FnSat Tryd.prog 3 [.agg [.int .u8 u, .int .u8 s, .int .u8 m, .str d], lstS x l, lstS p e, .str h, .str g, .int .i64 now, .int .i64 thn] [] (fun v _ => v = .bool true) := by
 cases l with
 | nil => exact own_nil u s m d x p e h g now thn (u8_wf hs) (u8_wf hm) h2 (by omega)
 | cons a t =>
  cases e with
  | nil => exact own_b u s m d x a t p h g now thn (u8_wf hs) (u8_wf hm) h1
  | cons f e => exact own_c u s m d x a t p f e h g now thn (u8_wf hs) (u8_wf hm) h1 (by omega)
end Go.Proofs.YthcoeoibejgaiaaDoor
