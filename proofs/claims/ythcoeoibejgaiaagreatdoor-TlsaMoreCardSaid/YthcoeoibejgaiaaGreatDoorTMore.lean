/- TlsaMore: what it comes to. -/
import Derived.Test.YthcoeoibejgaiaaGreatDoorAnyV
import Derived.Test.YthcoeoibejgaiaaGreatDoorLong16
import Derived.Test.YthcoeoibejgaiaaGreatDoorAwake
import Derived.Test.YthcoeoibejgaiaaGreatDoorTlU
namespace Go.Proofs.YthcoeoibejgaiaaGreatDoor
open Go Go.Vm Go.RowKit
set_option linter.unusedVariables false
set_option maxRecDepth 100000
set_option linter.unusedSectionVars false
variable [Φ : Frz]
def mM0 (u s m : Int) (d h : List UInt8) (cs : List V) : St := [Blk.row [V.int IntKind.u8 u, V.int IntKind.u8 s, V.int IntKind.u8 m, V.str d] 24 4, Blk.row [V.str h] 9 1, Blk.row [V.int IntKind.u8 u, V.int IntKind.u8 s, V.int IntKind.u8 m, V.str (d)] 24 4, Blk.row (shiftL 3 (tls (goodQ (usaL cs)) ++ zerosQ (usaL cs))) 24 4, Blk.dead, Blk.row [V.int IntKind.u8 u, V.int IntKind.u8 s, V.int IntKind.u8 m, V.str (d)] 24 4, Blk.row [V.int IntKind.u8 u, V.int IntKind.u8 s, V.int IntKind.u8 m, V.str (d)] 24 4, Blk.row (shiftL 7 (tls (goodQ (usaL cs)) ++ zerosQ (usaL cs))) 24 4]
def mM1 (u s m : Int) (d h : List UInt8) (cs : List V) : St := [Blk.row [V.int IntKind.u8 u, V.int IntKind.u8 s, V.int IntKind.u8 m, V.str d] 24 4, Blk.row [V.str h] 9 1, Blk.row [V.int IntKind.u8 u, V.int IntKind.u8 s, V.int IntKind.u8 m, V.str (d)] 24 4, Blk.row (shiftL 3 (tls (goodQ (usaL cs)) ++ zerosQ (usaL cs))) 24 4, Blk.dead, Blk.dead, Blk.row [V.int IntKind.u8 u, V.int IntKind.u8 s, V.int IntKind.u8 m, V.str (d)] 24 4, Blk.row (cs ++ [V.int IntKind.u8 u, V.int IntKind.u8 s, V.int IntKind.u8 m, V.str (d)]) 24 4, Blk.row (shiftL 8 (tls (goodQ (usaL cs)) ++ zerosQ (usaL cs))) 24 4]
def mM2 (u s m : Int) (d h : List UInt8) (cs : List V) : St := [Blk.row [V.int IntKind.u8 u, V.int IntKind.u8 s, V.int IntKind.u8 m, V.str d] 24 4, Blk.row [V.str h] 9 1, Blk.row [V.int IntKind.u8 u, V.int IntKind.u8 s, V.int IntKind.u8 m, V.str (d)] 24 4, Blk.dead, Blk.row [V.int IntKind.u8 u, V.int IntKind.u8 s, V.int IntKind.u8 m, V.str (d)] 24 4, Blk.row [V.int IntKind.u8 u, V.int IntKind.u8 s, V.int IntKind.u8 m, V.str (d)] 24 4, Blk.row (shiftL 6 (tls (goodQ (usaL cs)) ++ zerosQ (usaL cs))) 24 4]
def mM3 (u s m : Int) (d h : List UInt8) (cs : List V) : St := [Blk.row [V.int IntKind.u8 u, V.int IntKind.u8 s, V.int IntKind.u8 m, V.str d] 24 4, Blk.row [V.str h] 9 1, Blk.row [V.int IntKind.u8 u, V.int IntKind.u8 s, V.int IntKind.u8 m, V.str (d)] 24 4, Blk.dead, Blk.dead, Blk.row [V.int IntKind.u8 u, V.int IntKind.u8 s, V.int IntKind.u8 m, V.str (d)] 24 4, Blk.row (cs ++ [V.int IntKind.u8 u, V.int IntKind.u8 s, V.int IntKind.u8 m, V.str (d)]) 24 4, Blk.row (shiftL 7 (tls (goodQ (usaL cs)) ++ zerosQ (usaL cs))) 24 4]
def mM4 (u s m : Int) (d h : List UInt8) (cs : List V) : St := [Blk.ro false [V.int IntKind.u8 u, V.int IntKind.u8 s, V.int IntKind.u8 m, V.str d], Blk.ro false [V.str h], Blk.ro false [V.int IntKind.u8 u, V.int IntKind.u8 s, V.int IntKind.u8 m, V.str (d)], Blk.ro false (shiftL 3 (tls (goodQ (usaL cs)) ++ zerosQ (usaL cs))), Blk.dead, Blk.ro false [V.int IntKind.u8 u, V.int IntKind.u8 s, V.int IntKind.u8 m, V.str (d)], Blk.ro false [V.int IntKind.u8 u, V.int IntKind.u8 s, V.int IntKind.u8 m, V.str (d)]]
def mM5 (u s m : Int) (d h : List UInt8) (cs : List V) : St := [Blk.ro false [V.int IntKind.u8 u, V.int IntKind.u8 s, V.int IntKind.u8 m, V.str d], Blk.ro false [V.str h], Blk.ro false [V.int IntKind.u8 u, V.int IntKind.u8 s, V.int IntKind.u8 m, V.str (d)], Blk.ro false (shiftL 3 (tls (goodQ (usaL cs)) ++ zerosQ (usaL cs))), Blk.dead, Blk.dead, Blk.ro false [V.int IntKind.u8 u, V.int IntKind.u8 s, V.int IntKind.u8 m, V.str (d)], Blk.ro false (cs ++ [V.int IntKind.u8 u, V.int IntKind.u8 s, V.int IntKind.u8 m, V.str (d)])]
def mM6 (u s m : Int) (d h : List UInt8) (cs : List V) : St := [Blk.ro false [V.int IntKind.u8 u, V.int IntKind.u8 s, V.int IntKind.u8 m, V.str d], Blk.ro false [V.str h], Blk.ro false [V.int IntKind.u8 u, V.int IntKind.u8 s, V.int IntKind.u8 m, V.str (d)], Blk.dead, Blk.ro false [V.int IntKind.u8 u, V.int IntKind.u8 s, V.int IntKind.u8 m, V.str (d)], Blk.ro false [V.int IntKind.u8 u, V.int IntKind.u8 s, V.int IntKind.u8 m, V.str (d)]]
def mM7 (u s m : Int) (d h : List UInt8) (cs : List V) : St := [Blk.ro false [V.int IntKind.u8 u, V.int IntKind.u8 s, V.int IntKind.u8 m, V.str d], Blk.ro false [V.str h], Blk.ro false [V.int IntKind.u8 u, V.int IntKind.u8 s, V.int IntKind.u8 m, V.str (d)], Blk.dead, Blk.dead, Blk.ro false [V.int IntKind.u8 u, V.int IntKind.u8 s, V.int IntKind.u8 m, V.str (d)], Blk.ro false (cs ++ [V.int IntKind.u8 u, V.int IntKind.u8 s, V.int IntKind.u8 m, V.str (d)])]
noncomputable def TMT (LOK LB : V → V → St → Bool) (OK : V → V → St → Bool) (AV : V → V → List UInt8 → Int → St → Bool) : Tab := ⟨addT (addT (addP (addP noT 8 awakeF) 14 usP) 13 usaT) 9 matT, addS (addS noL 7 (longGV LOK LB)) 11 (anyGV OK AV), noLks 9⟩
theorem TMT_ok : TabOk3 Tryz.prog (TMT longOK longV yOK yV) := ⟨addT_ok (addT_ok (addP_ok (addP_ok noT_ok awakeF_ok) us_ok) usa_ok) mat_ok, addS_ok (addS_ok noL_ok longG_ok) anyGV_ok, noLks_ok 9⟩
theorem tm_law (LOK LB : V → V → St → Bool) (OK : V → V → St → Bool) (AV : V → V → List UInt8 → Int → St → Bool) (x : Value) (n : Nat) (cs : List V) (u s m : Int) (d : List UInt8) (p : Value) (k : Nat) (ds : List V) (h : List UInt8) (now : Int) (R : V → Prop) : runW Tryz.prog (TMT LOK LB OK AV) 9 10 4 [.lst x n cs, .agg [.int .u8 u, .int .u8 s, .int .u8 m, .str d], .lst p k ds, .str h, .int .i64 now] R =
  (
 bif LOK (V.lst p k ds) (V.lst x n cs) [] then bif LB (V.lst p k ds) (V.lst x n cs) [] then R (V.bool true) else bif LOK (V.slice 1 0 1 false 0 0) (V.slice 2 0 1 false 0
 0) [Blk.row [V.int IntKind.u8 u, V.int IntKind.u8 s, V.int IntKind.u8 m, V.str d] 24 4, Blk.row [V.str h] 9 1, Blk.row [V.int IntKind.u8 u, V.int IntKind.u8 s, V.int
 IntKind.u8 m, V.str (d)] 24 4] then bif LB (V.slice 1 0 1 false 0 0) (V.slice 2 0 1 false 0 0) [Blk.row [V.int IntKind.u8 u, V.int IntKind.u8 s, V.int IntKind.u8 m, V.str
 d] 24 4, Blk.row [V.str h] 9 1, Blk.row [V.int IntKind.u8 u, V.int IntKind.u8 s, V.int IntKind.u8 m, V.str (d)] 24 4] then R (V.bool true) else bif OK (V.lst x n cs)
 (V.lst p k ds) [] then bif AV (V.lst x n cs) (V.lst p k ds) h now [] then bif okT n cs && nilX (sliceX x 0 (k4 n) 4) then R (V.bool false) else bif okT n cs then bif
 (↑(goodQ (usaL cs)).length : Int) == 0 then R (V.bool false) else bif decide ((↑n : Int) ≥ 4) then bif n.beq 0 then bif n.beq 0 then bif OK (V.slice 6 0 1 false 0 0)
 (V.lst p k ds) (mM4 u s m d h cs) then bif AV (V.lst x n cs) (V.lst p k ds) h now [] then R (V.bool (AV (V.slice 6 0 1 false 0 0) (V.lst p k ds) h now (mM4 u s m d h cs)
 == true)) else bif decide ((↑n : Int) < 4) then bif okS k ds && (u8B s && u8B m) then R (V.bool (AV (V.slice 6 0 1 false 0 0) (V.lst p k ds) h now (mM4 u s m d h cs) ==
 matB u s m (d) (List.map strOfV ds) h now)) else False else R (V.bool (AV (V.slice 6 0 1 false 0 0) (V.lst p k ds) h now (mM4 u s m d h cs) == false)) else False else
 False else bif cs.length.beq (n * 4) && cs.all V.one then bif (0 + n).ble 9223372036854775807 && ((0 + n) * 24).ble 140737488355328 then bif flatL cs && true then bif
 cs.length.beq ((0 + n) * 4) then bif (0 + n + 1).ble 9223372036854775807 && ((0 + n + 1) * 24).ble 140737488355328 then bif flatL (cs ++ [V.int IntKind.u8 u, V.int
 IntKind.u8 s, V.int IntKind.u8 m, V.str (d)]) && true then bif OK (V.slice 7 0 (0 + n + 1) false 0 0) (V.lst p k ds) (mM5 u s m d h cs) then bif AV (V.lst x n cs) (V.lst
 p k ds) h now [] then R (V.bool (AV (V.slice 7 0 (0 + n + 1) false 0 0) (V.lst p k ds) h now (mM5 u s m d h cs) == true)) else bif decide ((↑n : Int) < 4) then bif okS k
 ds && (u8B s && u8B m) then R (V.bool (AV (V.slice 7 0 (0 + n + 1) false 0 0) (V.lst p k ds) h now (mM5 u s m d h cs) == matB u s m (d) (List.map strOfV ds) h now)) else
 False else R (V.bool (AV (V.slice 7 0 (0 + n + 1) false 0 0) (V.lst p k ds) h now (mM5 u s m d h cs) == false)) else False else False else False else False else False
 else False else False else bif n.beq 0 then bif n.beq 0 then bif OK (V.slice 6 0 1 false 0 0) (V.lst p k ds) (mM4 u s m d h cs) then bif AV (V.lst x n cs) (V.lst p k ds)
 h now [] then bif AV (V.slice 6 0 1 false 0 0) (V.lst p k ds) h now (mM4 u s m d h cs) == true then bif usB u s m (d) then bif okT n cs && nilX (sliceX x 0 (k4 n) 4) then
 bif OK V.nilSlice (V.lst p k ds) [] then R (V.bool (AV V.nilSlice (V.lst p k ds) h now [] == AV (V.lst x n cs) (V.lst p k ds) h now [])) else False else bif okT n cs then
 bif OK (V.slice 7 0 (goodQ (usaL cs)).length false 0 0) (V.lst p k ds) (mM0 u s m d h cs) then R (V.bool (AV (V.slice 7 0 (goodQ (usaL cs)).length false 0 0) (V.lst p k
 ds) h now (mM0 u s m d h cs) == AV (V.lst x n cs) (V.lst p k ds) h now [])) else False else False else bif okS k ds && (u8B s && u8B m) then bif !matB u s m (d) (List.map
 strOfV ds) h now then bif okT n cs && nilX (sliceX x 0 (k4 n) 4) then bif OK V.nilSlice (V.lst p k ds) [] then R (V.bool (AV V.nilSlice (V.lst p k ds) h now [] == AV
 (V.lst x n cs) (V.lst p k ds) h now [])) else False else bif okT n cs then bif OK (V.slice 7 0 (goodQ (usaL cs)).length false 0 0) (V.lst p k ds) (mM0 u s m d h cs) then
 R (V.bool (AV (V.slice 7 0 (goodQ (usaL cs)).length false 0 0) (V.lst p k ds) h now (mM0 u s m d h cs) == AV (V.lst x n cs) (V.lst p k ds) h now [])) else False else
 False else R (V.bool false) else False else R (V.bool false) else bif usB u s m (d) then bif okS k ds && (u8B s && u8B m) then bif AV (V.slice 6 0 1 false 0 0) (V.lst p k
 ds) h now (mM4 u s m d h cs) == matB u s m (d) (List.map strOfV ds) h now then bif usB u s m (d) then bif okT n cs && nilX (sliceX x 0 (k4 n) 4) then bif OK V.nilSlice
 (V.lst p k ds) [] then R (V.bool (AV V.nilSlice (V.lst p k ds) h now [] == AV (V.lst x n cs) (V.lst p k ds) h now [])) else False else bif okT n cs then bif OK (V.slice 7
 0 (goodQ (usaL cs)).length false 0 0) (V.lst p k ds) (mM0 u s m d h cs) then R (V.bool (AV (V.slice 7 0 (goodQ (usaL cs)).length false 0 0) (V.lst p k ds) h now (mM0 u s
 m d h cs) == AV (V.lst x n cs) (V.lst p k ds) h now [])) else False else False else bif okS k ds && (u8B s && u8B m) then bif !matB u s m (d) (List.map strOfV ds) h now
 then bif okT n cs && nilX (sliceX x 0 (k4 n) 4) then bif OK V.nilSlice (V.lst p k ds) [] then R (V.bool (AV V.nilSlice (V.lst p k ds) h now [] == AV (V.lst x n cs) (V.lst
 p k ds) h now [])) else False else bif okT n cs then bif OK (V.slice 7 0 (goodQ (usaL cs)).length false 0 0) (V.lst p k ds) (mM0 u s m d h cs) then R (V.bool (AV (V.slice
 7 0 (goodQ (usaL cs)).length false 0 0) (V.lst p k ds) h now (mM0 u s m d h cs) == AV (V.lst x n cs) (V.lst p k ds) h now [])) else False else False else R (V.bool false)
 else False else R (V.bool false) else False else bif AV (V.slice 6 0 1 false 0 0) (V.lst p k ds) h now (mM4 u s m d h cs) == false then bif usB u s m (d) then bif okT n
 cs && nilX (sliceX x 0 (k4 n) 4) then bif OK V.nilSlice (V.lst p k ds) [] then R (V.bool (AV V.nilSlice (V.lst p k ds) h now [] == AV (V.lst x n cs) (V.lst p k ds) h now
 [])) else False else bif okT n cs then bif OK (V.slice 7 0 (goodQ (usaL cs)).length false 0 0) (V.lst p k ds) (mM0 u s m d h cs) then R (V.bool (AV (V.slice 7 0 (goodQ
 (usaL cs)).length false 0 0) (V.lst p k ds) h now (mM0 u s m d h cs) == AV (V.lst x n cs) (V.lst p k ds) h now [])) else False else False else bif okS k ds && (u8B s &&
 u8B m) then bif !matB u s m (d) (List.map strOfV ds) h now then bif okT n cs && nilX (sliceX x 0 (k4 n) 4) then bif OK V.nilSlice (V.lst p k ds) [] then R (V.bool (AV
 V.nilSlice (V.lst p k ds) h now [] == AV (V.lst x n cs) (V.lst p k ds) h now [])) else False else bif okT n cs then bif OK (V.slice 7 0 (goodQ (usaL cs)).length false 0
 0) (V.lst p k ds) (mM0 u s m d h cs) then R (V.bool (AV (V.slice 7 0 (goodQ (usaL cs)).length false 0 0) (V.lst p k ds) h now (mM0 u s m d h cs) == AV (V.lst x n cs)
 (V.lst p k ds) h now [])) else False else False else R (V.bool false) else False else R (V.bool false) else False else False else bif cs.length.beq (n * 4) && cs.all
 V.one then bif (0 + n).ble 9223372036854775807 && ((0 + n) * 24).ble 140737488355328 then bif flatL cs && true then bif cs.length.beq ((0 + n) * 4) then bif (0 + n +
 1).ble 9223372036854775807 && ((0 + n + 1) * 24).ble 140737488355328 then bif flatL (cs ++ [V.int IntKind.u8 u, V.int IntKind.u8 s, V.int IntKind.u8 m, V.str (d)]) &&
 true then bif OK (V.slice 7 0 (0 + n + 1) false 0 0) (V.lst p k ds) (mM5 u s m d h cs) then bif AV (V.lst x n cs) (V.lst p k ds) h now [] then bif AV (V.slice 7 0 (0 + n
 + 1) false 0 0) (V.lst p k ds) h now (mM5 u s m d h cs) == true then bif usB u s m (d) then bif okT n cs && nilX (sliceX x 0 (k4 n) 4) then bif OK V.nilSlice (V.lst p k
 ds) [] then R (V.bool (AV V.nilSlice (V.lst p k ds) h now [] == AV (V.lst x n cs) (V.lst p k ds) h now [])) else False else bif okT n cs then bif OK (V.slice 8 0 (goodQ
 (usaL cs)).length false 0 0) (V.lst p k ds) (mM1 u s m d h cs) then R (V.bool (AV (V.slice 8 0 (goodQ (usaL cs)).length false 0 0) (V.lst p k ds) h now (mM1 u s m d h cs)
 == AV (V.lst x n cs) (V.lst p k ds) h now [])) else False else False else bif okS k ds && (u8B s && u8B m) then bif !matB u s m (d) (List.map strOfV ds) h now then bif
 okT n cs && nilX (sliceX x 0 (k4 n) 4) then bif OK V.nilSlice (V.lst p k ds) [] then R (V.bool (AV V.nilSlice (V.lst p k ds) h now [] == AV (V.lst x n cs) (V.lst p k ds)
 h now [])) else False else bif okT n cs then bif OK (V.slice 8 0 (goodQ (usaL cs)).length false 0 0) (V.lst p k ds) (mM1 u s m d h cs) then R (V.bool (AV (V.slice 8 0
 (goodQ (usaL cs)).length false 0 0) (V.lst p k ds) h now (mM1 u s m d h cs) == AV (V.lst x n cs) (V.lst p k ds) h now [])) else False else False else R (V.bool false)
 else False else R (V.bool false) else bif usB u s m (d) then bif okS k ds && (u8B s && u8B m) then bif AV (V.slice 7 0 (0 + n + 1) false 0 0) (V.lst p k ds) h now (mM5 u
 s m d h cs) == matB u s m (d) (List.map strOfV ds) h now then bif usB u s m (d) then bif okT n cs && nilX (sliceX x 0 (k4 n) 4) then bif OK V.nilSlice (V.lst p k ds) []
 then R (V.bool (AV V.nilSlice (V.lst p k ds) h now [] == AV (V.lst x n cs) (V.lst p k ds) h now [])) else False else bif okT n cs then bif OK (V.slice 8 0 (goodQ (usaL
 cs)).length false 0 0) (V.lst p k ds) (mM1 u s m d h cs) then R (V.bool (AV (V.slice 8 0 (goodQ (usaL cs)).length false 0 0) (V.lst p k ds) h now (mM1 u s m d h cs) == AV
 (V.lst x n cs) (V.lst p k ds) h now [])) else False else False else bif okS k ds && (u8B s && u8B m) then bif !matB u s m (d) (List.map strOfV ds) h now then bif okT n cs
 && nilX (sliceX x 0 (k4 n) 4) then bif OK V.nilSlice (V.lst p k ds) [] then R (V.bool (AV V.nilSlice (V.lst p k ds) h now [] == AV (V.lst x n cs) (V.lst p k ds) h now
 [])) else False else bif okT n cs then bif OK (V.slice 8 0 (goodQ (usaL cs)).length false 0 0) (V.lst p k ds) (mM1 u s m d h cs) then R (V.bool (AV (V.slice 8 0 (goodQ
 (usaL cs)).length false 0 0) (V.lst p k ds) h now (mM1 u s m d h cs) == AV (V.lst x n cs) (V.lst p k ds) h now [])) else False else False else R (V.bool false) else False
 else R (V.bool false) else False else bif AV (V.slice 7 0 (0 + n + 1) false 0 0) (V.lst p k ds) h now (mM5 u s m d h cs) == false then bif usB u s m (d) then bif okT n cs
 && nilX (sliceX x 0 (k4 n) 4) then bif OK V.nilSlice (V.lst p k ds) [] then R (V.bool (AV V.nilSlice (V.lst p k ds) h now [] == AV (V.lst x n cs) (V.lst p k ds) h now
 [])) else False else bif okT n cs then bif OK (V.slice 8 0 (goodQ (usaL cs)).length false 0 0) (V.lst p k ds) (mM1 u s m d h cs) then R (V.bool (AV (V.slice 8 0 (goodQ
 (usaL cs)).length false 0 0) (V.lst p k ds) h now (mM1 u s m d h cs) == AV (V.lst x n cs) (V.lst p k ds) h now [])) else False else False else bif okS k ds && (u8B s &&
 u8B m) then bif !matB u s m (d) (List.map strOfV ds) h now then bif okT n cs && nilX (sliceX x 0 (k4 n) 4) then bif OK V.nilSlice (V.lst p k ds) [] then R (V.bool (AV
 V.nilSlice (V.lst p k ds) h now [] == AV (V.lst x n cs) (V.lst p k ds) h now [])) else False else bif okT n cs then bif OK (V.slice 8 0 (goodQ (usaL cs)).length false 0
 0) (V.lst p k ds) (mM1 u s m d h cs) then R (V.bool (AV (V.slice 8 0 (goodQ (usaL cs)).length false 0 0) (V.lst p k ds) h now (mM1 u s m d h cs) == AV (V.lst x n cs)
 (V.lst p k ds) h now [])) else False else False else R (V.bool false) else False else R (V.bool false) else False else False else False else False else False else False
 else False else False else bif decide ((↑n : Int) ≥ 4) then bif n.beq 0 then bif n.beq 0 then bif OK (V.slice 5 0 1 false 0 0) (V.lst p k ds) (mM6 u s m d h cs) then bif
 AV (V.lst x n cs) (V.lst p k ds) h now [] then R (V.bool (AV (V.slice 5 0 1 false 0 0) (V.lst p k ds) h now (mM6 u s m d h cs) == true)) else bif decide ((↑n : Int) < 4)
 then bif okS k ds && (u8B s && u8B m) then R (V.bool (AV (V.slice 5 0 1 false 0 0) (V.lst p k ds) h now (mM6 u s m d h cs) == matB u s m (d) (List.map strOfV ds) h now))
 else False else R (V.bool (AV (V.slice 5 0 1 false 0 0) (V.lst p k ds) h now (mM6 u s m d h cs) == false)) else False else False else bif cs.length.beq (n * 4) && cs.all
 V.one then bif (0 + n).ble 9223372036854775807 && ((0 + n) * 24).ble 140737488355328 then bif flatL cs && true then bif cs.length.beq ((0 + n) * 4) then bif (0 + n +
 1).ble 9223372036854775807 && ((0 + n + 1) * 24).ble 140737488355328 then bif flatL (cs ++ [V.int IntKind.u8 u, V.int IntKind.u8 s, V.int IntKind.u8 m, V.str (d)]) &&
 true then bif OK (V.slice 6 0 (0 + n + 1) false 0 0) (V.lst p k ds) (mM7 u s m d h cs) then bif AV (V.lst x n cs) (V.lst p k ds) h now [] then R (V.bool (AV (V.slice 6 0
 (0 + n + 1) false 0 0) (V.lst p k ds) h now (mM7 u s m d h cs) == true)) else bif decide ((↑n : Int) < 4) then bif okS k ds && (u8B s && u8B m) then R (V.bool (AV
 (V.slice 6 0 (0 + n + 1) false 0 0) (V.lst p k ds) h now (mM7 u s m d h cs) == matB u s m (d) (List.map strOfV ds) h now)) else False else R (V.bool (AV (V.slice 6 0 (0 +
 n + 1) false 0 0) (V.lst p k ds) h now (mM7 u s m d h cs) == false)) else False else False else False else False else False else False else False else bif n.beq 0 then
 bif n.beq 0 then bif OK (V.slice 5 0 1 false 0 0) (V.lst p k ds) (mM6 u s m d h cs) then bif AV (V.lst x n cs) (V.lst p k ds) h now [] then bif AV (V.slice 5 0 1 false 0
 0) (V.lst p k ds) h now (mM6 u s m d h cs) == true then bif usB u s m (d) then bif okT n cs && nilX (sliceX x 0 (k4 n) 4) then bif OK V.nilSlice (V.lst p k ds) [] then R
 (V.bool (AV V.nilSlice (V.lst p k ds) h now [] == AV (V.lst x n cs) (V.lst p k ds) h now [])) else False else bif okT n cs then bif OK (V.slice 6 0 (goodQ (usaL
 cs)).length false 0 0) (V.lst p k ds) (mM2 u s m d h cs) then R (V.bool (AV (V.slice 6 0 (goodQ (usaL cs)).length false 0 0) (V.lst p k ds) h now (mM2 u s m d h cs) == AV
 (V.lst x n cs) (V.lst p k ds) h now [])) else False else False else bif okS k ds && (u8B s && u8B m) then bif !matB u s m (d) (List.map strOfV ds) h now then bif okT n cs
 && nilX (sliceX x 0 (k4 n) 4) then bif OK V.nilSlice (V.lst p k ds) [] then R (V.bool (AV V.nilSlice (V.lst p k ds) h now [] == AV (V.lst x n cs) (V.lst p k ds) h now
 [])) else False else bif okT n cs then bif OK (V.slice 6 0 (goodQ (usaL cs)).length false 0 0) (V.lst p k ds) (mM2 u s m d h cs) then R (V.bool (AV (V.slice 6 0 (goodQ
 (usaL cs)).length false 0 0) (V.lst p k ds) h now (mM2 u s m d h cs) == AV (V.lst x n cs) (V.lst p k ds) h now [])) else False else False else R (V.bool false) else False
 else R (V.bool false) else bif usB u s m (d) then bif okS k ds && (u8B s && u8B m) then bif AV (V.slice 5 0 1 false 0 0) (V.lst p k ds) h now (mM6 u s m d h cs) == matB u
 s m (d) (List.map strOfV ds) h now then bif usB u s m (d) then bif okT n cs && nilX (sliceX x 0 (k4 n) 4) then bif OK V.nilSlice (V.lst p k ds) [] then R (V.bool (AV
 V.nilSlice (V.lst p k ds) h now [] == AV (V.lst x n cs) (V.lst p k ds) h now [])) else False else bif okT n cs then bif OK (V.slice 6 0 (goodQ (usaL cs)).length false 0
 0) (V.lst p k ds) (mM2 u s m d h cs) then R (V.bool (AV (V.slice 6 0 (goodQ (usaL cs)).length false 0 0) (V.lst p k ds) h now (mM2 u s m d h cs) == AV (V.lst x n cs)
 (V.lst p k ds) h now [])) else False else False else bif okS k ds && (u8B s && u8B m) then bif !matB u s m (d) (List.map strOfV ds) h now then bif okT n cs && nilX
 (sliceX x 0 (k4 n) 4) then bif OK V.nilSlice (V.lst p k ds) [] then R (V.bool (AV V.nilSlice (V.lst p k ds) h now [] == AV (V.lst x n cs) (V.lst p k ds) h now [])) else
 False else bif okT n cs then bif OK (V.slice 6 0 (goodQ (usaL cs)).length false 0 0) (V.lst p k ds) (mM2 u s m d h cs) then R (V.bool (AV (V.slice 6 0 (goodQ (usaL
 cs)).length false 0 0) (V.lst p k ds) h now (mM2 u s m d h cs) == AV (V.lst x n cs) (V.lst p k ds) h now [])) else False else False else R (V.bool false) else False else
 R (V.bool false) else False else bif AV (V.slice 5 0 1 false 0 0) (V.lst p k ds) h now (mM6 u s m d h cs) == false then bif usB u s m (d) then bif okT n cs && nilX
 (sliceX x 0 (k4 n) 4) then bif OK V.nilSlice (V.lst p k ds) [] then R (V.bool (AV V.nilSlice (V.lst p k ds) h now [] == AV (V.lst x n cs) (V.lst p k ds) h now [])) else
 False else bif okT n cs then bif OK (V.slice 6 0 (goodQ (usaL cs)).length false 0 0) (V.lst p k ds) (mM2 u s m d h cs) then R (V.bool (AV (V.slice 6 0 (goodQ (usaL
 cs)).length false 0 0) (V.lst p k ds) h now (mM2 u s m d h cs) == AV (V.lst x n cs) (V.lst p k ds) h now [])) else False else False else bif okS k ds && (u8B s && u8B m)
 then bif !matB u s m (d) (List.map strOfV ds) h now then bif okT n cs && nilX (sliceX x 0 (k4 n) 4) then bif OK V.nilSlice (V.lst p k ds) [] then R (V.bool (AV V.nilSlice
 (V.lst p k ds) h now [] == AV (V.lst x n cs) (V.lst p k ds) h now [])) else False else bif okT n cs then bif OK (V.slice 6 0 (goodQ (usaL cs)).length false 0 0) (V.lst p
 k ds) (mM2 u s m d h cs) then R (V.bool (AV (V.slice 6 0 (goodQ (usaL cs)).length false 0 0) (V.lst p k ds) h now (mM2 u s m d h cs) == AV (V.lst x n cs) (V.lst p k ds) h
 now [])) else False else False else R (V.bool false) else False else R (V.bool false) else False else False else bif cs.length.beq (n * 4) && cs.all V.one then bif (0 +
 n).ble 9223372036854775807 && ((0 + n) * 24).ble 140737488355328 then bif flatL cs && true then bif cs.length.beq ((0 + n) * 4) then bif (0 + n + 1).ble
 9223372036854775807 && ((0 + n + 1) * 24).ble 140737488355328 then bif flatL (cs ++ [V.int IntKind.u8 u, V.int IntKind.u8 s, V.int IntKind.u8 m, V.str (d)]) && true then
 bif OK (V.slice 6 0 (0 + n + 1) false 0 0) (V.lst p k ds) (mM7 u s m d h cs) then bif AV (V.lst x n cs) (V.lst p k ds) h now [] then bif AV (V.slice 6 0 (0 + n + 1) false
 0 0) (V.lst p k ds) h now (mM7 u s m d h cs) == true then bif usB u s m (d) then bif okT n cs && nilX (sliceX x 0 (k4 n) 4) then bif OK V.nilSlice (V.lst p k ds) [] then
 R (V.bool (AV V.nilSlice (V.lst p k ds) h now [] == AV (V.lst x n cs) (V.lst p k ds) h now [])) else False else bif okT n cs then bif OK (V.slice 7 0 (goodQ (usaL
 cs)).length false 0 0) (V.lst p k ds) (mM3 u s m d h cs) then R (V.bool (AV (V.slice 7 0 (goodQ (usaL cs)).length false 0 0) (V.lst p k ds) h now (mM3 u s m d h cs) == AV
 (V.lst x n cs) (V.lst p k ds) h now [])) else False else False else bif okS k ds && (u8B s && u8B m) then bif !matB u s m (d) (List.map strOfV ds) h now then bif okT n cs
 && nilX (sliceX x 0 (k4 n) 4) then bif OK V.nilSlice (V.lst p k ds) [] then R (V.bool (AV V.nilSlice (V.lst p k ds) h now [] == AV (V.lst x n cs) (V.lst p k ds) h now
 [])) else False else bif okT n cs then bif OK (V.slice 7 0 (goodQ (usaL cs)).length false 0 0) (V.lst p k ds) (mM3 u s m d h cs) then R (V.bool (AV (V.slice 7 0 (goodQ
 (usaL cs)).length false 0 0) (V.lst p k ds) h now (mM3 u s m d h cs) == AV (V.lst x n cs) (V.lst p k ds) h now [])) else False else False else R (V.bool false) else False
 else R (V.bool false) else bif usB u s m (d) then bif okS k ds && (u8B s && u8B m) then bif AV (V.slice 6 0 (0 + n + 1) false 0 0) (V.lst p k ds) h now (mM7 u s m d h cs)
 == matB u s m (d) (List.map strOfV ds) h now then bif usB u s m (d) then bif okT n cs && nilX (sliceX x 0 (k4 n) 4) then bif OK V.nilSlice (V.lst p k ds) [] then R
 (V.bool (AV V.nilSlice (V.lst p k ds) h now [] == AV (V.lst x n cs) (V.lst p k ds) h now [])) else False else bif okT n cs then bif OK (V.slice 7 0 (goodQ (usaL
 cs)).length false 0 0) (V.lst p k ds) (mM3 u s m d h cs) then R (V.bool (AV (V.slice 7 0 (goodQ (usaL cs)).length false 0 0) (V.lst p k ds) h now (mM3 u s m d h cs) == AV
 (V.lst x n cs) (V.lst p k ds) h now [])) else False else False else bif okS k ds && (u8B s && u8B m) then bif !matB u s m (d) (List.map strOfV ds) h now then bif okT n cs
 && nilX (sliceX x 0 (k4 n) 4) then bif OK V.nilSlice (V.lst p k ds) [] then R (V.bool (AV V.nilSlice (V.lst p k ds) h now [] == AV (V.lst x n cs) (V.lst p k ds) h now
 [])) else False else bif okT n cs then bif OK (V.slice 7 0 (goodQ (usaL cs)).length false 0 0) (V.lst p k ds) (mM3 u s m d h cs) then R (V.bool (AV (V.slice 7 0 (goodQ
 (usaL cs)).length false 0 0) (V.lst p k ds) h now (mM3 u s m d h cs) == AV (V.lst x n cs) (V.lst p k ds) h now [])) else False else False else R (V.bool false) else False
 else R (V.bool false) else False else bif AV (V.slice 6 0 (0 + n + 1) false 0 0) (V.lst p k ds) h now (mM7 u s m d h cs) == false then bif usB u s m (d) then bif okT n cs
 && nilX (sliceX x 0 (k4 n) 4) then bif OK V.nilSlice (V.lst p k ds) [] then R (V.bool (AV V.nilSlice (V.lst p k ds) h now [] == AV (V.lst x n cs) (V.lst p k ds) h now
 [])) else False else bif okT n cs then bif OK (V.slice 7 0 (goodQ (usaL cs)).length false 0 0) (V.lst p k ds) (mM3 u s m d h cs) then R (V.bool (AV (V.slice 7 0 (goodQ
 (usaL cs)).length false 0 0) (V.lst p k ds) h now (mM3 u s m d h cs) == AV (V.lst x n cs) (V.lst p k ds) h now [])) else False else False else bif okS k ds && (u8B s &&
 u8B m) then bif !matB u s m (d) (List.map strOfV ds) h now then bif okT n cs && nilX (sliceX x 0 (k4 n) 4) then bif OK V.nilSlice (V.lst p k ds) [] then R (V.bool (AV
 V.nilSlice (V.lst p k ds) h now [] == AV (V.lst x n cs) (V.lst p k ds) h now [])) else False else bif okT n cs then bif OK (V.slice 7 0 (goodQ (usaL cs)).length false 0
 0) (V.lst p k ds) (mM3 u s m d h cs) then R (V.bool (AV (V.slice 7 0 (goodQ (usaL cs)).length false 0 0) (V.lst p k ds) h now (mM3 u s m d h cs) == AV (V.lst x n cs)
 (V.lst p k ds) h now [])) else False else False else R (V.bool false) else False else R (V.bool false) else False else False else False else False else False else False
 else False else False else False else False) := by kernel_rfl
theorem matF_unus {u s m : Int} {d : List UInt8} {now : Int} {l : List (List UInt8)} (hu : usB u s m d = false) : ∀ k i, matF u s m d now l k i = false
 | 0, i => rfl
 | k + 1, i => by
  rw [matF]
  have : ofB u s m d (strOfV ((strs l).getD i (.bool false))) = false := by unfold ofB; rw [hu, Bool.false_and, Bool.and_false]
  rw [this, Bool.false_and, Bool.and_false, cond_false]
  exact matF_unus hu k (i + 1)
theorem mat_unus {u s m : Int} {d : List UInt8} {l : List (List UInt8)} {h : List UInt8} {now : Int} (hu : usB u s m d = false) : matB u s m d l h now = false := by
 unfold matB
 rw [matF_unus hu, Bool.and_false, Bool.and_false]
 cases l with
 | nil => cases u == 3 <;> cases u == 2 <;> rfl
 | cons a r =>
  have : ofB u s m d a = false := by unfold ofB; rw [hu, Bool.false_and, Bool.and_false]
  show (bif u == 3 then ofB u s m d a else bif u == 2 then false else false) = false
  rw [this]
  cases u == 3 <;> cases u == 2 <;> rfl
theorem good_app : ∀ a b : List TL, goodQ (a ++ b) = goodQ a ++ goodQ b
 | [], b => rfl
 | r :: l, b => by
  rw [List.cons_append, goodQ, goodQ]
  cases usB r.u r.s r.m r.d with
  | true => rw [cond_true, cond_true, good_app l b]; rfl
  | false => rw [cond_false, cond_false, good_app l b]
theorem good_idem : ∀ l : List TL, goodQ (goodQ l) = goodQ l
 | [] => rfl
 | r :: l => by
  rw [goodQ]
  cases h : usB r.u r.s r.m r.d with
  | true => rw [cond_true, goodQ, h, cond_true, good_idem l]
  | false => rw [cond_false, good_idem l]
theorem any_more (l : List TL) (r : TL) (e : List (List UInt8)) (h : List UInt8) (now : Int) (hl : l.length < 4) : anyC (goodQ ((l ++ [r]).take 4)) e h now = (anyC (goodQ (l.take 4)) e h now || (usB r.u r.s r.m r.d && matB r.u r.s r.m r.d e h now)) := by
 rw [List.take_of_length_le (by simp; omega), List.take_of_length_le (by omega), good_app]
 unfold anyC
 rw [List.any_append, goodQ]
 cases usB r.u r.s r.m r.d with
 | true => rw [cond_true, Bool.true_and]; simp [goodQ]
 | false => rw [cond_false, Bool.false_and]; simp [goodQ]
theorem any_same (l : List TL) (r : TL) (e : List (List UInt8)) (h : List UInt8) (now : Int) (hl : 4 ≤ l.length) : anyC (goodQ ((l ++ [r]).take 4)) e h now = anyC (goodQ (l.take 4)) e h now := by
 rw [List.take_append_of_le_length hl]
theorem any_good (l : List TL) (e : List (List UInt8)) (h : List UInt8) (now : Int) : anyC (goodQ ((goodQ (l.take 4)).take 4)) e h now = anyC (goodQ (l.take 4)) e h now := by
 have h1 := good_len (l.take 4)
 rw [List.length_take] at h1
 rw [List.take_of_length_le (by omega), good_idem]
theorem l2_len : ∀ (r : List TL) (a : Nat), l2N a r < 9000 → a + 10 * r.length ≤ l2N a r
 | [], a, _ => by simp [l2N]
 | s :: r, a, h => by
  rw [l2N] at h ⊢
  split
  ·rename_i ha
   rw [if_pos ha] at h
   have := l2_len r _ h
   rw [List.length_cons]; omega
  ·rename_i ha
   rw [if_neg ha] at h
   omega
theorem long_small {l : List (List UInt8)} {r : List TL} (h : longB l r = false) : r.length < 900 := by
 unfold longB at h
 have h := of_decide_eq_false h
 have := l2_len r (l1N 0 l) (by unfold longN at h; omega)
 unfold longN at h
 omega
theorem more_core (x : Value) (l : List TL) (u s m : Int) (d : List UInt8) (p : Value) (e : List (List UInt8)) (h : List UInt8) (now : Int) (h1 : l.length ≤ 9223372036854775807) (hu : l.all inU = true) (hs : u8B s = true) (hm : u8B m = true) (h2 : e.length ≤ 9223372036854775807)
  (hnil : nilX (sliceX x 0 (k4 l.length) 4) = true → l.length = 0) :
  FnSat Tryz.prog 4 [.lst x l.length (tls l), .agg [.int .u8 u, .int .u8 s, .int .u8 m, .str d], .lst p e.length (strs e), .str h, .int .i64 now] [] (fun v _ => v = .bool true) := by
 refine runW_ok (lim := 9) (n := 10) mixed TMT_ok ?_
 refine cast (tm_law longOK longV yOK yV x l.length (tls l) u s m d p e.length (strs e) h now (fun v => v = .bool true)).symm ?_
 have vT : ∀ st, viewT st (.lst x l.length (tls l)) = some (true, l) := fun st => by
  simp only [viewT, viewC, tlD_tls, isTl_tls, tls_len, Nat.beq_refl, Bool.and_true]
  rw [Nat.mul_comm, Nat.beq_refl]
 have vS : ∀ st, viewS st (.lst p e.length (strs e)) = some (true, e) := fun st => by
  simp only [viewS, viewC, strs_len, Nat.mul_one, Nat.beq_refl, strs_isStr, strs_strOf, Bool.and_self]
 have lg1 : longOK (.lst p e.length (strs e)) (.lst x l.length (tls l)) [] = true := by
  unfold longOK; rw [vS, vT]
  show (true && (true && (Nat.ble e.length 9223372036854775807 && Nat.ble l.length 9223372036854775807))) = true
  rw [Nat.ble_eq_true_of_le h1, Nat.ble_eq_true_of_le h2]; rfl
 have lg2 : longV (.lst p e.length (strs e)) (.lst x l.length (tls l)) [] = longB e l := by unfold longV; rw [vS, vT]
 have lg3 : longOK (.slice 1 0 1 false 0 0) (.slice 2 0 1 false 0 0) [Blk.row [V.int IntKind.u8 u, V.int IntKind.u8 s, V.int IntKind.u8 m, V.str d] 24 4, Blk.row [V.str h] 9 1, Blk.row [V.int IntKind.u8 u, V.int IntKind.u8 s, V.int IntKind.u8 m, V.str d] 24 4] = true := by
  have q1 : viewS [Blk.row [V.int IntKind.u8 u, V.int IntKind.u8 s, V.int IntKind.u8 m, V.str d] 24 4, Blk.row [V.str h] 9 1, Blk.row [V.int IntKind.u8 u, V.int IntKind.u8 s, V.int IntKind.u8 m, V.str d] 24 4] (.slice 1 0 1 false 0 0) = some (true, [h]) := by
   simp only [viewS, viewC]; rfl
  have q2 := view_tls (st := [Blk.row [V.int IntKind.u8 u, V.int IntKind.u8 s, V.int IntKind.u8 m, V.str d] 24 4, Blk.row [V.str h] 9 1, Blk.row [V.int IntKind.u8 u, V.int IntKind.u8 s, V.int IntKind.u8 m, V.str d] 24 4]) (b := 2) (l := [⟨u, s, m, d⟩]) (z := []) (.inl ⟨24, 4, rfl⟩) false 0 0
  have q2 : viewT _ (.slice 2 0 1 false 0 0) = some (true, [⟨u, s, m, d⟩]) := q2
  unfold longOK; rw [q1, q2]; rfl
 have sees : ∀ (st : St) (v : V) (L : List TL), viewT st v = some (true, L) → L.all inU = true → L.length ≤ 9223372036854775807 → yOK v (.lst p e.length (strs e)) st = true ∧ yV v (.lst p e.length (strs e)) h now st = anyC (goodQ (L.take 4)) e h now := fun st v L hv hL hl => by
  unfold yOK yV
  rw [hv, vS]
  exact ⟨by show (true && (true && (L.all inU && (Nat.ble L.length 9223372036854775807 && Nat.ble e.length 9223372036854775807)))) = true; rw [hL, Nat.ble_eq_true_of_le hl, Nat.ble_eq_true_of_le h2]; rfl, rfl⟩
 have rIn : ([⟨u, s, m, d⟩] : List TL).all inU = true := by simp only [List.all_cons, List.all_nil, Bool.and_true, inU, hs, hm]
 have gIn : (goodQ (l.take 4)).all inU = true := good_sub _ (take_all 4 hu)
 have gLen : (goodQ (l.take 4)).length ≤ 9223372036854775807 := by
  have h1 := good_len (l.take 4)
  rw [List.length_take] at h1; omega
 obtain ⟨a1, a2⟩ := sees [] _ l (vT []) hu h1
 obtain ⟨n1, n2⟩ := sees [] .nilSlice [] rfl rfl (by simp)
 have n2 : yV .nilSlice (.lst p e.length (strs e)) h now [] = false := n2
 have us : usaL (tls l) = l.take 4 := by unfold usaL; rw [tlD_tls]
 refine must_intro lg1 ?_
 rw [lg2]
 refine bif_intro (fun _ => rfl) (fun hlong => ?_)
 have hsm := long_small hlong
 refine must_intro lg3 ?_
 refine bif_intro (fun _ => rfl) (fun _ => ?_)
 have moreIn : (l ++ [(⟨u, s, m, d⟩ : TL)]).all inU = true := by rw [List.all_append, hu, rIn]; rfl
 have rowR : ([V.int IntKind.u8 u, V.int IntKind.u8 s, V.int IntKind.u8 m, V.str d] : List V) = tls [⟨u, s, m, d⟩] := rfl
 have rowM : tls l ++ [V.int IntKind.u8 u, V.int IntKind.u8 s, V.int IntKind.u8 m, V.str d] = tls (l ++ [⟨u, s, m, d⟩]) := by rw [tls_append]; rfl
 have hlen : (l ++ [(⟨u, s, m, d⟩ : TL)]).length = 0 + l.length + 1 := by simp
 have seeG : ∀ (st : St) (b : Nat), (∃ t sz, st[b]? = some (.row (tls (goodQ (l.take 4)) ++ zerosQ (l.take 4)) t sz)) → yOK (.slice b 0 (goodQ (l.take 4)).length false 0 0) (.lst p e.length (strs e)) st = true ∧ yV (.slice b 0 (goodQ (l.take 4)).length false 0 0) (.lst p e.length (strs e)) h now st = anyC (goodQ (l.take 4)) e h now := fun st b hb => by
  obtain ⟨q1, q2⟩ := sees st _ _ (view_tls (z := zerosQ (l.take 4)) (.inl hb) false 0 0) gIn gLen
  exact ⟨q1, by rw [q2, any_good]⟩
 have seeR : ∀ (st : St) (b : Nat), st[b]? = some (.ro false [V.int IntKind.u8 u, V.int IntKind.u8 s, V.int IntKind.u8 m, V.str d]) → yOK (.slice b 0 1 false 0 0) (.lst p e.length (strs e)) st = true ∧ yV (.slice b 0 1 false 0 0) (.lst p e.length (strs e)) h now st = anyC (goodQ ([⟨u, s, m, d⟩].take 4)) e h now := fun st b hb => by
  have q := view_tls (st := st) (b := b) (l := [⟨u, s, m, d⟩]) (z := []) (.inr ⟨false, hb⟩) false 0 0
  exact sees st _ _ q rIn (by simp)
 have seeM : ∀ (st : St) (b : Nat), st[b]? = some (.ro false (tls l ++ [V.int IntKind.u8 u, V.int IntKind.u8 s, V.int IntKind.u8 m, V.str d])) → yOK (.slice b 0 (0 + l.length + 1) false 0 0) (.lst p e.length (strs e)) st = true ∧ yV (.slice b 0 (0 + l.length + 1) false 0 0) (.lst p e.length (strs e)) h now st = anyC (goodQ ((l ++ [(⟨u, s, m, d⟩ : TL)]).take 4)) e h now := fun st b hb => by
  have q := view_tls (st := st) (b := b) (l := l ++ [⟨u, s, m, d⟩]) (z := []) (.inr ⟨false, by rw [List.append_nil, ← rowM]; exact hb⟩) false 0 0
  rw [hlen] at q
  exact sees st _ _ q moreIn (by rw [hlen]; omega)
 obtain ⟨m0, m0'⟩ := seeG (mM0 u s m d h (tls l)) 7 ⟨_, _, by unfold mM0; simp only [us, shA, shT, shZ]; rfl⟩
 obtain ⟨m1, m1'⟩ := seeG (mM1 u s m d h (tls l)) 8 ⟨_, _, by unfold mM1; simp only [us, shA, shT, shZ]; rfl⟩
 obtain ⟨m2, m2'⟩ := seeG (mM2 u s m d h (tls l)) 6 ⟨_, _, by unfold mM2; simp only [us, shA, shT, shZ]; rfl⟩
 obtain ⟨m3, m3'⟩ := seeG (mM3 u s m d h (tls l)) 7 ⟨_, _, by unfold mM3; simp only [us, shA, shT, shZ]; rfl⟩
 obtain ⟨m4, m4'⟩ := seeR (mM4 u s m d h (tls l)) 6 rfl
 obtain ⟨m5, m5'⟩ := seeM (mM5 u s m d h (tls l)) 7 rfl
 obtain ⟨m6, m6'⟩ := seeR (mM6 u s m d h (tls l)) 5 rfl
 obtain ⟨m7, m7'⟩ := seeM (mM7 u s m d h (tls l)) 6 rfl
 have c1 : ((tls l).length.beq (l.length * 4) && (tls l).all V.one) = true := by rw [tls_len, oneT, Nat.mul_comm, Nat.beq_refl]; rfl
 have c1' : (tls l).length.beq ((0 + l.length) * 4) = true := by rw [tls_len, Nat.zero_add, Nat.mul_comm, Nat.beq_refl]
 have c2 : ((0 + l.length).ble 9223372036854775807 && ((0 + l.length) * 24).ble 140737488355328) = true := by rw [Nat.ble_eq_true_of_le (by omega), Nat.ble_eq_true_of_le (by omega)]; rfl
 have c3 : ((0 + l.length + 1).ble 9223372036854775807 && ((0 + l.length + 1) * 24).ble 140737488355328) = true := by rw [Nat.ble_eq_true_of_le (by omega), Nat.ble_eq_true_of_le (by omega)]; rfl
 have c4 : flatL (tls l) = true := tls_flat l
 have c5 : flatL (tls l ++ [V.int IntKind.u8 u, V.int IntKind.u8 s, V.int IntKind.u8 m, V.str d]) = true := by rw [rowM]; exact tls_flat _
 have c6 : (okS e.length (strs e) && (u8B s && u8B m)) = true := by rw [okS_mk h2, hs, hm]; rfl
 simp only [us, a1, a2, n1, n2, m0, m0', m1, m1', m2, m2', m3, m3', m4, m4', m5, m5', m6, m6', m7, m7', c1, c1', c2, c3, c4, c5, c6, okT_mk h1, strs_strOf, cond_true, Bool.true_and, Bool.and_true]
 have hM : usB u s m d = false → matB u s m d e h now = false := fun q => mat_unus q
 have hZ : anyC (goodQ (List.take 4 l)) e h now = true → ((↑(goodQ (List.take 4 l)).length : Int) == 0) = false := fun q => by
  cases hg : goodQ (List.take 4 l) with
  | nil => rw [hg] at q; exact absurd q (by simp [anyC])
  | cons a r => exact beq_false_of_ne (by rw [List.length_cons]; omega)
 rcases Nat.lt_or_ge l.length 4 with h4 | h4
 ·have d4 : decide ((↑l.length : Int) ≥ 4) = false := decide_eq_false (by omega)
  have d4' : decide ((↑l.length : Int) < 4) = true := decide_eq_true (by omega)
  have am := any_more l ⟨u, s, m, d⟩ e h now h4
  rcases Nat.eq_zero_or_pos l.length with h0 | h0
  ·have hl : l = [] := List.length_eq_zero_iff.mp h0
   subst hl
   have A0 : anyC (goodQ (List.take 4 ([] : List TL))) e h now = false := rfl
   have am : anyC (goodQ (List.take 4 [(⟨u, s, m, d⟩ : TL)])) e h now = (usB u s m d && matB u s m d e h now) := am
   rw [am]
   simp only [A0, d4, d4', h0, cond_false, cond_true, Nat.beq_refl]
   revert hM
   generalize usB u s m d = U
   generalize matB u s m d e h now = M
   generalize nilX _ = N
   intro hM
   cases U <;> cases M <;> cases N <;> first | rfl | (exact absurd (hM rfl) (by decide))
  ·have hN : nilX (sliceX x 0 (k4 l.length) 4) = false := by
    cases q : nilX (sliceX x 0 (k4 l.length) 4) with
    | false => rfl
    | true => exact absurd (hnil q) (by omega)
   have hB : l.length.beq 0 = false := by cases q : l.length.beq 0 with
    | false => rfl
    | true => exact absurd (Nat.eq_of_beq_eq_true q) (by omega)
   rw [am]
   simp only [hN, d4, d4', hB, cond_false, cond_true]
   revert hM hZ
   generalize usB u s m d = U
   generalize matB u s m d e h now = M
   generalize anyC (goodQ (List.take 4 l)) e h now = A
   generalize ((↑(goodQ (List.take 4 l)).length : Int) == 0) = Z
   intro hM hZ
   cases A <;> cases U <;> cases M <;> cases Z <;> first | rfl | (exact absurd (hM rfl) (by decide)) | (exact absurd (hZ rfl) (by decide))
 ·have d4 : decide ((↑l.length : Int) ≥ 4) = true := decide_eq_true (by omega)
  have d4' : decide ((↑l.length : Int) < 4) = false := decide_eq_false (by omega)
  have am := any_same l ⟨u, s, m, d⟩ e h now h4
  have hN : nilX (sliceX x 0 (k4 l.length) 4) = false := by
   cases q : nilX (sliceX x 0 (k4 l.length) 4) with
   | false => rfl
   | true => exact absurd (hnil q) (by omega)
  have hB : l.length.beq 0 = false := by cases q : l.length.beq 0 with
   | false => rfl
   | true => exact absurd (Nat.eq_of_beq_eq_true q) (by omega)
  rw [am]
  simp only [hN, d4, d4', hB, cond_false, cond_true]
  revert hZ
  generalize anyC (goodQ (List.take 4 l)) e h now = A
  generalize ((↑(goodQ (List.take 4 l)).length : Int) == 0) = Z
  intro hZ
  cases A <;> cases Z <;> first | rfl | (exact absurd (hZ rfl) (by decide))
theorem more_close (x : Value) (l : List TL) (u s m : Int) (d : List UInt8) (p : Value) (e : List (List UInt8)) (h : List UInt8) (now : Int) (h1 : l.length ≤ 9223372036854775807) (hu : l.all inU = true) (hs : (Lit.int .u8 s).wf = true) (hm : (Lit.int .u8 m).wf = true) (h2 : e.length ≤ 9223372036854775807) :
  FnSat Tryz.prog 4 [lstT x l, .agg [.int .u8 u, .int .u8 s, .int .u8 m, .str d], lstS p e, .str h, .int .i64 now] [] (fun v _ => v = .bool true) := by
 intro B W0 m0 w rargs hargs hr
 obtain ⟨a, r, q1, q2, e1⟩ := realL_cons hargs
 exact more_core x l u s m d p e h now h1 hu (u8_wf hs) (u8_wf hm) h2 (nil_zero q1) B W0 m0 w rargs hargs hr
end Go.Proofs.YthcoeoibejgaiaaGreatDoor
