/- NeedLess: what it comes to. -/
import Derived.Test.YtakfcajmfgnchaaGreatDoorTellC
import Derived.Test.YtakfcajmfgnchaaGreatDoorLargeT
import Derived.Test.YtakfcajmfgnchaaGreatDoorNPlainS
import Derived.Test.YtakfcajmfgnchaaGreatDoorAdeq
import Derived.Test.YtakfcajmfgnchaaGreatDoorAwake
namespace Go.Proofs.YtakfcajmfgnchaaGreatDoor
open Go Go.Vm Go.RowKit
set_option linter.unusedVariables false
set_option maxRecDepth 100000
set_option linter.unusedSectionVars false
variable [Φ : Frz]
noncomputable def NLT (LOK LB : V → V → St → Bool) (LG : List UInt8 → List V → List V → Bool) (OK : V → V → V → St → Bool) (AV : List UInt8 → V → Bool → Bool → Bool → Int → V → Int → V → St → Bool) (YOK : V → V → St → Bool) (YV : V → V → List UInt8 → Int → St → Bool) (JOK : V → V → St → Bool) (JV : V → List UInt8 → Int → V → St → Int) : Tab :=
 ⟨addT (addT (addP (addP noT 11 awakeF) 15 sameT) 9 (largeT LG)) 12 tellT, addS (addS (addS (addS noL 10 (longGV LOK LB)) 14 (adGV OK AV)) 16 (anyGV YOK YV)) 17 (judgeGV JOK JV), aR 9⟩
theorem NLT_ok : TabOk3 Tryz.prog (NLT longOK longV largeV' adOK adV yOK yV jOK jV) := ⟨ba (ba (aP (aP aC awakeF_ok) sameT_ok) largeT_ok) tellT_ok, bL (bL (bL (bL aD longG_ok) adGV_ok) anyGV_ok) judgeGV_ok, am 9⟩
def stL (pl rq : Bool) (h : List UInt8) (mx : Bool) (co : Int) (se : Bool) (x1 : Value) (n1 : Nat) (c1 : List V) (x2 : Value) (n2 : Nat) (c2 : List V) (x3 : Value) (n3 : Nat) (c3 : List V) (ha : Bool) (mo : Int) (x4 : Value) (n4 : Nat) (c4 : List V) (ag : Int) (ok : Bool) (ver : Int) (p : Value) (k : Nat) (ds : List V) : St := [Blk.row [V.bool pl, V.bool rq, V.str h, V.bool mx, V.int IntKind.u8 co, V.bool se, V.lst x1 n1 c1, V.lst x2 n2 c2, V.lst x3 n3 c3, V.bool ha, V.int IntKind.u8 mo, V.lst x4 n4 c4, V.int IntKind.i64 ag] 30 13, Blk.row [V.bool ok, V.int IntKind.u16 ver, V.lst p k ds] 33 3, Blk.row (ab 2 (tls (aK pl rq co se n3 c3))) 51 4, Blk.row [V.str h, V.slice 2 0 (aK pl rq co se n3 c3).length false 0 0, V.bool (chB pl rq co se n3 c3 ha mo), V.bool true, V.int IntKind.u8 (kdI pl rq true ha mo)] 38 5]
def adX (OK : V → V → V → St → Bool) (AV : List UInt8 → V → Bool → Bool → Bool → Int → V → Int → V → St → Bool) (YOK : V → V → St → Bool) (YV : V → V → List UInt8 → Int → St → Bool) (JOK : V → V → St → Bool) (JV : V → List UInt8 → Int → V → St → Int) (pl rq : Bool) (h : List UInt8) (mx : Bool) (co : Int) (se : Bool) (x1 : Value) (n1 : Nat) (c1 : List V) (x2 : Value) (n2 : Nat) (c2 : List V) (x3 : Value) (n3 : Nat) (c3 : List V) (ha : Bool) (mo : Int) (x4 : Value) (n4 : Nat) (c4 : List V) (ag : Int) (ok : Bool) (ver : Int) (p : Value) (k : Nat) (ds : List V) (now : Int) (y : Value) (m : Nat) (es : List V) (R : V → Prop) : Prop :=
 bif OK (V.slice 2 0 (aK pl rq co se n3 c3).length false 0 0) (V.lst p k ds) (V.lst y m es) (stL pl rq h mx co se x1 n1 c1 x2 n2 c2 x3 n3 c3 ha mo x4 n4 c4 ag ok ver p k ds) then bif !AV h (V.slice 2 0 (aK pl rq co se n3 c3).length false 0 0) (chB pl rq co se n3 c3 ha mo) true ok ver (V.lst p k ds) now (V.lst y m es) (stL pl rq h mx co se x1 n1 c1 x2 n2 c2 x3 n3 c3 ha mo x4 n4 c4 ag ok ver p k ds) then R (V.bool true) else bif ok then bif decide (ver ≥ 771) then bif YOK (V.lst x3 n3 c3) (V.lst p k ds) [] then bif YV (V.lst x3 n3 c3) (V.lst p k ds) h now [] then bif se then R (V.bool true) else bif JOK (V.lst p k ds) (V.lst y m es) [] then R (V.bool (JV (V.lst p k ds) h now (V.lst y m es) [] == 0)) else False else bif JOK (V.lst p k ds) (V.lst y m es) [] then R (V.bool (JV (V.lst p k ds) h now (V.lst y m es) [] == 0)) else False else False else R (V.bool false) else R (V.bool false) else False
theorem less_t1 (LOK LB : V → V → St → Bool) (LG : List UInt8 → List V → List V → Bool) (OK : V → V → V → St → Bool) (AV : List UInt8 → V → Bool → Bool → Bool → Int → V → Int → V → St → Bool) (YOK : V → V → St → Bool) (YV : V → V → List UInt8 → Int → St → Bool) (JOK : V → V → St → Bool) (JV : V → List UInt8 → Int → V → St → Int) (pl : Bool) (h : List UInt8) (mx : Bool) (co : Int) (se : Bool) (x1 : Value) (n1 : Nat) (c1 : List V) (x2 : Value) (n2 : Nat) (c2 : List V) (x3 : Value) (n3 : Nat) (c3 : List V) (ha : Bool) (mo : Int) (x4 : Value) (n4 : Nat) (c4 : List V) (ag : Int) (ok : Bool) (ver : Int) (p : Value) (k : Nat) (ds : List V) (now : Int) (y : Value) (m : Nat) (es : List V) (R : V → Prop) : runW Tryz.prog (NLT LOK LB LG OK AV YOK YV JOK JV) 9 10 6 [.agg [.bool pl, .bool true, .str h, .bool mx, .int .u8 co, .bool se, .lst x1 n1 c1, .lst x2 n2 c2, .lst x3 n3 c3, .bool ha, .int .u8 mo, .lst x4 n4 c4, .int .i64 ag], .agg [.bool ok, .int .u16 ver, .lst p k ds], .int .i64 now, .lst y m es] R =
  (
 bif okT n3 c3 && okS n4 c4 then bif LG h c4 c3 then R (V.bool true) else bif LOK (V.lst p k ds) V.nilSlice [] then bif LB (V.lst p k ds) V.nilSlice [] then R (V.bool
 true) else bif LOK (V.lst y m es) V.nilSlice [] then bif LB (V.lst y m es) V.nilSlice [] then R (V.bool true) else bif okT n3 c3 && okS n4 c4 && notB pl true mx co se n3
 c3 ha mo c4 h then bif !mx then R (V.bool true) else R (V.bool false) else bif okT n3 c3 && okS n4 c4 && secB pl true co se n3 then bif (↑(aK pl true co se n3
 c3).length : Int) == 0 then bif !chB pl true co se n3 c3 ha mo then R (V.bool false) else bif decide ((↑(aK pl true co se n3 c3).length : Int) > 0) then bif chB pl
 true co se n3 c3 ha mo then R (V.bool false) else bif !h == h then R (V.bool false) else bif decide ((↑(aK pl true co se n3 c3).length : Int) > 0) then (adX OK AV YOK
 YV JOK JV pl true h mx co se x1 n1 c1 x2 n2 c2 x3 n3 c3 ha mo x4 n4 c4 ag ok ver p k ds now y m es R) else bif chB pl true co se n3 c3 ha mo then (adX OK AV YOK YV JOK JV
 pl true h mx co se x1 n1 c1 x2 n2 c2 x3 n3 c3 ha mo x4 n4 c4 ag ok ver p k ds now y m es R) else (adX OK AV YOK YV JOK JV pl true h mx co se x1 n1 c1 x2 n2 c2 x3 n3 c3 ha
 mo x4 n4 c4 ag ok ver p k ds now y m es R) else bif !h == h then R (V.bool false) else bif decide ((↑(aK pl true co se n3 c3).length : Int) > 0) then (adX OK AV YOK YV
 JOK JV pl true h mx co se x1 n1 c1 x2 n2 c2 x3 n3 c3 ha mo x4 n4 c4 ag ok ver p k ds now y m es R) else bif chB pl true co se n3 c3 ha mo then (adX OK AV YOK YV JOK JV pl
 true h mx co se x1 n1 c1 x2 n2 c2 x3 n3 c3 ha mo x4 n4 c4 ag ok ver p k ds now y m es R) else (adX OK AV YOK YV JOK JV pl true h mx co se x1 n1 c1 x2 n2 c2 x3 n3 c3 ha mo
 x4 n4 c4 ag ok ver p k ds now y m es R) else bif decide ((↑(aK pl true co se n3 c3).length : Int) > 0) then bif chB pl true co se n3 c3 ha mo then R (V.bool false)
 else bif !h == h then R (V.bool false) else bif decide ((↑(aK pl true co se n3 c3).length : Int) > 0) then (adX OK AV YOK YV JOK JV pl true h mx co se x1 n1 c1 x2 n2
 c2 x3 n3 c3 ha mo x4 n4 c4 ag ok ver p k ds now y m es R) else bif chB pl true co se n3 c3 ha mo then (adX OK AV YOK YV JOK JV pl true h mx co se x1 n1 c1 x2 n2 c2 x3 n3
 c3 ha mo x4 n4 c4 ag ok ver p k ds now y m es R) else (adX OK AV YOK YV JOK JV pl true h mx co se x1 n1 c1 x2 n2 c2 x3 n3 c3 ha mo x4 n4 c4 ag ok ver p k ds now y m es R)
 else bif !h == h then R (V.bool false) else bif decide ((↑(aK pl true co se n3 c3).length : Int) > 0) then (adX OK AV YOK YV JOK JV pl true h mx co se x1 n1 c1 x2 n2
 c2 x3 n3 c3 ha mo x4 n4 c4 ag ok ver p k ds now y m es R) else bif chB pl true co se n3 c3 ha mo then (adX OK AV YOK YV JOK JV pl true h mx co se x1 n1 c1 x2 n2 c2 x3 n3
 c3 ha mo x4 n4 c4 ag ok ver p k ds now y m es R) else (adX OK AV YOK YV JOK JV pl true h mx co se x1 n1 c1 x2 n2 c2 x3 n3 c3 ha mo x4 n4 c4 ag ok ver p k ds now y m es R)
 else bif okT n3 c3 && okS n4 c4 then bif !h == h then R (V.bool false) else bif OK V.nilSlice (V.lst p k ds) (V.lst y m es) [] then bif !AV h V.nilSlice true true ok ver
 (V.lst p k ds) now (V.lst y m es) [] then R (V.bool true) else bif ok then bif decide (ver ≥ 771) then bif YOK (V.lst x3 n3 c3) (V.lst p k ds) [] then bif YV (V.lst x3 n3
 c3) (V.lst p k ds) h now [] then bif se then R (V.bool true) else bif JOK (V.lst p k ds) (V.lst y m es) [] then R (V.bool (JV (V.lst p k ds) h now (V.lst y m es) [] ==
 0)) else False else bif JOK (V.lst p k ds) (V.lst y m es) [] then R (V.bool (JV (V.lst p k ds) h now (V.lst y m es) [] == 0)) else False else False else R (V.bool false)
 else R (V.bool false) else False else False else False else False else False) := by kernel_rfl
theorem less_t2 (LOK LB : V → V → St → Bool) (LG : List UInt8 → List V → List V → Bool) (OK : V → V → V → St → Bool) (AV : List UInt8 → V → Bool → Bool → Bool → Int → V → Int → V → St → Bool) (YOK : V → V → St → Bool) (YV : V → V → List UInt8 → Int → St → Bool) (JOK : V → V → St → Bool) (JV : V → List UInt8 → Int → V → St → Int)  (h : List UInt8) (mx : Bool) (co : Int) (se : Bool) (x1 : Value) (n1 : Nat) (c1 : List V) (x2 : Value) (n2 : Nat) (c2 : List V) (x3 : Value) (n3 : Nat) (c3 : List V) (ha : Bool) (mo : Int) (x4 : Value) (n4 : Nat) (c4 : List V) (ag : Int) (ok : Bool) (ver : Int) (p : Value) (k : Nat) (ds : List V) (now : Int) (y : Value) (m : Nat) (es : List V) (R : V → Prop) : runW Tryz.prog (NLT LOK LB LG OK AV YOK YV JOK JV) 9 10 6 [.agg [.bool true, .bool false, .str h, .bool mx, .int .u8 co, .bool se, .lst x1 n1 c1, .lst x2 n2 c2, .lst x3 n3 c3, .bool ha, .int .u8 mo, .lst x4 n4 c4, .int .i64 ag], .agg [.bool ok, .int .u16 ver, .lst p k ds], .int .i64 now, .lst y m es] R =
  (
 bif okT n3 c3 && okS n4 c4 then bif LG h c4 c3 then R (V.bool true) else bif LOK (V.lst p k ds) V.nilSlice [] then bif LB (V.lst p k ds) V.nilSlice [] then R (V.bool
 true) else bif LOK (V.lst y m es) V.nilSlice [] then bif LB (V.lst y m es) V.nilSlice [] then R (V.bool true) else bif okT n3 c3 && okS n4 c4 && false then R (V.bool
 false) else bif okT n3 c3 && okS n4 c4 && false then bif !h == h then R (V.bool false) else R (V.bool true) else bif okT n3 c3 && okS n4 c4 then bif !h == h then R
 (V.bool false) else R (V.bool true) else False else False else False else False) := by kernel_rfl
theorem less_t3 (LOK LB : V → V → St → Bool) (LG : List UInt8 → List V → List V → Bool) (OK : V → V → V → St → Bool) (AV : List UInt8 → V → Bool → Bool → Bool → Int → V → Int → V → St → Bool) (YOK : V → V → St → Bool) (YV : V → V → List UInt8 → Int → St → Bool) (JOK : V → V → St → Bool) (JV : V → List UInt8 → Int → V → St → Int)  (h : List UInt8) (mx : Bool) (co : Int) (se : Bool) (x1 : Value) (n1 : Nat) (c1 : List V) (x2 : Value) (n2 : Nat) (c2 : List V) (x3 : Value) (n3 : Nat) (c3 : List V) (mo : Int) (x4 : Value) (n4 : Nat) (c4 : List V) (ag : Int) (ok : Bool) (ver : Int) (p : Value) (k : Nat) (ds : List V) (now : Int) (y : Value) (m : Nat) (es : List V) (R : V → Prop) : runW Tryz.prog (NLT LOK LB LG OK AV YOK YV JOK JV) 9 10 6 [.agg [.bool false, .bool false, .str h, .bool mx, .int .u8 co, .bool se, .lst x1 n1 c1, .lst x2 n2 c2, .lst x3 n3 c3, .bool false, .int .u8 mo, .lst x4 n4 c4, .int .i64 ag], .agg [.bool ok, .int .u16 ver, .lst p k ds], .int .i64 now, .lst y m es] R =
  (
 bif okT n3 c3 && okS n4 c4 then bif LG h c4 c3 then R (V.bool true) else bif LOK (V.lst p k ds) V.nilSlice [] then bif LB (V.lst p k ds) V.nilSlice [] then R (V.bool
 true) else bif LOK (V.lst y m es) V.nilSlice [] then bif LB (V.lst y m es) V.nilSlice [] then R (V.bool true) else bif okT n3 c3 && okS n4 c4 && false then R (V.bool
 false) else bif okT n3 c3 && okS n4 c4 && secB false false co se n3 then bif decide ((↑(aK false false co se n3 c3).length : Int) > 0) then bif chB false false co se
 n3 c3 false mo then R (V.bool false) else bif !h == h then R (V.bool false) else bif decide ((↑(aK false false co se n3 c3).length : Int) > 0) then R (V.bool true)
 else bif chB false false co se n3 c3 false mo then R (V.bool true) else R (V.bool true) else bif !h == h then R (V.bool false) else bif decide ((↑(aK false false co se
 n3 c3).length : Int) > 0) then R (V.bool true) else bif chB false false co se n3 c3 false mo then R (V.bool true) else R (V.bool true) else bif okT n3 c3 && okS n4 c4
 then bif !h == h then R (V.bool false) else R (V.bool true) else False else False else False else False) := by kernel_rfl
theorem less_t4 (LOK LB : V → V → St → Bool) (LG : List UInt8 → List V → List V → Bool) (OK : V → V → V → St → Bool) (AV : List UInt8 → V → Bool → Bool → Bool → Int → V → Int → V → St → Bool) (YOK : V → V → St → Bool) (YV : V → V → List UInt8 → Int → St → Bool) (JOK : V → V → St → Bool) (JV : V → List UInt8 → Int → V → St → Int)  (h : List UInt8) (mx : Bool) (co : Int) (se : Bool) (x1 : Value) (n1 : Nat) (c1 : List V) (x2 : Value) (n2 : Nat) (c2 : List V) (x3 : Value) (n3 : Nat) (c3 : List V) (mo : Int) (x4 : Value) (n4 : Nat) (c4 : List V) (ag : Int) (ok : Bool) (ver : Int) (p : Value) (k : Nat) (ds : List V) (now : Int) (y : Value) (m : Nat) (es : List V) (R : V → Prop) : runW Tryz.prog (NLT LOK LB LG OK AV YOK YV JOK JV) 9 10 6 [.agg [.bool false, .bool false, .str h, .bool mx, .int .u8 co, .bool se, .lst x1 n1 c1, .lst x2 n2 c2, .lst x3 n3 c3, .bool true, .int .u8 mo, .lst x4 n4 c4, .int .i64 ag], .agg [.bool ok, .int .u16 ver, .lst p k ds], .int .i64 now, .lst y m es] R =
  (
 bif okT n3 c3 && okS n4 c4 then bif LG h c4 c3 then R (V.bool true) else bif LOK (V.lst p k ds) V.nilSlice [] then bif LB (V.lst p k ds) V.nilSlice [] then R (V.bool
 true) else bif LOK (V.lst y m es) V.nilSlice [] then bif LB (V.lst y m es) V.nilSlice [] then R (V.bool true) else bif okT n3 c3 && okS n4 c4 && false then R (V.bool
 false) else bif okT n3 c3 && okS n4 c4 && secB false false co se n3 then bif mo == 3 then bif (↑(aK false false co se n3 c3).length : Int) == 0 then bif !chB false
 false co se n3 c3 true mo then R (V.bool false) else bif decide ((↑(aK false false co se n3 c3).length : Int) > 0) then bif chB false false co se n3 c3 true mo then R
 (V.bool false) else bif !h == h then R (V.bool false) else bif decide ((↑(aK false false co se n3 c3).length : Int) > 0) then bif !mo == 3 then R (V.bool true) else
 (adX OK AV YOK YV JOK JV false false h mx co se x1 n1 c1 x2 n2 c2 x3 n3 c3 true mo x4 n4 c4 ag ok ver p k ds now y m es R) else bif chB false false co se n3 c3 true mo
 then bif !mo == 3 then R (V.bool true) else (adX OK AV YOK YV JOK JV false false h mx co se x1 n1 c1 x2 n2 c2 x3 n3 c3 true mo x4 n4 c4 ag ok ver p k ds now y m es R)
 else bif !mo == 3 then R (V.bool true) else (adX OK AV YOK YV JOK JV false false h mx co se x1 n1 c1 x2 n2 c2 x3 n3 c3 true mo x4 n4 c4 ag ok ver p k ds now y m es R)
 else bif !h == h then R (V.bool false) else bif decide ((↑(aK false false co se n3 c3).length : Int) > 0) then bif !mo == 3 then R (V.bool true) else (adX OK AV YOK YV
 JOK JV false false h mx co se x1 n1 c1 x2 n2 c2 x3 n3 c3 true mo x4 n4 c4 ag ok ver p k ds now y m es R) else bif chB false false co se n3 c3 true mo then bif !mo == 3
 then R (V.bool true) else (adX OK AV YOK YV JOK JV false false h mx co se x1 n1 c1 x2 n2 c2 x3 n3 c3 true mo x4 n4 c4 ag ok ver p k ds now y m es R) else bif !mo == 3
 then R (V.bool true) else (adX OK AV YOK YV JOK JV false false h mx co se x1 n1 c1 x2 n2 c2 x3 n3 c3 true mo x4 n4 c4 ag ok ver p k ds now y m es R) else bif decide
 ((↑(aK false false co se n3 c3).length : Int) > 0) then bif chB false false co se n3 c3 true mo then R (V.bool false) else bif !h == h then R (V.bool false) else bif
 decide ((↑(aK false false co se n3 c3).length : Int) > 0) then bif !mo == 3 then R (V.bool true) else (adX OK AV YOK YV JOK JV false false h mx co se x1 n1 c1 x2 n2 c2
 x3 n3 c3 true mo x4 n4 c4 ag ok ver p k ds now y m es R) else bif chB false false co se n3 c3 true mo then bif !mo == 3 then R (V.bool true) else (adX OK AV YOK YV JOK JV
 false false h mx co se x1 n1 c1 x2 n2 c2 x3 n3 c3 true mo x4 n4 c4 ag ok ver p k ds now y m es R) else bif !mo == 3 then R (V.bool true) else (adX OK AV YOK YV JOK JV
 false false h mx co se x1 n1 c1 x2 n2 c2 x3 n3 c3 true mo x4 n4 c4 ag ok ver p k ds now y m es R) else bif !h == h then R (V.bool false) else bif decide ((↑(aK false
 false co se n3 c3).length : Int) > 0) then bif !mo == 3 then R (V.bool true) else (adX OK AV YOK YV JOK JV false false h mx co se x1 n1 c1 x2 n2 c2 x3 n3 c3 true mo x4 n4
 c4 ag ok ver p k ds now y m es R) else bif chB false false co se n3 c3 true mo then bif !mo == 3 then R (V.bool true) else (adX OK AV YOK YV JOK JV false false h mx co se
 x1 n1 c1 x2 n2 c2 x3 n3 c3 true mo x4 n4 c4 ag ok ver p k ds now y m es R) else bif !mo == 3 then R (V.bool true) else (adX OK AV YOK YV JOK JV false false h mx co se x1
 n1 c1 x2 n2 c2 x3 n3 c3 true mo x4 n4 c4 ag ok ver p k ds now y m es R) else bif decide ((↑(aK false false co se n3 c3).length : Int) > 0) then bif chB false false co
 se n3 c3 true mo then R (V.bool false) else bif !h == h then R (V.bool false) else bif decide ((↑(aK false false co se n3 c3).length : Int) > 0) then bif !mo == 3 then
 R (V.bool true) else (adX OK AV YOK YV JOK JV false false h mx co se x1 n1 c1 x2 n2 c2 x3 n3 c3 true mo x4 n4 c4 ag ok ver p k ds now y m es R) else bif chB false false
 co se n3 c3 true mo then bif !mo == 3 then R (V.bool true) else (adX OK AV YOK YV JOK JV false false h mx co se x1 n1 c1 x2 n2 c2 x3 n3 c3 true mo x4 n4 c4 ag ok ver p k
 ds now y m es R) else bif !mo == 3 then R (V.bool true) else (adX OK AV YOK YV JOK JV false false h mx co se x1 n1 c1 x2 n2 c2 x3 n3 c3 true mo x4 n4 c4 ag ok ver p k ds
 now y m es R) else bif !h == h then R (V.bool false) else bif decide ((↑(aK false false co se n3 c3).length : Int) > 0) then bif !mo == 3 then R (V.bool true) else
 (adX OK AV YOK YV JOK JV false false h mx co se x1 n1 c1 x2 n2 c2 x3 n3 c3 true mo x4 n4 c4 ag ok ver p k ds now y m es R) else bif chB false false co se n3 c3 true mo
 then bif !mo == 3 then R (V.bool true) else (adX OK AV YOK YV JOK JV false false h mx co se x1 n1 c1 x2 n2 c2 x3 n3 c3 true mo x4 n4 c4 ag ok ver p k ds now y m es R)
 else bif !mo == 3 then R (V.bool true) else (adX OK AV YOK YV JOK JV false false h mx co se x1 n1 c1 x2 n2 c2 x3 n3 c3 true mo x4 n4 c4 ag ok ver p k ds now y m es R)
 else bif okT n3 c3 && okS n4 c4 then bif mo == 3 then bif !(false || efB false false true mo) then R (V.bool false) else bif !(false || efB false false true mo) then R
 (V.bool false) else bif !h == h then R (V.bool false) else bif false || efB false false true mo then bif !(false || efB false false true mo) then R (V.bool false) else
 bif !mo == 3 then R (V.bool true) else bif OK V.nilSlice (V.lst p k ds) (V.lst y m es) [] then bif !AV h V.nilSlice (false || efB false false true mo) (false || efB false
 false true mo) ok ver (V.lst p k ds) now (V.lst y m es) [] then R (V.bool true) else bif ok then bif decide (ver ≥ 771) then bif YOK (V.lst x3 n3 c3) (V.lst p k ds) []
 then bif YV (V.lst x3 n3 c3) (V.lst p k ds) h now [] then bif se then R (V.bool true) else bif JOK (V.lst p k ds) (V.lst y m es) [] then R (V.bool (JV (V.lst p k ds) h
 now (V.lst y m es) [] == 0)) else False else bif JOK (V.lst p k ds) (V.lst y m es) [] then R (V.bool (JV (V.lst p k ds) h now (V.lst y m es) [] == 0)) else False else
 False else R (V.bool false) else R (V.bool false) else False else bif !mo == 3 then R (V.bool true) else bif OK V.nilSlice (V.lst p k ds) (V.lst y m es) [] then bif !AV h
 V.nilSlice (false || efB false false true mo) (false || efB false false true mo) ok ver (V.lst p k ds) now (V.lst y m es) [] then R (V.bool true) else bif ok then bif
 decide (ver ≥ 771) then bif YOK (V.lst x3 n3 c3) (V.lst p k ds) [] then bif YV (V.lst x3 n3 c3) (V.lst p k ds) h now [] then bif se then R (V.bool true) else bif JOK
 (V.lst p k ds) (V.lst y m es) [] then R (V.bool (JV (V.lst p k ds) h now (V.lst y m es) [] == 0)) else False else bif JOK (V.lst p k ds) (V.lst y m es) [] then R (V.bool
 (JV (V.lst p k ds) h now (V.lst y m es) [] == 0)) else False else False else R (V.bool false) else R (V.bool false) else False else bif !h == h then R (V.bool false) else
 bif false || efB false false true mo then bif !(false || efB false false true mo) then R (V.bool false) else bif !mo == 3 then R (V.bool true) else bif OK V.nilSlice
 (V.lst p k ds) (V.lst y m es) [] then bif !AV h V.nilSlice (false || efB false false true mo) (false || efB false false true mo) ok ver (V.lst p k ds) now (V.lst y m es)
 [] then R (V.bool true) else bif ok then bif decide (ver ≥ 771) then bif YOK (V.lst x3 n3 c3) (V.lst p k ds) [] then bif YV (V.lst x3 n3 c3) (V.lst p k ds) h now [] then
 bif se then R (V.bool true) else bif JOK (V.lst p k ds) (V.lst y m es) [] then R (V.bool (JV (V.lst p k ds) h now (V.lst y m es) [] == 0)) else False else bif JOK (V.lst
 p k ds) (V.lst y m es) [] then R (V.bool (JV (V.lst p k ds) h now (V.lst y m es) [] == 0)) else False else False else R (V.bool false) else R (V.bool false) else False
 else bif !mo == 3 then R (V.bool true) else bif OK V.nilSlice (V.lst p k ds) (V.lst y m es) [] then bif !AV h V.nilSlice (false || efB false false true mo) (false || efB
 false false true mo) ok ver (V.lst p k ds) now (V.lst y m es) [] then R (V.bool true) else bif ok then bif decide (ver ≥ 771) then bif YOK (V.lst x3 n3 c3) (V.lst p k ds)
 [] then bif YV (V.lst x3 n3 c3) (V.lst p k ds) h now [] then bif se then R (V.bool true) else bif JOK (V.lst p k ds) (V.lst y m es) [] then R (V.bool (JV (V.lst p k ds) h
 now (V.lst y m es) [] == 0)) else False else bif JOK (V.lst p k ds) (V.lst y m es) [] then R (V.bool (JV (V.lst p k ds) h now (V.lst y m es) [] == 0)) else False else
 False else R (V.bool false) else R (V.bool false) else False else False else False else False else False) := by kernel_rfl
theorem ad_view {st : St} {P : V} {l : List TL} (hv : cb st P = some (true, l)) (hu : l.all inU = true) (hl : l.length ≤ 9223372036854775807) (p : Value) (d : List (List UInt8)) (hd : d.length ≤ 9223372036854775807) (y : Value) (e : List (List UInt8)) (he : e.length ≤ 9223372036854775807) :
  adOK P (.lst p d.length (strs d)) (.lst y e.length (strs e)) st = true ∧ (∀ h ch se ok ver now, adV h P ch se ok ver (.lst p d.length (strs d)) now (.lst y e.length (strs e)) st = adC h l ch se ok ver d now e) ∧ (∀ h ch se ty be ok ver now, reV h P ch se ty be ok ver (.lst p d.length (strs d)) now (.lst y e.length (strs e)) st = reC h l ch se ty be ok ver d now e) := by
 have vS : ∀ (z : Value) (r : List (List UInt8)), bv st (.lst z r.length (strs r)) = some (true, r) := fun z r => by
  unfold bv cg
  simp only [aG, Nat.mul_one, Nat.beq_refl, bA, ao, Bool.and_self]
 refine ⟨?_, fun _ _ _ _ _ _ => ?_, fun _ _ _ _ _ _ _ _ => ?_⟩
 ·unfold adOK; rw [hv, vS, vS]
  show (true && (true && (true && (l.all inU && (Nat.ble l.length 9223372036854775807 && (Nat.ble d.length 9223372036854775807 && Nat.ble e.length 9223372036854775807)))))) = true
  rw [hu, Nat.ble_eq_true_of_le hl, Nat.ble_eq_true_of_le hd, Nat.ble_eq_true_of_le he]; rfl
 ·unfold adV; rw [hv, vS, vS]
 ·unfold reV; rw [hv, vS, vS]
theorem keys_len (pl rq : Bool) (co : Int) (se : Bool) (n3 : Nat) (c3 : List V) : (aK pl rq co se n3 c3).length ≤ 4 := by
 unfold aK
 cases secB pl rq co se n3 with
 | false => simp
 | true =>
  have := good_len (usaL c3)
  have h4 : (usaL c3).length ≤ 4 := by unfold usaL; rw [List.length_take]; omega
  rw [cond_true]; omega
theorem keys_all {pl rq : Bool} {co : Int} {se : Bool} {n3 : Nat} {c3 : List V} (h : (tlD c3).all inU = true) : (aK pl rq co se n3 c3).all inU = true := by
 unfold aK
 cases secB pl rq co se n3 with
 | false => rfl
 | true => exact good_sub _ (take_all 4 h)
theorem y_lst (st : St) (x : Value) (l : List TL) (p : Value) (d : List (List UInt8)) (h : List UInt8) (now : Int) (h1 : l.length ≤ 9223372036854775807) (h2 : d.length ≤ 9223372036854775807) (hu : l.all inU = true) : yOK (.lst x l.length (tls l)) (.lst p d.length (strs d)) st = true ∧ yV (.lst x l.length (tls l)) (.lst p d.length (strs d)) h now st = anyC (aj (l.take 4)) d h now := by
 have vT : cb st (.lst x l.length (tls l)) = some (true, l) := by
  simp only [cb, cg, bS, isTl_tls, dV, Nat.beq_refl, Bool.and_true]
  rw [Nat.mul_comm, Nat.beq_refl]
 have vS : bv st (.lst p d.length (strs d)) = some (true, d) := by
  simp only [bv, cg, aG, Nat.mul_one, Nat.beq_refl, bA, ao, Bool.and_self]
 unfold yOK yV
 rw [vT, vS]
 exact ⟨by show (true && (true && (l.all inU && (Nat.ble l.length 9223372036854775807 && Nat.ble d.length 9223372036854775807)))) = true; rw [hu, Nat.ble_eq_true_of_le h1, Nat.ble_eq_true_of_le h2]; rfl, rfl⟩
theorem j_lst (st : St) (x y : Value) (l an : List (List UInt8)) (h : List UInt8) (now : Int) (h1 : l.length ≤ 9223372036854775807) (h2 : an.length ≤ 9223372036854775807) : jOK (.lst x l.length (strs l)) (.lst y an.length (strs an)) st = true ∧ jV (.lst x l.length (strs l)) h now (.lst y an.length (strs an)) st = bY h now an (bV l) := by
 have vS : ∀ (z : Value) (r : List (List UInt8)), bv st (.lst z r.length (strs r)) = some (true, r) := fun z r => by
  simp only [bv, cg, aG, Nat.mul_one, Nat.beq_refl, bA, ao, Bool.and_self]
 unfold jOK jV
 rw [vS, vS]
 exact ⟨by show (true && (true && (Nat.ble l.length 9223372036854775807 && Nat.ble an.length 9223372036854775807))) = true; rw [Nat.ble_eq_true_of_le h1, Nat.ble_eq_true_of_le h2]; rfl, rfl⟩
theorem good_good : ∀ l : List TL, aj (aj l) = aj l
 | [] => rfl
 | r :: l => by
  rw [aj]
  cases h : usB r.u r.s r.m r.d with
  | true => rw [cond_true, aj, h, cond_true, good_good l]
  | false => rw [cond_false, good_good l]
theorem ad_strict {h : List UInt8} {l : List TL} {ch ok : Bool} {ver : Int} {d : List (List UInt8)} {now : Int} {e : List (List UInt8)} (H : adC h l ch true ok ver d now e = true) :
  ok = true ∧ decide (ver ≥ 771) = true ∧ (l.isEmpty = false → anyC (aj (l.take 4)) d h now = true) ∧ (ch = true → (bY h now e (bV d) == 0) = true) := by
 unfold adC askC at H
 rw [cond_true, Bool.true_and] at H
 have hw : (whI (bY h now e (bV d)) == 0) = true → (bY h now e (bV d) == 0) = true := fun hq => by
  unfold whI at hq
  cases hj : (bY h now e (bV d) == 0) with
  | true => rfl
  | false =>
   rw [hj] at hq
   revert hq
   cases bY h now e (bV d) == 1 <;> cases bY h now e (bV d) == 2 <;> simp
 cases ok with
 | false => cases H
 | true =>
 cases hv : decide (ver < 771) with
 | true => rw [hv] at H; cases H
 | false =>
 rw [hv] at H
 refine ⟨rfl, decide_eq_true (by have := of_decide_eq_false hv; omega), fun hl => ?_, fun hc => ?_⟩
 ·rw [hl] at H
  cases hA : anyC (aj (l.take 4)) d h now with
  | true => rfl
  | false => rw [hA] at H; cases H
 ·subst hc
  cases hA : (!l.isEmpty && !anyC (aj (l.take 4)) d h now) with
  | true => rw [hA] at H; cases H
  | false => rw [hA] at H; exact hw H
theorem tail1 {A ok v Y se J : Bool} (h : A = true → ok = true ∧ v = true ∧ ((Y = true ∧ se = true) ∨ J = true)) :
  bif !A then True else bif ok then bif v then bif Y then bif se then True else V.bool J = V.bool true else V.bool J = V.bool true else V.bool false = V.bool true else V.bool false = V.bool true := by
 cases A with
 | false => exact trivial
 | true =>
  obtain ⟨h1, h2, h3⟩ := h rfl
  subst h1 h2
  rcases h3 with ⟨rfl, rfl⟩ | rfl
  ·exact trivial
  ·cases Y <;> cases se <;> first | exact trivial | rfl
theorem sec_se {pl rq : Bool} {co : Int} {se : Bool} {n : Nat} (h : secB pl rq co se n = true) : se = true := by
 unfold secB at h
 simp only [Bool.and_eq_true] at h
 exact h.2.2.1
theorem keys_good {pl rq : Bool} {co : Int} {se : Bool} {l : List TL} {d : List (List UInt8)} {h : List UInt8} {now : Int} (hs : secB pl rq co se l.length = true) (hA : anyC (aj ((aK pl rq co se l.length (tls l)).take 4)) d h now = true) : anyC (aj (l.take 4)) d h now = true := by
 have e : aK pl rq co se l.length (tls l) = aj (l.take 4) := by unfold aK usaL; rw [hs, bS]; rfl
 rw [e] at hA
 have hl : (aj (l.take 4)).length ≤ 4 := by
  have := good_len (l.take 4)
  rw [List.length_take] at this; omega
 rw [List.take_of_length_le hl, good_good] at hA
 exact hA
theorem ef_three (mo : Int) (hm : (mo == 3) = true) : efB false false true mo = true := by unfold efB; simpa using hm
theorem less_c1 (pl : Bool) (h : List UInt8) (mx : Bool) (co : Int) (se : Bool) (x1 : Value) (n1 : Nat) (c1 : List V) (x2 : Value) (n2 : Nat) (c2 : List V) (x3 : Value) (l3 : List TL) (ha : Bool) (mo : Int) (x4 : Value) (l4 : List (List UInt8)) (ag : Int) (ok : Bool) (ver : Int) (p : Value) (d : List (List UInt8)) (now : Int) (y : Value) (e : List (List UInt8)) (h3 : l3.length ≤ 9223372036854775807) (hu : l3.all inU = true) (h4 : l4.length ≤ 9223372036854775807) (h5 : d.length ≤ 9223372036854775807) (h6 : e.length ≤ 9223372036854775807) :
  FnSat Tryz.prog 6 [.agg [.bool pl, .bool true, .str h, .bool mx, .int .u8 co, .bool se, .lst x1 n1 c1, .lst x2 n2 c2, lstT x3 l3, .bool ha, .int .u8 mo, lstS x4 l4, .int .i64 ag], .agg [.bool ok, .int .u16 ver, lstS p d], .int .i64 now, lstS y e] [] (fun v _ => v = .bool true) := by
 refine runW_ok (lim := 9) (n := 10) ay NLT_ok ?_
 unfold lstT lstS
 refine cast (less_t1 longOK longV largeV' adOK adV yOK yV jOK jV pl h mx co se x1 n1 c1 x2 n2 c2 x3 l3.length (tls l3) ha mo x4 l4.length (strs l4) ag ok ver p d.length (strs d) now y e.length (strs e) (fun v => v = .bool true)).symm ?_
 have hk : (okT l3.length (tls l3) && okS l4.length (strs l4)) = true := by rw [okT_mk h3, okS_mk h4]; rfl
 have kl := keys_len pl true co se l3.length (tls l3)
 have ka : (aK pl true co se l3.length (tls l3)).all inU = true := keys_all (by rw [bS]; exact hu)
 have hv : cb (stL pl true h mx co se x1 n1 c1 x2 n2 c2 x3 l3.length (tls l3) ha mo x4 l4.length (strs l4) ag ok ver p d.length (strs d)) (V.slice 2 0 (aK pl true co se l3.length (tls l3)).length false 0 0) = some (true, aK pl true co se l3.length (tls l3)) := by
  refine view_tls (z := []) (.inl ⟨51, 4, ?_⟩) false 0 0
  unfold stL
  rw [shT, List.append_nil]; rfl
 obtain ⟨a1, a2, _⟩ := ad_view hv ka (by omega) p d h5 y e h6
 obtain ⟨b1, b2, _⟩ := ad_view (st := []) (P := .nilSlice) (l := []) rfl rfl (by simp) p d h5 y e h6
 obtain ⟨y1, y2⟩ := y_lst [] x3 l3 p d h now h3 h5 hu
 obtain ⟨j1, j2⟩ := j_lst [] p y d e h now h5 h6
 have hz : (((aK pl true co se l3.length (tls l3)).length : Int) == 0) = (aK pl true co se l3.length (tls l3)).isEmpty := by
  cases aK pl true co se l3.length (tls l3) <;> simp <;> omega
 have hp : decide (((aK pl true co se l3.length (tls l3)).length : Int) > 0) = !(aK pl true co se l3.length (tls l3)).isEmpty := by
  cases aK pl true co se l3.length (tls l3) <;> simp
 simp only [adX, hk, long_nil p d h5, long_nil y e h6, a1, a2, b1, b2, y1, y2, j1, j2, hz, hp, cond_true, Bool.true_and, beq_self_eq_true, Bool.not_true, cond_false]
 refine ac (fun _ => trivial) (fun _ => ?_)
 refine ac (fun _ => trivial) (fun _ => ?_)
 refine ac (fun _ => trivial) (fun _ => ?_)
 refine ac (fun hn => ?_) (fun _ => ?_)
 ·have : mx = false := by
   unfold notB knB at hn
   cases mx with
   | false => rfl
   | true => simp at hn
  rw [this]; trivial
 refine ac (fun hs => ?_) (fun hs => ?_)
 ·have hse := sec_se hs
  cases hKE : (aK pl true co se l3.length (tls l3)).isEmpty with
  | true =>
   have hc : chB pl true co se l3.length (tls l3) ha mo = true := by unfold chB; rw [hKE]; rfl
   simp only [hc, cond_true, Bool.not_true, cond_false]
   exact tail1 fun H => by
    obtain ⟨q1, q2, _, q4⟩ := ad_strict H
    exact ⟨q1, q2, .inr (q4 rfl)⟩
  | false =>
   have hc : chB pl true co se l3.length (tls l3) ha mo = false := by unfold chB; rw [hKE]; rfl
   simp only [hc, cond_true, Bool.not_true, Bool.not_false, cond_false]
   exact tail1 fun H => by
    obtain ⟨q1, q2, q3, _⟩ := ad_strict H
    exact ⟨q1, q2, .inl ⟨keys_good hs (q3 hKE), hse⟩⟩
 ·exact tail1 fun H => by
   obtain ⟨q1, q2, _, q4⟩ := ad_strict H
   exact ⟨q1, q2, .inr (q4 rfl)⟩
theorem less_c2  (h : List UInt8) (mx : Bool) (co : Int) (se : Bool) (x1 : Value) (n1 : Nat) (c1 : List V) (x2 : Value) (n2 : Nat) (c2 : List V) (x3 : Value) (l3 : List TL) (ha : Bool) (mo : Int) (x4 : Value) (l4 : List (List UInt8)) (ag : Int) (ok : Bool) (ver : Int) (p : Value) (d : List (List UInt8)) (now : Int) (y : Value) (e : List (List UInt8)) (h3 : l3.length ≤ 9223372036854775807) (hu : l3.all inU = true) (h4 : l4.length ≤ 9223372036854775807) (h5 : d.length ≤ 9223372036854775807) (h6 : e.length ≤ 9223372036854775807) :
  FnSat Tryz.prog 6 [.agg [.bool true, .bool false, .str h, .bool mx, .int .u8 co, .bool se, .lst x1 n1 c1, .lst x2 n2 c2, lstT x3 l3, .bool ha, .int .u8 mo, lstS x4 l4, .int .i64 ag], .agg [.bool ok, .int .u16 ver, lstS p d], .int .i64 now, lstS y e] [] (fun v _ => v = .bool true) := by
 refine runW_ok (lim := 9) (n := 10) ay NLT_ok ?_
 unfold lstT lstS
 refine cast (less_t2 longOK longV largeV' adOK adV yOK yV jOK jV  h mx co se x1 n1 c1 x2 n2 c2 x3 l3.length (tls l3) ha mo x4 l4.length (strs l4) ag ok ver p d.length (strs d) now y e.length (strs e) (fun v => v = .bool true)).symm ?_
 have hk : (okT l3.length (tls l3) && okS l4.length (strs l4)) = true := by rw [okT_mk h3, okS_mk h4]; rfl
 have kl := keys_len true false co se l3.length (tls l3)
 have ka : (aK true false co se l3.length (tls l3)).all inU = true := keys_all (by rw [bS]; exact hu)
 have hv : cb (stL true false h mx co se x1 n1 c1 x2 n2 c2 x3 l3.length (tls l3) ha mo x4 l4.length (strs l4) ag ok ver p d.length (strs d)) (V.slice 2 0 (aK true false co se l3.length (tls l3)).length false 0 0) = some (true, aK true false co se l3.length (tls l3)) := by
  refine view_tls (z := []) (.inl ⟨51, 4, ?_⟩) false 0 0
  unfold stL
  rw [shT, List.append_nil]; rfl
 obtain ⟨a1, a2, _⟩ := ad_view hv ka (by omega) p d h5 y e h6
 obtain ⟨b1, b2, _⟩ := ad_view (st := []) (P := .nilSlice) (l := []) rfl rfl (by simp) p d h5 y e h6
 obtain ⟨y1, y2⟩ := y_lst [] x3 l3 p d h now h3 h5 hu
 obtain ⟨j1, j2⟩ := j_lst [] p y d e h now h5 h6
 have hz : (((aK true false co se l3.length (tls l3)).length : Int) == 0) = (aK true false co se l3.length (tls l3)).isEmpty := by
  cases aK true false co se l3.length (tls l3) <;> simp <;> omega
 have hp : decide (((aK true false co se l3.length (tls l3)).length : Int) > 0) = !(aK true false co se l3.length (tls l3)).isEmpty := by
  cases aK true false co se l3.length (tls l3) <;> simp
 simp only [adX, hk, long_nil p d h5, long_nil y e h6, a1, a2, b1, b2, y1, y2, j1, j2, hz, hp, cond_true, Bool.true_and, beq_self_eq_true, Bool.not_true, cond_false]
 refine ac (fun _ => trivial) (fun _ => ?_)
 refine ac (fun _ => trivial) (fun _ => ?_)
 refine ac (fun _ => trivial) (fun _ => ?_)
 trivial
theorem less_c3  (h : List UInt8) (mx : Bool) (co : Int) (se : Bool) (x1 : Value) (n1 : Nat) (c1 : List V) (x2 : Value) (n2 : Nat) (c2 : List V) (x3 : Value) (l3 : List TL) (mo : Int) (x4 : Value) (l4 : List (List UInt8)) (ag : Int) (ok : Bool) (ver : Int) (p : Value) (d : List (List UInt8)) (now : Int) (y : Value) (e : List (List UInt8)) (h3 : l3.length ≤ 9223372036854775807) (hu : l3.all inU = true) (h4 : l4.length ≤ 9223372036854775807) (h5 : d.length ≤ 9223372036854775807) (h6 : e.length ≤ 9223372036854775807) :
  FnSat Tryz.prog 6 [.agg [.bool false, .bool false, .str h, .bool mx, .int .u8 co, .bool se, .lst x1 n1 c1, .lst x2 n2 c2, lstT x3 l3, .bool false, .int .u8 mo, lstS x4 l4, .int .i64 ag], .agg [.bool ok, .int .u16 ver, lstS p d], .int .i64 now, lstS y e] [] (fun v _ => v = .bool true) := by
 refine runW_ok (lim := 9) (n := 10) ay NLT_ok ?_
 unfold lstT lstS
 refine cast (less_t3 longOK longV largeV' adOK adV yOK yV jOK jV  h mx co se x1 n1 c1 x2 n2 c2 x3 l3.length (tls l3) mo x4 l4.length (strs l4) ag ok ver p d.length (strs d) now y e.length (strs e) (fun v => v = .bool true)).symm ?_
 have hk : (okT l3.length (tls l3) && okS l4.length (strs l4)) = true := by rw [okT_mk h3, okS_mk h4]; rfl
 have kl := keys_len false false co se l3.length (tls l3)
 have ka : (aK false false co se l3.length (tls l3)).all inU = true := keys_all (by rw [bS]; exact hu)
 have hv : cb (stL false false h mx co se x1 n1 c1 x2 n2 c2 x3 l3.length (tls l3) false mo x4 l4.length (strs l4) ag ok ver p d.length (strs d)) (V.slice 2 0 (aK false false co se l3.length (tls l3)).length false 0 0) = some (true, aK false false co se l3.length (tls l3)) := by
  refine view_tls (z := []) (.inl ⟨51, 4, ?_⟩) false 0 0
  unfold stL
  rw [shT, List.append_nil]; rfl
 obtain ⟨a1, a2, _⟩ := ad_view hv ka (by omega) p d h5 y e h6
 obtain ⟨b1, b2, _⟩ := ad_view (st := []) (P := .nilSlice) (l := []) rfl rfl (by simp) p d h5 y e h6
 obtain ⟨y1, y2⟩ := y_lst [] x3 l3 p d h now h3 h5 hu
 obtain ⟨j1, j2⟩ := j_lst [] p y d e h now h5 h6
 have hz : (((aK false false co se l3.length (tls l3)).length : Int) == 0) = (aK false false co se l3.length (tls l3)).isEmpty := by
  cases aK false false co se l3.length (tls l3) <;> simp <;> omega
 have hp : decide (((aK false false co se l3.length (tls l3)).length : Int) > 0) = !(aK false false co se l3.length (tls l3)).isEmpty := by
  cases aK false false co se l3.length (tls l3) <;> simp
 simp only [adX, hk, long_nil p d h5, long_nil y e h6, a1, a2, b1, b2, y1, y2, j1, j2, hz, hp, cond_true, Bool.true_and, beq_self_eq_true, Bool.not_true, cond_false]
 refine ac (fun _ => trivial) (fun _ => ?_)
 refine ac (fun _ => trivial) (fun _ => ?_)
 refine ac (fun _ => trivial) (fun _ => ?_)
 refine ac (fun hs => ?_) (fun _ => trivial)
 cases hKE : (aK false false co se l3.length (tls l3)).isEmpty with
 | true =>
  simp only [Bool.not_true, cond_false]
  cases chB false false co se l3.length (tls l3) false mo <;> trivial
 | false =>
  have hc : chB false false co se l3.length (tls l3) false mo = false := by unfold chB; rw [hKE]; rfl
  simp only [hc, Bool.not_false, cond_true, cond_false]
theorem less_c4  (h : List UInt8) (mx : Bool) (co : Int) (se : Bool) (x1 : Value) (n1 : Nat) (c1 : List V) (x2 : Value) (n2 : Nat) (c2 : List V) (x3 : Value) (l3 : List TL) (mo : Int) (x4 : Value) (l4 : List (List UInt8)) (ag : Int) (ok : Bool) (ver : Int) (p : Value) (d : List (List UInt8)) (now : Int) (y : Value) (e : List (List UInt8)) (h3 : l3.length ≤ 9223372036854775807) (hu : l3.all inU = true) (h4 : l4.length ≤ 9223372036854775807) (h5 : d.length ≤ 9223372036854775807) (h6 : e.length ≤ 9223372036854775807) :
  FnSat Tryz.prog 6 [.agg [.bool false, .bool false, .str h, .bool mx, .int .u8 co, .bool se, .lst x1 n1 c1, .lst x2 n2 c2, lstT x3 l3, .bool true, .int .u8 mo, lstS x4 l4, .int .i64 ag], .agg [.bool ok, .int .u16 ver, lstS p d], .int .i64 now, lstS y e] [] (fun v _ => v = .bool true) := by
 refine runW_ok (lim := 9) (n := 10) ay NLT_ok ?_
 unfold lstT lstS
 refine cast (less_t4 longOK longV largeV' adOK adV yOK yV jOK jV  h mx co se x1 n1 c1 x2 n2 c2 x3 l3.length (tls l3) mo x4 l4.length (strs l4) ag ok ver p d.length (strs d) now y e.length (strs e) (fun v => v = .bool true)).symm ?_
 have hk : (okT l3.length (tls l3) && okS l4.length (strs l4)) = true := by rw [okT_mk h3, okS_mk h4]; rfl
 have kl := keys_len false false co se l3.length (tls l3)
 have ka : (aK false false co se l3.length (tls l3)).all inU = true := keys_all (by rw [bS]; exact hu)
 have hv : cb (stL false false h mx co se x1 n1 c1 x2 n2 c2 x3 l3.length (tls l3) true mo x4 l4.length (strs l4) ag ok ver p d.length (strs d)) (V.slice 2 0 (aK false false co se l3.length (tls l3)).length false 0 0) = some (true, aK false false co se l3.length (tls l3)) := by
  refine view_tls (z := []) (.inl ⟨51, 4, ?_⟩) false 0 0
  unfold stL
  rw [shT, List.append_nil]; rfl
 obtain ⟨a1, a2, _⟩ := ad_view hv ka (by omega) p d h5 y e h6
 obtain ⟨b1, b2, _⟩ := ad_view (st := []) (P := .nilSlice) (l := []) rfl rfl (by simp) p d h5 y e h6
 obtain ⟨y1, y2⟩ := y_lst [] x3 l3 p d h now h3 h5 hu
 obtain ⟨j1, j2⟩ := j_lst [] p y d e h now h5 h6
 have hz : (((aK false false co se l3.length (tls l3)).length : Int) == 0) = (aK false false co se l3.length (tls l3)).isEmpty := by
  cases aK false false co se l3.length (tls l3) <;> simp <;> omega
 have hp : decide (((aK false false co se l3.length (tls l3)).length : Int) > 0) = !(aK false false co se l3.length (tls l3)).isEmpty := by
  cases aK false false co se l3.length (tls l3) <;> simp
 simp only [adX, hk, long_nil p d h5, long_nil y e h6, a1, a2, b1, b2, y1, y2, j1, j2, hz, hp, cond_true, Bool.true_and, beq_self_eq_true, Bool.not_true, cond_false]
 refine ac (fun _ => trivial) (fun _ => ?_)
 refine ac (fun _ => trivial) (fun _ => ?_)
 refine ac (fun _ => trivial) (fun _ => ?_)
 cases hm : (mo == 3) with
 | true =>
  simp only [cond_true, Bool.not_true, cond_false]
  refine ac (fun hs => ?_) (fun hs => ?_)
  ·have hse := sec_se hs
   cases hKE : (aK false false co se l3.length (tls l3)).isEmpty with
   | true =>
    have hc : chB false false co se l3.length (tls l3) true mo = true := by unfold chB; rw [hKE]; exact ef_three mo hm
    simp only [hc, cond_true, Bool.not_true, cond_false]
    exact tail1 fun H => by
     obtain ⟨q1, q2, _, q4⟩ := ad_strict H
     exact ⟨q1, q2, .inr (q4 rfl)⟩
   | false =>
    have hc : chB false false co se l3.length (tls l3) true mo = false := by unfold chB; rw [hKE]; rfl
    simp only [hc, cond_true, Bool.not_true, Bool.not_false, cond_false]
    exact tail1 fun H => by
     obtain ⟨q1, q2, q3, _⟩ := ad_strict H
     exact ⟨q1, q2, .inl ⟨keys_good hs (q3 hKE), hse⟩⟩

  ·have he := ef_three mo hm
   simp only [he, cond_true, Bool.not_true, cond_false]
   exact tail1 fun H => by
    obtain ⟨q1, q2, _, q4⟩ := ad_strict H
    exact ⟨q1, q2, .inr (q4 rfl)⟩
 | false =>
  simp only [cond_true, Bool.not_false, cond_false]
  refine ac (fun hs => ?_) (fun _ => ?_)
  ·cases hKE : (aK false false co se l3.length (tls l3)).isEmpty with
   | true =>
    simp only [Bool.not_true, cond_false]
    cases chB false false co se l3.length (tls l3) true mo <;> trivial
   | false =>
    have hc : chB false false co se l3.length (tls l3) true mo = false := by unfold chB; rw [hKE]; rfl
    simp only [hc, Bool.not_false, cond_true, cond_false]
  ·cases efB false false true mo <;> trivial
theorem less_close (pl rq : Bool) (h : List UInt8) (mx : Bool) (co : Int) (se : Bool) (x1 : Value) (n1 : Nat) (c1 : List V) (x2 : Value) (n2 : Nat) (c2 : List V) (x3 : Value) (l3 : List TL) (ha : Bool) (mo : Int) (x4 : Value) (l4 : List (List UInt8)) (ag : Int) (ok : Bool) (ver : Int) (p : Value) (d : List (List UInt8)) (now : Int) (y : Value) (e : List (List UInt8)) (h3 : l3.length ≤ 9223372036854775807) (hu : l3.all inU = true) (h4 : l4.length ≤ 9223372036854775807) (h5 : d.length ≤ 9223372036854775807) (h6 : e.length ≤ 9223372036854775807) :
  FnSat Tryz.prog 6 [.agg [.bool pl, .bool rq, .str h, .bool mx, .int .u8 co, .bool se, .lst x1 n1 c1, .lst x2 n2 c2, lstT x3 l3, .bool ha, .int .u8 mo, lstS x4 l4, .int .i64 ag], .agg [.bool ok, .int .u16 ver, lstS p d], .int .i64 now, lstS y e] [] (fun v _ => v = .bool true) := by
 cases rq with
 | true => exact less_c1 pl h mx co se x1 n1 c1 x2 n2 c2 x3 l3 ha mo x4 l4 ag ok ver p d now y e h3 hu h4 h5 h6
 | false =>
  cases pl with
  | true => exact less_c2 h mx co se x1 n1 c1 x2 n2 c2 x3 l3 ha mo x4 l4 ag ok ver p d now y e h3 hu h4 h5 h6
  | false =>
   cases ha with
   | false => exact less_c3 h mx co se x1 n1 c1 x2 n2 c2 x3 l3 mo x4 l4 ag ok ver p d now y e h3 hu h4 h5 h6
   | true => exact less_c4 h mx co se x1 n1 c1 x2 n2 c2 x3 l3 mo x4 l4 ag ok ver p d now y e h3 hu h4 h5 h6
end Go.Proofs.YtakfcajmfgnchaaGreatDoor
