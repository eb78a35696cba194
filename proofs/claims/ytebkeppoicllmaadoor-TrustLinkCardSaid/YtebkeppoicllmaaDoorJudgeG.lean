/- How chains are judged, of whatever lists. -/
import Derived.Test.YtebkeppoicllmaaDoorJudge
namespace Go.Proofs.YtebkeppoicllmaaDoor
open Go Go.Vm Go.RowKit
set_option linter.unusedVariables false
set_option maxRecDepth 100000
set_option linter.unusedSectionVars false
variable [Φ:Frz]
def jOK(p q:V)(st:St):Bool:=match cC st p,cC st q with
 |some (b,l),some (c,r)=>b&&(c&&(Nat.ble l.length 9223372036854775807&&Nat.ble r.length 9223372036854775807))
 |_,_=>false
def jV(p:V)(h:List UInt8)(now:Int)(q:V)(st:St):Int:=match cC st p,cC st q with
 |some (_,l),some (_,an)=>dO h now an (fH l)
 |_,_=>0
def judgeGV(OK:V→V→St→Bool)(JV:V→List UInt8→Int→V→St→Int):List V→St→Option (List (Bool×(V×St)))
 |[p,.str h,.int .i64 now,q],st=>some [(OK p q st,(.int .u8 (JV p h now q st),st))]
 |_,_=>none
theorem judgeG_ok(args:List V)(s:St)(l:List (Bool×(V×St)))(o:V×St)(h:judgeGV jOK jV args s=some l)(ho:aP l=some o):FnSat Tryd.prog 9 args s (Is o):=by
 unfold judgeGV at h;split at h
 ·rename_i p hh now q;cases h;obtain⟨hb,rfl⟩:=cM ho;unfold jOK at hb;split at hb
  ·rename_i b ls c an hv hw;simp only[Bool.and_eq_true]at hb;obtain⟨rfl,rfl,h1,h2⟩:=hb;have hL:jV p hh now q s=dO hh now an (fH ls):=by unfold jV;rw[hv,hw]
   rw[hL];refine eN rfl fun B W0 w m rargs hr ha=>?_;obtain⟨x,r,q1,q2,rfl⟩:=ai ha;obtain⟨x2,r2,q3,q4,rfl⟩:=ai q2;obtain⟨x3,r3,q5,q6,rfl⟩:=ai q4;obtain⟨x4,r4,q7,q8,rfl⟩:=ai q6;have g1:=ed hr hv q1;have g2:=ed hr hw q7;have g3:=bE (Ψ:=Frz.of w) (m':=[]) _ _ rfl q3;have g4:=bE (Ψ:=Frz.of w) (m':=[]) _ _ rfl q5;have g5:=bH (Ψ:=Frz.of w) (m':=[]) _ _ rfl q8;exact⟨[lstS x ls,.str hh,.int .i64 now,lstS x4 an],@ay _ (Frz.of w) [] _ _ _ _ g1 (@ay _ (Frz.of w) [] _ _ _ _ g3 (@ay _ (Frz.of w) [] _ _ _ _ g4 (@ay _ (Frz.of w) [] _ _ _ _ g2 g5))),@judge_sat (Frz.of w) x ls hh now x4 an (Nat.le_of_ble_eq_true h1) (Nat.le_of_ble_eq_true h2)⟩
  ·cases hb
 ·cases h
end Go.Proofs.YtebkeppoicllmaaDoor
