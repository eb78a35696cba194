/- How a chain is judged: what it comes to. -/
import Derived.Test.YtebkeppoicllmaaDoorReadC
import Derived.Test.YtebkeppoicllmaaDoorAnch
namespace Go.Proofs.YtebkeppoicllmaaDoor
open Go.IntKind (u8 u16 u32 u64 i8 i16 i32 i64)
open Go Go.Vm Go.RowKit
set_option linter.unusedVariables false
set_option maxRecDepth 100000
set_option linter.unusedSectionVars false
variable [Φ:Frz]
noncomputable def JG0:Tab:=⟨addT noT 17 readT,addS (addS (addS noL 15 oW) 11 hostG) 8 anG,bf 9⟩
theorem JG0_ok:TabOk3 Tryd.prog JG0:=⟨b8 aL readT_ok,cQ (cQ (cQ aM nJ) hostG_ok) anG_ok,au 9⟩
theorem jg_tree(x:Value)(n:Nat)(cs:List V)(h:List UInt8)(now:Int)(y:Value)(m:Nat)(ds:List V)(R:V→Prop):runW Tryd.prog JG0 9 10 9 [.lst x n cs,.str h,.int .i64 now,.lst y m ds] R=
  (
 bif okS n cs&&(rdN (List.map aa cs)).beq 0 then R (.int u8 3)else bif okS n cs&&(rdN (List.map aa cs)).beq 1 then bif (dN (rdG (List.map aa cs)
 0)*1).ble (strs (dL (rdG (List.map aa cs) 0))).length&&((List.take (dN (rdG (List.map aa cs) 0)*1) (strs (dL (rdG (List.map aa cs) 0)))).all aw&&
 (List.take (dN (rdG (List.map aa cs) 0)*1) (strs (dL (rdG (List.map aa cs) 0)))).length.beq (dN (rdG (List.map aa cs) 0)))then bif !aS (dF (rdG
 (List.map aa cs) 0)) (dU (rdG (List.map aa cs) 0)) now then R (.int u8 1)else bif (dN (rdG (List.map aa cs) 0)*1).ble (strs (dL (rdG (List.map
 aa cs) 0))).length&&((List.take (dN (rdG (List.map aa cs) 0)*1) (strs (dL (rdG (List.map aa cs) 0)))).all aw&&(List.take (dN (rdG (List.map aa
 cs) 0)*1) (strs (dL (rdG (List.map aa cs) 0)))).length.beq (dN (rdG (List.map aa cs) 0)))&&(List.map aa (List.take (dN (rdG (List.map aa cs) 0)*1)
 (strs (dL (rdG (List.map aa cs) 0))))).length.ble 9223372036854775807 then bif !hasH (List.map aa (List.take (dN (rdG (List.map aa cs) 0)*1) (strs (dL (rdG
 (List.map aa cs) 0))))) h then R (.int u8 2)else bif true&&(isCr [.row [.str (dK (rdG (List.map aa cs) 0)),.str (dG (rdG (List.map aa cs)
 0)),.nos 1 (dN (rdG (List.map aa cs) 0)),.int i64 (dF (rdG (List.map aa cs) 0)),.int i64 (dU (rdG (List.map aa cs) 0)),.bool (dCa (rdG
 (List.map aa cs) 0))] 27 6,.ro true (strs (dL (rdG (List.map aa cs) 0)))] [.str (dK (rdG (List.map aa cs) 0)),.str (dG (rdG (List.map aa cs) 0)),
 .nos 1 (dN (rdG (List.map aa cs) 0)),.int i64 (dF (rdG (List.map aa cs) 0)),.int i64 (dU (rdG (List.map aa cs) 0)),.bool (dCa (rdG
 (List.map aa cs) 0))]&&true)&&(ds.length.beq (m*1)&&(ds.all aw&&ds.length.beq m)&&(true&&(List.map aa ds).length.ble 9223372036854775807))then
 bif !aX now (List.map aa ds) none [{k:=(dK (rdG (List.map aa cs) 0)),g:=(dG (rdG (List.map aa cs) 0)),l:=List.map aa (List.take (dN (rdG (List.map aa cs) 0)*1) (strs (dL (rdG (List.map aa cs) 0)))),f:=dF (rdG (List.map aa cs) 0),u:=dU (rdG (List.map aa cs) 0),ca:=dCa (rdG (List.map aa cs) 0)}]
 then R (.int u8 3)else R (.int u8 0)else False else False else False else bif okS n cs&&(rdN (List.map aa cs)).beq 2 then bif (dN (rdG (List.map
 aa cs) 0)*1).ble (strs (dL (rdG (List.map aa cs) 0))).length&&((List.take (dN (rdG (List.map aa cs) 0)*1) (strs (dL (rdG (List.map aa cs) 0)))).all
 aw&&(List.take (dN (rdG (List.map aa cs) 0)*1) (strs (dL (rdG (List.map aa cs) 0)))).length.beq (dN (rdG (List.map aa cs) 0)))then bif !aS (dF
 (rdG (List.map aa cs) 0)) (dU (rdG (List.map aa cs) 0)) now then R (.int u8 1)else bif (dN (rdG (List.map aa cs) 0)*1).ble (strs (dL (rdG
 (List.map aa cs) 0))).length&&((List.take (dN (rdG (List.map aa cs) 0)*1) (strs (dL (rdG (List.map aa cs) 0)))).all aw&&(List.take (dN (rdG
 (List.map aa cs) 0)*1) (strs (dL (rdG (List.map aa cs) 0)))).length.beq (dN (rdG (List.map aa cs) 0)))&&(List.map aa (List.take (dN (rdG (List.map
 aa cs) 0)*1) (strs (dL (rdG (List.map aa cs) 0))))).length.ble 9223372036854775807 then bif !hasH (List.map aa (List.take (dN (rdG (List.map aa cs) 0)*
 1) (strs (dL (rdG (List.map aa cs) 0))))) h then R (.int u8 2)else bif true&&(isCr [.row [.str (dK (rdG (List.map aa cs) 0)),.str (dG (rdG
 (List.map aa cs) 0)),.nos 1 (dN (rdG (List.map aa cs) 0)),.int i64 (dF (rdG (List.map aa cs) 0)),.int i64 (dU (rdG (List.map aa cs)
 0)),.bool (dCa (rdG (List.map aa cs) 0)),.str (dK (rdG (List.map aa cs) 1)),.str (dG (rdG (List.map aa cs) 1)),.nos 2 (dN (rdG (List.map aa cs)
 1)),.int i64 (dF (rdG (List.map aa cs) 1)),.int i64 (dU (rdG (List.map aa cs) 1)),.bool (dCa (rdG (List.map aa cs) 1))] 27 6,.ro
 true (strs (dL (rdG (List.map aa cs) 0))),.ro true (strs (dL (rdG (List.map aa cs) 1)))] [.str (dK (rdG (List.map aa cs) 0)),.str (dG (rdG (List.map
 aa cs) 0)),.nos 1 (dN (rdG (List.map aa cs) 0)),.int i64 (dF (rdG (List.map aa cs) 0)),.int i64 (dU (rdG (List.map aa cs) 0)),
 .bool (dCa (rdG (List.map aa cs) 0)),.str (dK (rdG (List.map aa cs) 1)),.str (dG (rdG (List.map aa cs) 1)),.nos 2 (dN (rdG (List.map aa cs) 1)),
 .int i64 (dF (rdG (List.map aa cs) 1)),.int i64 (dU (rdG (List.map aa cs) 1)),.bool (dCa (rdG (List.map aa cs) 1))]&&true)&&
 (ds.length.beq (m*1)&&(ds.all aw&&ds.length.beq m)&&(true&&(List.map aa ds).length.ble 9223372036854775807))then bif !aX now (List.map aa ds)
 none [{k:=(dK (rdG (List.map aa cs) 0)),g:=(dG (rdG (List.map aa cs) 0)),l:=List.map aa (List.take (dN (rdG (List.map aa cs) 0)*1) (strs (dL (rdG (List.map aa cs) 0)))),f:=dF (rdG (List.map aa cs) 0),u:=dU (rdG (List.map aa cs) 0),ca:=dCa (rdG (List.map aa cs) 0)},
 {k:=(dK (rdG (List.map aa cs) 1)),g:=(dG (rdG (List.map aa cs) 1)),l:=List.map aa (List.take (dN (rdG (List.map aa cs) 1)*1) (strs (dL (rdG (List.map aa cs) 1)))),f:=dF (rdG (List.map aa cs) 1),u:=dU (rdG (List.map aa cs) 1),ca:=dCa (rdG (List.map aa cs) 1)}]
 then R (.int u8 3)else R (.int u8 0)else False else False else False else bif okS n cs&&(rdN (List.map aa cs)).beq 3 then bif (dN (rdG (List.map
 aa cs) 0)*1).ble (strs (dL (rdG (List.map aa cs) 0))).length&&((List.take (dN (rdG (List.map aa cs) 0)*1) (strs (dL (rdG (List.map aa cs) 0)))).all
 aw&&(List.take (dN (rdG (List.map aa cs) 0)*1) (strs (dL (rdG (List.map aa cs) 0)))).length.beq (dN (rdG (List.map aa cs) 0)))then bif !aS (dF
 (rdG (List.map aa cs) 0)) (dU (rdG (List.map aa cs) 0)) now then R (.int u8 1)else bif (dN (rdG (List.map aa cs) 0)*1).ble (strs (dL (rdG
 (List.map aa cs) 0))).length&&((List.take (dN (rdG (List.map aa cs) 0)*1) (strs (dL (rdG (List.map aa cs) 0)))).all aw&&(List.take (dN (rdG
 (List.map aa cs) 0)*1) (strs (dL (rdG (List.map aa cs) 0)))).length.beq (dN (rdG (List.map aa cs) 0)))&&(List.map aa (List.take (dN (rdG (List.map
 aa cs) 0)*1) (strs (dL (rdG (List.map aa cs) 0))))).length.ble 9223372036854775807 then bif !hasH (List.map aa (List.take (dN (rdG (List.map aa cs) 0)*
 1) (strs (dL (rdG (List.map aa cs) 0))))) h then R (.int u8 2)else bif true&&(isCr [.row [.str (dK (rdG (List.map aa cs) 0)),.str (dG (rdG
 (List.map aa cs) 0)),.nos 1 (dN (rdG (List.map aa cs) 0)),.int i64 (dF (rdG (List.map aa cs) 0)),.int i64 (dU (rdG (List.map aa cs)
 0)),.bool (dCa (rdG (List.map aa cs) 0)),.str (dK (rdG (List.map aa cs) 1)),.str (dG (rdG (List.map aa cs) 1)),.nos 2 (dN (rdG (List.map aa cs)
 1)),.int i64 (dF (rdG (List.map aa cs) 1)),.int i64 (dU (rdG (List.map aa cs) 1)),.bool (dCa (rdG (List.map aa cs) 1)),.str (dK (rdG
 (List.map aa cs) 2)),.str (dG (rdG (List.map aa cs) 2)),.nos 3 (dN (rdG (List.map aa cs) 2)),.int i64 (dF (rdG (List.map aa cs) 2)),.int
 i64 (dU (rdG (List.map aa cs) 2)),.bool (dCa (rdG (List.map aa cs) 2))] 27 6,.ro true (strs (dL (rdG (List.map aa cs) 0))),.ro true (strs
 (dL (rdG (List.map aa cs) 1))),.ro true (strs (dL (rdG (List.map aa cs) 2)))] [.str (dK (rdG (List.map aa cs) 0)),.str (dG (rdG (List.map aa cs)
 0)),.nos 1 (dN (rdG (List.map aa cs) 0)),.int i64 (dF (rdG (List.map aa cs) 0)),.int i64 (dU (rdG (List.map aa cs) 0)),.bool (dCa (rdG
 (List.map aa cs) 0)),.str (dK (rdG (List.map aa cs) 1)),.str (dG (rdG (List.map aa cs) 1)),.nos 2 (dN (rdG (List.map aa cs) 1)),.int i64
 (dF (rdG (List.map aa cs) 1)),.int i64 (dU (rdG (List.map aa cs) 1)),.bool (dCa (rdG (List.map aa cs) 1)),.str (dK (rdG (List.map aa cs)
 2)),.str (dG (rdG (List.map aa cs) 2)),.nos 3 (dN (rdG (List.map aa cs) 2)),.int i64 (dF (rdG (List.map aa cs) 2)),.int i64 (dU (rdG
 (List.map aa cs) 2)),.bool (dCa (rdG (List.map aa cs) 2))]&&true)&&(ds.length.beq (m*1)&&(ds.all aw&&ds.length.beq m)&&(true&&(List.map aa
 ds).length.ble 9223372036854775807))then bif !aX now (List.map aa ds) none [{k:=(dK (rdG (List.map aa cs) 0)),g:=(dG (rdG (List.map aa cs) 0)),l:=List.map aa (List.take (dN (rdG (List.map aa cs) 0)*1) (strs (dL (rdG (List.map aa cs) 0)))),f:=dF (rdG (List.map aa cs) 0),u:=dU (rdG (List.map aa cs) 0),ca:=dCa (rdG (List.map aa cs) 0)},
 {k:=(dK (rdG (List.map aa cs) 1)),g:=(dG (rdG (List.map aa cs) 1)),l:=List.map aa (List.take (dN (rdG (List.map aa cs) 1)*1) (strs (dL (rdG (List.map aa cs) 1)))),f:=dF (rdG (List.map aa cs) 1),u:=dU (rdG (List.map aa cs) 1),ca:=dCa (rdG (List.map aa cs) 1)},
 {k:=(dK (rdG (List.map aa cs) 2)),g:=(dG (rdG (List.map aa cs) 2)),l:=List.map aa (List.take (dN (rdG (List.map aa cs) 2)*1) (strs (dL (rdG (List.map aa cs) 2)))),f:=dF (rdG (List.map aa cs) 2),u:=dU (rdG (List.map aa cs) 2),ca:=dCa (rdG (List.map aa cs) 2)}]
 then R (.int u8 3)else R (.int u8 0)else False else False else False else bif okS n cs then bif (dN (rdG (List.map aa cs) 0)*1).ble (strs (dL
 (rdG (List.map aa cs) 0))).length&&((List.take (dN (rdG (List.map aa cs) 0)*1) (strs (dL (rdG (List.map aa cs) 0)))).all aw&&(List.take (dN (rdG
 (List.map aa cs) 0)*1) (strs (dL (rdG (List.map aa cs) 0)))).length.beq (dN (rdG (List.map aa cs) 0)))then bif !aS (dF (rdG (List.map aa cs) 0))
 (dU (rdG (List.map aa cs) 0)) now then R (.int u8 1)else bif (dN (rdG (List.map aa cs) 0)*1).ble (strs (dL (rdG (List.map aa cs) 0))).length&&
 ((List.take (dN (rdG (List.map aa cs) 0)*1) (strs (dL (rdG (List.map aa cs) 0)))).all aw&&(List.take (dN (rdG (List.map aa cs) 0)*1) (strs (dL (rdG
 (List.map aa cs) 0)))).length.beq (dN (rdG (List.map aa cs) 0)))&&(List.map aa (List.take (dN (rdG (List.map aa cs) 0)*1) (strs (dL (rdG (List.map
 aa cs) 0))))).length.ble 9223372036854775807 then bif !hasH (List.map aa (List.take (dN (rdG (List.map aa cs) 0)*1) (strs (dL (rdG (List.map aa cs)
 0))))) h then R (.int u8 2)else bif true&&(isCr [.row [.str (dK (rdG (List.map aa cs) 0)),.str (dG (rdG (List.map aa cs) 0)),.nos 1 (dN (rdG
 (List.map aa cs) 0)),.int i64 (dF (rdG (List.map aa cs) 0)),.int i64 (dU (rdG (List.map aa cs) 0)),.bool (dCa (rdG (List.map aa cs)
 0)),.str (dK (rdG (List.map aa cs) 1)),.str (dG (rdG (List.map aa cs) 1)),.nos 2 (dN (rdG (List.map aa cs) 1)),.int i64 (dF (rdG (List.map
 aa cs) 1)),.int i64 (dU (rdG (List.map aa cs) 1)),.bool (dCa (rdG (List.map aa cs) 1)),.str (dK (rdG (List.map aa cs) 2)),.str (dG (rdG
 (List.map aa cs) 2)),.nos 3 (dN (rdG (List.map aa cs) 2)),.int i64 (dF (rdG (List.map aa cs) 2)),.int i64 (dU (rdG (List.map aa cs)
 2)),.bool (dCa (rdG (List.map aa cs) 2)),.str (dK (rdG (List.map aa cs) 3)),.str (dG (rdG (List.map aa cs) 3)),.nos 4 (dN (rdG (List.map aa cs)
 3)),.int i64 (dF (rdG (List.map aa cs) 3)),.int i64 (dU (rdG (List.map aa cs) 3)),.bool (dCa (rdG (List.map aa cs) 3))] 27 6,.ro
 true (strs (dL (rdG (List.map aa cs) 0))),.ro true (strs (dL (rdG (List.map aa cs) 1))),.ro true (strs (dL (rdG (List.map aa cs) 2))),.ro true
 (strs (dL (rdG (List.map aa cs) 3)))] [.str (dK (rdG (List.map aa cs) 0)),.str (dG (rdG (List.map aa cs) 0)),.nos 1 (dN (rdG (List.map aa cs) 0)),
 .int i64 (dF (rdG (List.map aa cs) 0)),.int i64 (dU (rdG (List.map aa cs) 0)),.bool (dCa (rdG (List.map aa cs) 0)),.str (dK (rdG
 (List.map aa cs) 1)),.str (dG (rdG (List.map aa cs) 1)),.nos 2 (dN (rdG (List.map aa cs) 1)),.int i64 (dF (rdG (List.map aa cs) 1)),.int
 i64 (dU (rdG (List.map aa cs) 1)),.bool (dCa (rdG (List.map aa cs) 1)),.str (dK (rdG (List.map aa cs) 2)),.str (dG (rdG (List.map aa cs)
 2)),.nos 3 (dN (rdG (List.map aa cs) 2)),.int i64 (dF (rdG (List.map aa cs) 2)),.int i64 (dU (rdG (List.map aa cs) 2)),.bool (dCa (rdG
 (List.map aa cs) 2)),.str (dK (rdG (List.map aa cs) 3)),.str (dG (rdG (List.map aa cs) 3)),.nos 4 (dN (rdG (List.map aa cs) 3)),.int i64
 (dF (rdG (List.map aa cs) 3)),.int i64 (dU (rdG (List.map aa cs) 3)),.bool (dCa (rdG (List.map aa cs) 3))]&&true)&&(ds.length.beq (m*1)&&
 (ds.all aw&&ds.length.beq m)&&(true&&(List.map aa ds).length.ble 9223372036854775807))then bif !aX now (List.map aa ds) none [{k:=(dK (rdG (List.map aa cs) 0)),g:=(dG (rdG (List.map aa cs) 0)),l:=List.map aa (List.take (dN (rdG (List.map aa cs) 0)*1) (strs (dL (rdG (List.map aa cs) 0)))),f:=dF (rdG (List.map aa cs) 0),u:=dU (rdG (List.map aa cs) 0),ca:=dCa (rdG (List.map aa cs) 0)},
 {k:=(dK (rdG (List.map aa cs) 1)),g:=(dG (rdG (List.map aa cs) 1)),l:=List.map aa (List.take (dN (rdG (List.map aa cs) 1)*1) (strs (dL (rdG (List.map aa cs) 1)))),f:=dF (rdG (List.map aa cs) 1),u:=dU (rdG (List.map aa cs) 1),ca:=dCa (rdG (List.map aa cs) 1)},
 {k:=(dK (rdG (List.map aa cs) 2)),g:=(dG (rdG (List.map aa cs) 2)),l:=List.map aa (List.take (dN (rdG (List.map aa cs) 2)*1) (strs (dL (rdG (List.map aa cs) 2)))),f:=dF (rdG (List.map aa cs) 2),u:=dU (rdG (List.map aa cs) 2),ca:=dCa (rdG (List.map aa cs) 2)},
 {k:=(dK (rdG (List.map aa cs) 3)),g:=(dG (rdG (List.map aa cs) 3)),l:=List.map aa (List.take (dN (rdG (List.map aa cs) 3)*1) (strs (dL (rdG (List.map aa cs) 3)))),f:=dF (rdG (List.map aa cs) 3),u:=dU (rdG (List.map aa cs) 3),ca:=dCa (rdG (List.map aa cs) 3)}]
 then R (.int u8 3)else R (.int u8 0)else False else False else False else False):=by kernel_rfl
def dO(h:List UInt8)(now:Int)(an:List (List UInt8)):List CR→Int
 |[]=>3
 |c::r=>bif !aS c.f c.u now then 1 else bif !hasH c.l h then 2 else bif !aX now an none (c::r)then 3 else 0
section
variable {h:List UInt8} {now:Int} {an:List (List UInt8)} {c:CR} {r:List CR}
theorem kS(h1:(!aS c.f c.u now)=true):dO h now an (c::r)=1:=by rw[dO,h1];rfl
theorem kR(h1:(!aS c.f c.u now)=false)(h2:(!hasH c.l h)=true):dO h now an (c::r)=2:=by rw[dO,h1,h2];rfl
theorem kQ(h1:(!aS c.f c.u now)=false)(h2:(!hasH c.l h)=false)(h3:(!aX now an none (c::r))=true):dO h now an (c::r)=3:=by rw[dO,h1,h2,h3];rfl
theorem kT(h1:(!aS c.f c.u now)=false)(h2:(!hasH c.l h)=false)(h3:(!aX now an none (c::r))=false):dO h now an (c::r)=0:=by rw[dO,h1,h2,h3];rfl
end
theorem judge_sat(x:Value)(l:List (List UInt8))(h:List UInt8)(now:Int)(y:Value)(an:List (List UInt8))(h1:l.length≤9223372036854775807)(h2:an.length≤9223372036854775807):
  FnSat Tryd.prog 9 [lstS x l,.str h,.int .i64 now,lstS y an] [] (Is (.int .u8 (dO h now an (fH l)),[])):=by
 refine aJ (lim:=9) (n:=10) aH JG0_ok rfl rfl ?_;unfold lstS;rw[jg_tree,aA,iL h1];have q1:∀s,(dN s*1).ble (strs (dL s)).length=true:=fun s=>by rw[aT,Nat.mul_one];exact Nat.ble_eq_true_of_le (Nat.le_refl _)
 have q2:∀s,List.take (dN s*1) (strs (dL s))=strs (dL s):=fun s=>List.take_of_length_le (by rw[aT,Nat.mul_one];exact Nat.le_refl _);have q3:∀s,(strs (dL s)).length.beq (dN s)=true:=fun s=>by rw[aT];exact Nat.beq_refl _
 have q4:∀s,(dL s).length.ble 9223372036854775807=true:=fun s=>Nat.ble_eq_true_of_le (by have:=dL_small s;omega);have q5:(strs an).length.beq (an.length*1)=true:=by rw[aT,Nat.mul_one];exact Nat.beq_refl _
 have q6:(strs an).length.beq an.length=true:=by rw[aT];exact Nat.beq_refl _
 have q7:an.length.ble 9223372036854775807=true:=Nat.ble_eq_true_of_le h2;simp only[q1,q2,q3,q4,q5,q6,q7,cS,aA,Bool.true_and,Bool.and_true,Bool.and_self,cond_true];have h4:=(rdN_le l).1;rcases(by omega:rdN l=0∨rdN l=1∨rdN l=2∨rdN l=3∨rdN l=4)with hj|hj|hj|hj|hj
 ·have hR:fH l=[]:=gx hj;rw[hR,hj];rfl
 ·have hR:fH l=[crOf (rdG l 0)]:=gx hj;rw[hR,hj,show Nat.beq 1 0=false from rfl,cond_false,show Nat.beq 1 1=true from rfl,cond_true];refine ab (fun a=>congrArg (V.int .u8) (kS (c:=crOf (rdG l 0)) a).symm) (fun a=>?_);refine ab (fun b=>congrArg (V.int .u8) (kR (c:=crOf (rdG l 0)) a b).symm) (fun b=>?_);refine ae (by show isCr _ (rdA (rdG l 0) 1 [])=true;exact((fA (k:=1) (s:=rdG l 0) rfl).1.trans rfl)) ?_;exact ab (fun d=>congrArg (V.int .u8) (kQ (c:=crOf (rdG l 0)) a b d).symm) (fun d=>congrArg (V.int .u8) (kT (c:=crOf (rdG l 0)) a b d).symm)
 ·have hR:fH l=[crOf (rdG l 0),crOf (rdG l 1)]:=gx hj;rw[hR,hj,show Nat.beq 2 0=false from rfl,cond_false,show Nat.beq 2 1=false from rfl,cond_false,show Nat.beq 2 2=true from rfl,cond_true];refine ab (fun a=>congrArg (V.int .u8) (kS (c:=crOf (rdG l 0)) a).symm) (fun a=>?_);refine ab (fun b=>congrArg (V.int .u8) (kR (c:=crOf (rdG l 0)) a b).symm) (fun b=>?_);refine ae (by show isCr _ (rdA (rdG l 0) 1 (rdA (rdG l 1) 2 []))=true;exact((fA (k:=1) (s:=rdG l 0) rfl).1.trans ((fA (k:=2) (s:=rdG l 1) rfl).1.trans rfl))) ?_;exact ab (fun d=>congrArg (V.int .u8) (kQ (c:=crOf (rdG l 0)) a b d).symm) (fun d=>congrArg (V.int .u8) (kT (c:=crOf (rdG l 0)) a b d).symm)
 ·have hR:fH l=[crOf (rdG l 0),crOf (rdG l 1),crOf (rdG l 2)]:=gx hj;rw[hR,hj,show Nat.beq 3 0=false from rfl,cond_false,show Nat.beq 3 1=false from rfl,cond_false,show Nat.beq 3 2=false from rfl,cond_false,show Nat.beq 3 3=true from rfl,cond_true];refine ab (fun a=>congrArg (V.int .u8) (kS (c:=crOf (rdG l 0)) a).symm) (fun a=>?_);refine ab (fun b=>congrArg (V.int .u8) (kR (c:=crOf (rdG l 0)) a b).symm) (fun b=>?_);refine ae (by show isCr _ (rdA (rdG l 0) 1 (rdA (rdG l 1) 2 (rdA (rdG l 2) 3 [])))=true;exact((fA (k:=1) (s:=rdG l 0) rfl).1.trans ((fA (k:=2) (s:=rdG l 1) rfl).1.trans ((fA (k:=3) (s:=rdG l 2) rfl).1.trans rfl)))) ?_;exact ab (fun d=>congrArg (V.int .u8) (kQ (c:=crOf (rdG l 0)) a b d).symm) (fun d=>congrArg (V.int .u8) (kT (c:=crOf (rdG l 0)) a b d).symm)
 ·have hR:fH l=[crOf (rdG l 0),crOf (rdG l 1),crOf (rdG l 2),crOf (rdG l 3)]:=gx hj;rw[hR,hj,show Nat.beq 4 0=false from rfl,cond_false,show Nat.beq 4 1=false from rfl,cond_false,show Nat.beq 4 2=false from rfl,cond_false,show Nat.beq 4 3=false from rfl,cond_false];refine ab (fun a=>congrArg (V.int .u8) (kS (c:=crOf (rdG l 0)) a).symm) (fun a=>?_);refine ab (fun b=>congrArg (V.int .u8) (kR (c:=crOf (rdG l 0)) a b).symm) (fun b=>?_);refine ae (by show isCr _ (rdA (rdG l 0) 1 (rdA (rdG l 1) 2 (rdA (rdG l 2) 3 (rdA (rdG l 3) 4 []))))=true;exact((fA (k:=1) (s:=rdG l 0) rfl).1.trans ((fA (k:=2) (s:=rdG l 1) rfl).1.trans ((fA (k:=3) (s:=rdG l 2) rfl).1.trans ((fA (k:=4) (s:=rdG l 3) rfl).1.trans rfl))))) ?_;exact ab (fun d=>congrArg (V.int .u8) (kQ (c:=crOf (rdG l 0)) a b d).symm) (fun d=>congrArg (V.int .u8) (kT (c:=crOf (rdG l 0)) a b d).symm)
end Go.Proofs.YtebkeppoicllmaaDoor
