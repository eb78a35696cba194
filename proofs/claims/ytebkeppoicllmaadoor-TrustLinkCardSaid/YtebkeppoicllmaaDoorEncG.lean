/- Certificates: one's bytes, as a table tells them. -/
import Derived.Test.YtebkeppoicllmaaDoorCert2
namespace Go.Proofs.YtebkeppoicllmaaDoor
open Go Go.Vm Go.RowKit
set_option linter.unusedVariables false
set_option linter.unusedSectionVars false
set_option maxRecDepth 100000
variable [Φ:Frz]
def encG:List V→St→Option (List (Bool×(V×St)))
 |[.agg [.str k,.str g,p,.int .i64 f,.int .i64 u,.bool ca]],st=>match cC st p with
  |some (b,l)=>some [(b&&Nat.ble l.length 9223372036854775807,(.tuple [.str (encB k g l f u ca),.int .i64 (encE k g l f u ca)],st))]
  |none=>none
 |_,_=>none
theorem encG_ok(args:List V)(s:St)(l:List (Bool×(V×St)))(o:V×St)(h:encG args s=some l)(ho:aP l=some o):FnSat Tryd.prog 18 args s (Is o):=by
 unfold encG at h;split at h
 ·rename_i k g p f u ca;split at h
  ·rename_i b ls hv;cases h;obtain⟨hb,rfl⟩:=cM ho;simp only[Bool.and_eq_true]at hb;obtain⟨rfl,h1⟩:=hb;refine eN rfl fun B W0 w m rargs hr ha=>?_;obtain⟨a,r,q1,q2,rfl⟩:=ai ha;simp only[af,Option.some.injEq]at q2;subst q2;obtain⟨y,hy⟩:=cert_frz hr hv q1;exact⟨[.agg [.str k,.str g,lstS y ls,.int .i64 f,.int .i64 u,.bool ca]],by simp only[af,hy],@en_sat (Frz.of w) k g y ls f u ca (Nat.le_of_ble_eq_true h1)⟩
  ·cases h
 ·cases h
end Go.Proofs.YtebkeppoicllmaaDoor
