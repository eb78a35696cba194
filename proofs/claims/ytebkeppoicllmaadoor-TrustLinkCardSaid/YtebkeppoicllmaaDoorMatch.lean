/- Names: whether a pattern matches one: what it comes to. -/
import Derived.Test.YtebkeppoicllmaaDoorMay
namespace Go.Proofs.YtebkeppoicllmaaDoor
open Go Go.Vm Go.RowKit
set_option linter.unusedVariables false
set_option maxRecDepth 100000
set_option linter.unusedSectionVars false
variable [Φ:Frz]
theorem cp_tree(s:List UInt8)(R:V→Prop):runW Tryd.prog N0 9 20 21 [.str s,.str [42,46]] R=
  (
 bif decide ((↑s.length:Int)≥2)then bif true&&Nat.ble 2 s.length then bif !List.take 2 (List.drop 0 s)==[42,46]then R (.tuple [.str s,.bool false])else bif
 Nat.ble 2 s.length&&s.length.ble s.length then R (.tuple [.str (List.take (s.length-2) (List.drop 2 s)),.bool true])else False else False else R (.tuple [.str
 s,.bool false])):=by kernel_rfl
def fC(s:List UInt8):Bool:=s.take 2==[42,46]
def cpP:List V→Option V
 |[.str s,.str [42,46]]=>some (.tuple [.str (eC s),.bool (fC s)])
 |_=>none
theorem bare_star(s:List UInt8):eC s=bif fC s then s.drop 2 else s:=by
 unfold eC fC;by_cases h:s.take 2=[42,46]
 ·rw[if_pos h,h];rfl
 ·rw[if_neg h,(by simpa using h:(s.take 2==[42,46])=false)];rfl
theorem cp_ok(args:List V)(v:V)(h:cpP args=some v):FnSat Tryd.prog 21 args [] (Is (v,[])):=by
 unfold cpP at h;split at h
 ·rename_i s;cases h;refine aJ (lim:=9) (n:=20) aH N0_ok rfl rfl ?_;rw[cp_tree];have hb:eC s=bif fC s then s.drop 2 else s:=bare_star s
  refine ab (fun h=>?_) (fun h=>?_)
  ·have h:=of_decide_eq_true h;refine ae (by rw[Bool.true_and];exact Nat.ble_eq_true_of_le (by omega)) ?_;rw[List.drop_zero];show bif !fC s then _ else _
   refine ab (fun h2=>?_) (fun h2=>?_)
   ·rw[Bool.not_eq_true']at h2;rw[h2]at hb ⊢;rw[hb];rfl
   ·rw[Bool.not_eq_false']at h2;rw[h2]at hb ⊢;refine ae (by rw[Bool.and_eq_true];exact⟨Nat.ble_eq_true_of_le (by omega),Nat.ble_eq_true_of_le (Nat.le_refl _)⟩) ?_;rw[hb,List.take_of_length_le (by rw[List.length_drop];omega)];rfl
  ·have h:=of_decide_eq_false h;have h2:fC s=false:=by
    unfold fC;cases hq:(s.take 2==[42,46])with
    |false=>rfl
    |true=>
     have:=congrArg List.length (eq_of_beq hq);simp at this;omega
   rw[h2]at hb ⊢;rw[hb];rfl
 ·cases h
noncomputable def MP:Tab:=⟨addP (addT noT 51 cutP) 36 mayP,noL,bf 9⟩
theorem MP_ok:TabOk3 Tryd.prog MP:=⟨aQ (b8 aL mh) lJ,aM,au 9⟩
theorem par_tree(s:List UInt8)(R:V→Prop):runW Tryd.prog MP 9 20 37 [.str s] R=
  (
 bif fJ s then bif !cutM s then R (.tuple [.str [],.bool false])else bif !mayN s then R (.tuple [.str [],.bool false])else R (.tuple [.str (cutR s),.bool
 true])else False):=by kernel_rfl
def parB(s:List UInt8):Bool:=cutM s&&mayN s
def parP:List V→Option (List (Bool×(V×St)))
 |[.str s]=>some [(fJ s,(.tuple [.str (bif parB s then cutR s else[]),.bool (parB s)],[]))]
 |_=>none
theorem par_ok(args:List V)(l:List (Bool×(V×St)))(o:V×St)(h:parP args=some l)(ho:aP l=some o):FnSat Tryd.prog 37 args [] (Is o):=by
 unfold parP at h;split at h
 ·rename_i s;cases h;obtain⟨hk,rfl⟩:=cM ho;refine aJ (lim:=9) (n:=20) aH MP_ok rfl rfl ?_;rw[par_tree,hk,cond_true];unfold parB;cases cutM s<;>cases mayN s<;>rfl
 ·cases h
noncomputable def MQ:Tab:=⟨addP (addP (addT (addP noT 35 patP) 37 parP) 36 mayP) 21 cpP,noL,bf 9⟩
theorem MQ_ok:TabOk3 Tryd.prog MQ:=⟨aQ (aQ (b8 (aQ aL pat_ok) par_ok) lJ) cp_ok,aM,au 9⟩
theorem match_tree(p s:List UInt8)(R:V→Prop):runW Tryd.prog MQ 9 20 22 [.str p,.str s] R=
  (
 bif !patN p then R (.bool false)else bif !mayN s then R (.bool false)else bif fC p then bif fJ s then bif parB s then R (.bool ((bif parB s then cutR s else
 [])==eC p))else R (.bool false)else False else R (.bool (p==s))):=by kernel_rfl
def iO(p s:List UInt8):Bool:=patN p&&(mayN s&&(bif fC p then parB s&&(cutR s==eC p)else p==s))
def matchP:List V→Option V
 |[.str p,.str s]=>some (.bool (iO p s))
 |_=>none
theorem may_len{s:List UInt8}(h:mayN s=true):s.length≤253:=by
 unfold mayN at h;rw[Bool.and_eq_true]at h;exact of_decide_eq_true h.1
theorem match_ok(args:List V)(v:V)(h:matchP args=some v):FnSat Tryd.prog 22 args [] (Is (v,[])):=by
 unfold matchP at h;split at h
 ·rename_i p s;cases h;refine aJ (lim:=9) (n:=20) aH MQ_ok rfl rfl ?_;rw[match_tree];unfold iO;cases h1:patN p with
  |false=>rfl
  |true=>
  cases h2:mayN s with
  |false=>rfl
  |true=>
  cases h3:fC p with
  |false=>rfl
  |true=>
  have hk:fJ s=true:=decide_eq_true (by have:=may_len h2;omega);rw[hk];cases parB s<;>rfl
 ·cases h
end Go.Proofs.YtebkeppoicllmaaDoor
