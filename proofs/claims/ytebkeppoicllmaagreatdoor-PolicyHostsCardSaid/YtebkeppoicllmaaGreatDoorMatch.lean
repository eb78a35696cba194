/- Names: whether a pattern matches one: what it comes to. -/
import Derived.Test.YtebkeppoicllmaaGreatDoorMay
namespace Go.Proofs.YtebkeppoicllmaaGreatDoor
open Go Go.Vm Go.RowKit
set_option linter.unusedVariables false
set_option maxRecDepth 100000
set_option linter.unusedSectionVars false
variable [Φ:Frz]
theorem cp_tree(s:List UInt8)(R:V→Prop):runW Tryz.prog N0 9 20 78 [.str s,.str [42,46]] R=
  (
 bif decide ((↑s.length:Int)≥2)then bif true&&Nat.ble 2 s.length then bif !List.take 2 (List.drop 0 s)==[42,46]then R (.tuple [.str s,.bool false])else bif
 Nat.ble 2 s.length&&s.length.ble s.length then R (.tuple [.str (List.take (s.length-2) (List.drop 2 s)),.bool true])else False else False else R (.tuple [.str
 s,.bool false])):=by kernel_rfl
def fw(s:List UInt8):Bool:=s.take 2==[42,46]
def cpP:List V→Option V
 |[.str s,.str [42,46]]=>some (.tuple [.str (fH s),.bool (fw s)])
 |_=>none
theorem bare_star(s:List UInt8):fH s=bif fw s then s.drop 2 else s:=by
 unfold fH fw;by_cases h:s.take 2=[42,46]
 ·rw[if_pos h,h];rfl
 ·rw[if_neg h,(by simpa using h:(s.take 2==[42,46])=false)];rfl
theorem cp_ok(args:List V)(v:V)(h:cpP args=some v):FnSat Tryz.prog 78 args [] (Is (v,[])):=by
 unfold cpP at h;split at h
 ·rename_i s;cases h;refine ci (lim:=9) (n:=20) bQ N0_ok rfl rfl ?_;rw[cp_tree];have hb:fH s=bif fw s then s.drop 2 else s:=bare_star s
  refine az (fun h=>?_) (fun h=>?_)
  ·have h:=of_decide_eq_true h;refine bf (by rw[Bool.true_and];exact Nat.ble_eq_true_of_le (by omega)) ?_;rw[List.drop_zero];show bif !fw s then _ else _
   refine az (fun h2=>?_) (fun h2=>?_)
   ·rw[Bool.not_eq_true']at h2;rw[h2]at hb ⊢;rw[hb];rfl
   ·rw[Bool.not_eq_false']at h2;rw[h2]at hb ⊢;refine bf (by rw[Bool.and_eq_true];exact⟨Nat.ble_eq_true_of_le (by omega),Nat.ble_eq_true_of_le (Nat.le_refl _)⟩) ?_;rw[hb,List.take_of_length_le (by rw[List.length_drop];omega)];rfl
  ·have h:=of_decide_eq_false h;have h2:fw s=false:=by
    unfold fw;cases hq:(s.take 2==[42,46])with
    |false=>rfl
    |true=>
     have:=congrArg List.length (eq_of_beq hq);simp at this;omega
   rw[h2]at hb ⊢;rw[hb];rfl
 ·cases h
noncomputable def MP:Tab:=⟨addP (addT noT 123 cutP) 131 mayP,noL,c8 9⟩
theorem MP_ok:TabOk3 Tryz.prog MP:=⟨b9 (gE cp cut_ok) may_ok,cr,be 9⟩
theorem par_tree(s:List UInt8)(R:V→Prop):runW Tryz.prog MP 9 20 132 [.str s] R=
  (
 bif fB s then bif !cutM s then R (.tuple [.str [],.bool false])else bif !mayN s then R (.tuple [.str [],.bool false])else R (.tuple [.str (cutR s),.bool
 true])else False):=by kernel_rfl
def parB(s:List UInt8):Bool:=cutM s&&mayN s
def parP:List V→Option (List (Bool×(V×St)))
 |[.str s]=>some [(fB s,(.tuple [.str (bif parB s then cutR s else[]),.bool (parB s)],[]))]
 |_=>none
theorem par_ok(args:List V)(l:List (Bool×(V×St)))(o:V×St)(h:parP args=some l)(ho:a9 l=some o):FnSat Tryz.prog 132 args [] (Is o):=by
 unfold parP at h;split at h
 ·rename_i s;cases h;obtain⟨hk,rfl⟩:=ff ho;refine ci (lim:=9) (n:=20) bQ MP_ok rfl rfl ?_;rw[par_tree,hk,cond_true];unfold parB;cases cutM s<;>cases mayN s<;>rfl
 ·cases h
noncomputable def MQ:Tab:=⟨addP (addP (addT (addP noT 130 patP) 132 parP) 131 mayP) 78 cpP,noL,c8 9⟩
theorem MQ_ok:TabOk3 Tryz.prog MQ:=⟨b9 (b9 (gE (b9 cp pat_ok) par_ok) may_ok) cp_ok,cr,be 9⟩
theorem match_tree(p s:List UInt8)(R:V→Prop):runW Tryz.prog MQ 9 20 73 [.str p,.str s] R=
  (
 bif !patN p then R (.bool false)else bif !mayN s then R (.bool false)else bif fw p then bif fB s then bif parB s then R (.bool ((bif parB s then cutR s else
 [])==fH p))else R (.bool false)else False else R (.bool (p==s))):=by kernel_rfl
def cL(p s:List UInt8):Bool:=patN p&&(mayN s&&(bif fw p then parB s&&(cutR s==fH p)else p==s))
def matchP:List V→Option V
 |[.str p,.str s]=>some (.bool (cL p s))
 |_=>none
theorem may_len{s:List UInt8}(h:mayN s=true):s.length≤253:=by
 unfold mayN at h;rw[Bool.and_eq_true]at h;exact of_decide_eq_true h.1
theorem match_ok(args:List V)(v:V)(h:matchP args=some v):FnSat Tryz.prog 73 args [] (Is (v,[])):=by
 unfold matchP at h;split at h
 ·rename_i p s;cases h;refine ci (lim:=9) (n:=20) bQ MQ_ok rfl rfl ?_;rw[match_tree];unfold cL;cases h1:patN p with
  |false=>rfl
  |true=>
  cases h2:mayN s with
  |false=>rfl
  |true=>
  cases h3:fw p with
  |false=>rfl
  |true=>
  have hk:fB s=true:=decide_eq_true (by have:=may_len h2;omega);rw[hk];cases parB s<;>rfl
 ·cases h
end Go.Proofs.YtebkeppoicllmaaGreatDoor
