/- A struct with one list in it, that stays. -/
import Derived.Test.YtebkeppoicllmaaGreatDoorBase
import Derived.Test.YtebkeppoicllmaaGreatDoorVmc
namespace Go.Proofs.YtebkeppoicllmaaGreatDoor
open Go Go.Vm Go.RowKit
set_option linter.unusedVariables false
set_option maxRecDepth 100000
set_option linter.unusedSectionVars false
theorem jM{Φ Ψ:Frz}{m m':List MB}{p:V}{b:List V}{f:Value→V}(hf:∀y,@real _ Φ m p=some y→@real _ Ψ m' (f y)=some y)(hb:bN b=true):∀(a:List V) (xs:List Value),bN a=true→@aa _ Φ m (a++p::b)=some xs→∃y,@aa _ Ψ m' (a++f y::b)=some xs
 |[],xs,_,h=>by
  obtain⟨y,r,q1,q2,rfl⟩:=@ah _ Φ m _ _ _ h;exact⟨y,@ao _ Ψ m' _ _ _ _ (hf y q1) (bH _ _ hb q2)⟩
 |v::a,xs,ha,h=>by
  obtain⟨z,r,q1,q2,rfl⟩:=@ah _ Φ m _ _ _ h;simp only[bN,Bool.and_eq_true]at ha;obtain⟨y,hy⟩:=jM hf hb a r ha.2 q2;exact⟨y,@ao _ Ψ m' _ _ _ _ (ec _ _ ha.1 q1) hy⟩
theorem agg_one{Φ Ψ:Frz}{m m':List MB}{p:V}{b:List V}{f:Value→V}(hf:∀y,@real _ Φ m p=some y→@real _ Ψ m' (f y)=some y)(a:List V)(ha:bN a=true)(hb:bN b=true){x:Value}(h:@real _ Φ m (.agg (a++p::b))=some x):∃y,@real _ Ψ m' (.agg (a++f y::b))=some x:=by
 obtain⟨xs,h0,rfl⟩:=@cg _ Φ m _ _ h;obtain⟨y,hy⟩:=jM hf hb a xs ha h0;exact⟨y,by simp only[real,hy]⟩
end Go.Proofs.YtebkeppoicllmaaGreatDoor
