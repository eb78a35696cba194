/- A loop's law where frame and memory are of a form. -/
import Derived.Test.YtebkeppoicllmaaGreatDoorBase
namespace Go.Proofs.YtebkeppoicllmaaGreatDoor
open Go Go.Vm Go.RowKit
set_option linter.unusedVariables false
set_option maxRecDepth 100000
set_option linter.unusedSectionVars false
variable [Φ:Frz]
def eZ(p0:Nat)(d:Fr→St→Bool)(T:Trans)(lk:Nat→Trans→Trans):Nat→Trans→Trans:=fun p body f st Q=>bif Nat.beq p p0&&d f st then T f st Q else lk p body f st Q
section
variable {P:Program} {ro:Option Nat} {k:Nat}
theorem aZ{p0:Nat}{ct:Fr→St→Bool}{T:Trans}{lk:Nat→Trans→Trans}:∀(c:Code) (p:Nat),cu P ro k lk p c→(∀c'∈aC p0 p c,∀f st Q,T f st Q→CodeSatW P ro k (.loop c') f st Q)→cu P ro k (eZ p0 ct T lk) p c
 |.seq a b,p,h,hT=>⟨aZ a _ h.1 fun c' hc=>hT c' (by simp only[aC,List.mem_append];exact .inl hc),aZ b _ h.2 fun c' hc=>hT c' (by simp only[aC,List.mem_append];exact .inr hc)⟩
 |.cond _ a b,p,h,hT=>⟨aZ a _ h.1 fun c' hc=>hT c' (by simp only[aC,List.mem_append];exact .inl hc),aZ b _ h.2 fun c' hc=>hT c' (by simp only[aC,List.mem_append];exact .inr hc)⟩
 |.block _ c,p,h,hT=>aZ c _ h fun c' hc=>hT c' (by simp only[aC];exact hc)
 |.scope c,p,h,hT=>aZ c _ h fun c' hc=>hT c' (by simp only[aC];exact hc)
 |.loop c,p,h,hT=>by
  refine⟨aZ c _ h.1 fun c' hc=>hT c' (by simp only[aC,List.mem_append];exact .inr hc),fun body hb f st Q hq=>?_⟩;unfold eZ at hq;cases hp:(Nat.beq p p0&&ct f st)with
  |true=>
   rw[hp,cond_true]at hq;rw[Bool.and_eq_true]at hp;exact hT c (by simp[aC,Nat.eq_of_beq_eq_true hp.1]) f st Q hq
  |false=>
   rw[hp,cond_false]at hq;exact h.2 body hb f st Q hq
 |.skip,_,_,_|.label _,_,_,_|.ret,_,_,_|.exit _,_,_,_|.region ..,_,_,_|.rangeFunc ..,_,_,_|.goto _,_,_,_|.refuse _,_,_,_=>trivial
theorem fnLoopDW{g:FuncId}{p0:Nat}{ct:Fr→St→Bool}{T:Trans}{lk:Nat→Trans→Trans}(hl:aX P k lk g)(hp:aC p0 1 (f9 P g)=[fU P g p0])(hT:∀f st Q,T f st Q→CodeSatW P none k (.loop (fU P g p0)) f st Q):aX P k (eZ p0 ct T lk) g:=by
 unfold aX at hl ⊢;unfold f9 at hp;split at hl
 ·rename_i fn hf;simp only[hf]at hp ⊢;split at hl
  ·rename_i c hb;simp only[hb,Option.getD_some]at hp ⊢;refine aZ c 1 hl fun c' hc=>?_;rw[hp]at hc;rw[List.mem_singleton.1 hc];exact hT
  ·trivial
 ·trivial
end
end Go.Proofs.YtebkeppoicllmaaGreatDoor
