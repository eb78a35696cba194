/- The certificates that are read of a chain. -/
import Derived.Test.YtebkeppoicllmaaDoorRead
namespace Go.Proofs.YtebkeppoicllmaaDoor
open Go Go.Vm Go.RowKit
set_option linter.unusedVariables false
set_option maxRecDepth 100000
set_option linter.unusedSectionVars false
variable [Φ:Frz]
theorem dL_small(s:List UInt8):(dL s).length≤64:=by
 have key:∀c,decC s=some c→c.l.length≤64:=by
  intro c hc;unfold decC at hc;cases h1:ez s 48 with
  |false=>rw[h1]at hc;cases hc
  |true=>
   cases h2:(allE (ad s)!=0)with
   |true=>rw[h1,h2]at hc;cases hc
   |false=>
    rw[h1,h2,cond_true,cond_false]at hc;unfold decT at hc;split at hc
    ·rename_i x0 x1 x2 x3 x4 x5 _;have hb:∀{α:Type} {b:Bool} {x y:Option α} {z:α},(bif b then x else y)=some z→(b=true∧x=some z)∨(b=false∧y=some z):=by
      intro α b x y z h;cases b
      ·exact .inr ⟨rfl,h⟩
      ·exact .inl ⟨rfl,h⟩
     rcases hb hc with⟨_,hc⟩|⟨_,hc⟩
     ·rcases hb hc with⟨_,hc⟩|⟨_,hc⟩
      ·rcases hb hc with⟨_,hc⟩|⟨_,hc⟩
       ·cases hc
       ·rcases hb hc with⟨_,hc⟩|⟨_,hc⟩
        ·rcases hb hc with⟨_,hc⟩|⟨_,hc⟩
         ·cases hc;rw[List.length_map];exact ka x2.2
         ·cases hc
        ·cases hc
      ·cases hc
     ·cases hc
    ·cases hc
 unfold dL dCd decR;cases decide ((s.length:Int)>512)with
 |true=>simp
 |false=>
  rw[cond_false];cases hc:decC s with
  |none=>simp
  |some c=>exact key c hc
def crOf(s:List UInt8):CR:=⟨dK s,dG s,dL s,dF s,dU s,dCa s⟩
def fH(l:List (List UInt8)):List CR:=(ko l).map crOf
theorem nz:∀(l:List (List UInt8)) (i:Nat),i<(fM l).length→(fM l)[i]?=l[i]?
 |[],i,h=>by simp[fM]at h
 |s::r,i,h=>by
  rw[fM]at h ⊢;cases hs:(decE s==0)with
  |false=>rw[hs]at h;simp at h
  |true=>
   rw[hs,cond_true]at h;rw[cond_true];cases i with
   |zero=>rfl
   |succ i=>simpa using nz r i (by simpa using h)
theorem readS_get{l:List (List UInt8)}{i:Nat}(h:i<rdN l):(ko l)[i]?=some (rdG l i):=by
 have h1:=rdN_le l;unfold ko;rw[nz _ _ h];exact rd_at (by omega)
theorem gx{l:List (List UInt8)}{j:Nat}(h:rdN l=j):fH l=(List.range j).map fun i=>crOf (rdG l i):=by
 apply List.ext_getElem?;intro i;unfold fH;rw[List.getElem?_map,List.getElem?_map];rcases Nat.lt_or_ge i j with hi|hi
 ·rw[readS_get (by omega),List.getElem?_range hi];rfl
 ·rw[List.getElem?_eq_none (l:=ko l) (by show rdN l≤i;omega),List.getElem?_eq_none (by simp;omega)];rfl
theorem nm_at{st:St}{k:Nat}{s:List UInt8}(h:st[k]?=some (.ro true (strs (dL s)))):nmOk st (.nos k (dN s))=true∧Vm.nmD st (.nos k (dN s))=dL s:=by
 have hv:cC st (.nos k (dN s))=some (true,dL s):=by
  unfold cC eU dN;simp only[h,Nat.mul_one,aT];rw[List.take_of_length_le (by rw[aT];exact Nat.le_refl _),cS,aA,aT,Nat.beq_refl,Nat.ble_eq_true_of_le (Nat.le_refl _)];rfl
 unfold nmOk Vm.nmD;rw[hv];exact⟨by show(true&&Nat.ble (dL s).length 9223372036854775807)=true;rw[Bool.true_and];exact Nat.ble_eq_true_of_le (by have:=dL_small s;omega),rfl⟩
theorem fA{st:St}{k:Nat}{s:List UInt8}{r:List V}(h:st[k]?=some (.ro true (strs (dL s)))):isCr st (rdA s k r)=isCr st r∧crD st (rdA s k r)=crOf s::crD st r:=by
 obtain⟨h1,h2⟩:=nm_at h;refine⟨?_,?_⟩
 ·unfold isCr rdA;simp only[isCg,h1,aw,br,dP,decide_true,Bool.true_and]
 ·unfold rdA crOf;simp only[crD,h2,aa,al,dr]
end Go.Proofs.YtebkeppoicllmaaDoor
