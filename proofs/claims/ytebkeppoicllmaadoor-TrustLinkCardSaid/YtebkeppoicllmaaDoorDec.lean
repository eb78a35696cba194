/- Certificates: what is read of bytes, as a table tells it. -/
import Derived.Test.YtebkeppoicllmaaDoorCert4
namespace Go.Proofs.YtebkeppoicllmaaDoor
open Go Go.Vm Go.RowKit
set_option linter.unusedVariables false
set_option linter.unusedSectionVars false
set_option maxRecDepth 100000
variable [Φ:Frz]
def dCd(s:List UInt8):CD:=(decR s).getD ⟨[],[],[],0,0,false⟩
def dK(s:List UInt8):List UInt8:=(dCd s).k
def dG(s:List UInt8):List UInt8:=(dCd s).g
def dL(s:List UInt8):List (List UInt8):=(dCd s).l
def dN(s:List UInt8):Nat:=(dL s).length
def dF(s:List UInt8):Int:=(dCd s).f
def dU(s:List UInt8):Int:=(dCd s).u
def dCa(s:List UInt8):Bool:=(dCd s).ca
theorem jy(s:List UInt8):(decE s=0↔∃c,decR s=some c):=by
 unfold decE decR;cases decide ((s.length:Int)>512)with
 |true=>simp
 |false=>
  rw[cond_false,cond_false];cases decC s with
  |none=>simp
  |some c=>simp
def decG:List V→Option (List (Bool×(V×St)))
 |[.str s]=>some [(decE s !=0,(.tuple [mK,.int .i64 (decE s)],[])),(Nat.beq (dN s) 0,(.tuple [.agg [.str (dK s),.str (dG s),.nilSlice,.int .i64 (dF s),.int .i64 (dU s),.bool (dCa s)],.int .i64 0],[])),(true,(.tuple [.agg [.str (dK s),.str (dG s),.slice 0 0 (dN s) false 0 0,.int .i64 (dF s),.int .i64 (dU s),.bool (dCa s)],.int .i64 0],[.row (strs (dL s)) 9 1]))]
 |_=>none
theorem oV(args:List V)(l:List (Bool×(V×St)))(o:V×St)(h:decG args=some l)(ho:aP l=some o):FnSat Tryd.prog 29 args [] (Is o):=by
 unfold decG at h;split at h
 ·rename_i s;cases h;have key:o=outD s:=by
   cases hR:decR s with
   |none=>
    have hE:(decE s !=0)=true:=by
     cases hq:(decE s !=0)with
     |true=>rfl
     |false=>
      have:decE s=0:=by simpa using hq
      obtain⟨c,hc⟩:=(jy s).1 this;rw[hR]at hc;cases hc
    simp only[aP,hE,cond_true,Option.some.injEq]at ho;rw[←ho];unfold outD;rw[hR]
   |some c=>
    have hE:(decE s !=0)=false:=by
     have:=(jy s).2 ⟨c,hR⟩;rw[this];rfl
    have hc:dCd s=c:=by unfold dCd;rw[hR];rfl
    simp only[aP,hE,cond_false]at ho;unfold dN dK dG dL dF dU dCa at ho;rw[hc]at ho;unfold outD;rw[hR];cases hl:c.l with
    |nil=>
     rw[hl,show Nat.beq ([]:List (List UInt8)).length 0=true from rfl,cond_true]at ho;injection ho with ho
     rw[←ho];simp only[hl]
    |cons a r=>
     rw[hl,show Nat.beq (a::r).length 0=false from rfl,cond_false,cond_true]at ho;injection ho with ho
     rw[←ho];simp only[hl]
  rw[key];exact de_sat s
 ·cases h
end Go.Proofs.YtebkeppoicllmaaDoor
