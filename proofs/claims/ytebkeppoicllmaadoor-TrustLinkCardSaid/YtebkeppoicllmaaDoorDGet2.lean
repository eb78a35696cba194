/- Getting one thing, of texts however long; what is cut within one. -/
import Derived.Test.YtebkeppoicllmaaDoorDBack
namespace Go.Proofs.YtebkeppoicllmaaDoor
open Go Go.Vm Go.RowKit
set_option linter.unusedSectionVars false
variable [Φ:Frz]
set_option linter.unusedVariables false
set_option maxRecDepth 100000
def bi:List UInt8→Int
 |[]=>8
 |t::r=>if t.toNat%32=31 then 4 else if ef r=0 then(if IntKind.i64.wrap (((r.length+1:Nat):Int)-((1+bp r:Nat):Int))<bQ r then 8 else 0)else ef r
def aK(s:List UInt8):Int:=if bi s=0 then((s.getD 0 0).toNat:Int)else 0
def ad(s:List UInt8):List UInt8:=if bi s=0 then((s.drop 1).drop (bp (s.drop 1))).take (bQ (s.drop 1))else[]
def cH(s:List UInt8):List UInt8:=if bi s=0 then((s.drop 1).drop (bp (s.drop 1))).drop (bQ (s.drop 1))else[]
def getF2:List V→Option V
 |[.str s]=>some (.tuple [.agg [.int .u8 (aK s),.str (ad s)],.str (cH s),.int .i64 (bi s)])
 |_=>none
theorem get2_ok(args:List V)(v:V)(h:getF2 args=some v):FnSat Tryd.prog 57 args [] (Is (v,[])):=by
 unfold getF2 at h;split at h
 ·rename_i s;cases h;refine aJ (lim:=6) (n:=10) aH DT1_ok rfl rfl ?_;rw[get_tree];cases s with
  |nil=>rfl
  |cons t r=>
   have ht:=t.toNat_lt;have hz:=iC r;have e0:List.take ((t::r).length-1) (List.drop 1 (t::r))=r:=by simp
   have e1:IntKind.i64.wrap (1+(bp r:Int))=((1+bp r:Nat):Int):=by rw[IntWalk.i64_in _ ⟨by omega,by omega⟩];omega
   have e2:IntKind.i64.wrap (((1+bp r:Nat):Int)+(bQ r:Int))=((1+bp r+bQ r:Nat):Int):=by rw[IntWalk.i64_in _ ⟨by omega,by omega⟩];omega
   rw[e0];simp only[e1,e2,List.getD_cons_zero,and31 _ ht,Int.toNat_natCast,jB,ble_dec,Bool.true_and,List.length_cons];have hne:((t::r)==[])=false:=rfl;rw[hne,cond_false];have q1:decide (0<r.length+1)=true:=decide_eq_true (by omega);have q2:(decide (1≤r.length+1)&&decide (r.length+1≤r.length+1))=true:=by simp
   rw[q1,cond_true,q2,cond_true];refine ab (fun h=>?_) (fun h=>ab (fun h1=>?_) (fun h1=>ab (fun h2=>?_) (fun h2=>?_)))
   ·have:t.toNat%32=31:=by simp at h;omega
    simp[aK,ad,cH,bi,this]
   ·have h0:¬t.toNat%32=31:=by simp at h;omega
    have h1:¬ef r=0:=by simpa using h1
    simp[aK,ad,cH,bi,h0,h1]
   ·have h0:¬t.toNat%32=31:=by simp at h;omega
    have h1:ef r=0:=by simpa using h1
    have h2:=of_decide_eq_true h2;simp only[aK,ad,cH,bi,h0,h1,if_true,if_false];rw[if_pos h2];rfl
   ·have h0:¬t.toNat%32=31:=by simp at h;omega
    have h1:ef r=0:=by simpa using h1
    have h2:=of_decide_eq_false h2;have h3:bp r+bQ r≤r.length:=by
     rw[IntKind.wrap_i64]at h2;omega
    refine ae rfl (ae (decide_eq_true (by omega)) (ae (decide_eq_true (by omega)) (ae ?_ (ae (decide_eq_true (by omega)) (ae ?_ ?_)))))
    ·simp;omega
    ·simp;omega
    ·have f1:∀k,List.drop (1+k) (t::r)=List.drop k r:=fun k=>by rw[Nat.add_comm];rfl
     have e:bi (t::r)=0:=by simp only[bi,h0,h1,if_true,if_false];rw[if_neg h2]
     simp only[aK,ad,cH,e,if_true,List.getD_cons_zero,List.drop_succ_cons,List.drop_zero,Nat.add_assoc,f1,List.drop_drop];congr 5
     ·congr 2;congr 1;omega
     ·congr 2;rw[List.take_of_length_le (by simp;omega)]
 ·cases h
theorem getE2_eq{s:List UInt8}(h:s.length≤1099511627776):bi s=getE s:=by
 cases s with
 |nil=>rfl
 |cons t r=>
  have hz:=iC r;simp only[List.length_cons]at h;simp only[bi,getE];have e:IntKind.i64.wrap (((r.length+1:Nat):Int)-((1+bp r:Nat):Int))=(r.length:Int)-bp r:=by
   rw[IntWalk.i64_in _ ⟨by omega,by omega⟩];omega
  rw[e]
  (repeat' split)<;>omega
theorem get2_eq{s:List UInt8}(h:s.length≤1099511627776):bi s=getE s∧aK s=getT s∧ad s=getX s∧cH s=getR s:=by
 have e:=getE2_eq h;refine⟨e,?_,?_,?_⟩<;>simp only[aK,getT,ad,getX,cH,getR,e]
end Go.Proofs.YtebkeppoicllmaaDoor
