/- DerBack and DerOne: what they come to. -/
import Derived.Test.YtebkeppoicllmaaDoorDFns
namespace Go.Proofs.YtebkeppoicllmaaDoor
open Go Go.Vm Go.RowKit
set_option linter.unusedSectionVars false
variable [Φ:Frz]
set_option linter.unusedVariables false
set_option maxRecDepth 100000
theorem gf{n:Nat}(h:n<256):(UInt8.ofNat n).toNat=n:=by simp only[UInt8.toNat_ofNat'];omega
theorem fX(a:UInt8):UInt8.ofNat a.toNat=a:=by simp
theorem size_len(n:Nat)(hn:n≤65535)(s:List UInt8):cv (lenB n++s)=(n,(lenB n).length,0):=by
 unfold lenB;split
 ·rename_i h;have h1:(UInt8.ofNat (n/256)).toNat=n/256:=gf (by omega);have h2:(UInt8.ofNat n).toNat=n%256:=by simp only[UInt8.toNat_ofNat']
  have h0:(130:UInt8).toNat=130:=rfl;simp only[List.cons_append,List.nil_append,cv,h0,h1,h2];rw[if_neg (by omega),if_neg (by omega),if_pos trivial,if_neg (by omega)];simp only[List.length_cons,List.length_nil];congr 1;omega
 ·split
  ·have h2:(UInt8.ofNat n).toNat=n:=gf (by omega);have h0:(129:UInt8).toNat=129:=rfl;simp only[List.cons_append,List.nil_append,cv,h0,h2];rw[if_neg (by omega),if_pos trivial,if_neg (by omega)];rfl
  ·have h2:(UInt8.ofNat n).toNat=n:=gf (by omega);simp only[List.cons_append,List.nil_append,cv,h2];rw[if_pos (by omega)];rfl
theorem size_inv(r:List UInt8)(h:ef r=0):lenB (bQ r)++r.drop (bp r)=r∧(lenB (bQ r)).length=bp r∧bp r≤r.length:=by
 unfold ef bQ bp at*
 cases r with
 |nil=>simp[cv]at h
 |cons a r=>
  have ha:=a.toNat_lt;by_cases h1:a.toNat≤127
  ·have e:cv (a::r)=(a.toNat,1,0):=by simp only[cv];rw[if_pos h1]
   rw[e];have:lenB a.toNat=[a]:=by unfold lenB;rw[if_neg (by omega),if_neg (by omega),fX]
   simp[this]
  ·by_cases h2:a.toNat=129
   ·cases r with
    |nil=>simp[cv,h2]at h
    |cons b r=>
     have hb:=b.toNat_lt;by_cases h3:b.toNat≤127
     ·simp[cv,h2,h3]at h
     ·have e:cv (a::b::r)=(b.toNat,2,0):=by simp only[cv];rw[if_neg h1,if_pos h2,if_neg h3]
      rw[e];have ea:a=129:=UInt8.toNat_inj.1 h2;have:lenB b.toNat=[129,b]:=by unfold lenB;rw[if_neg (by omega),if_pos (by omega),fX]
      simp[this,ea]
   ·by_cases h3:a.toNat=130
    ·cases r with
     |nil=>simp[cv,h3]at h
     |cons b r=>
      have hb:=b.toNat_lt;by_cases h4:b.toNat=0
      ·simp[cv,h3,h4]at h
      ·cases r with
       |nil=>simp[cv,h3,h4]at h
       |cons c r=>
        have hc:=c.toNat_lt;have e:cv (a::b::c::r)=(b.toNat*256+c.toNat,3,0):=by simp only[cv];rw[if_neg h1,if_neg h2,if_pos h3,if_neg h4]
        rw[e];have ea:a=130:=UInt8.toNat_inj.1 h3;have e1:UInt8.ofNat ((b.toNat*256+c.toNat)/256)=b:=by
         rw[show(b.toNat*256+c.toNat)/256=b.toNat by omega,fX]
        have e2:UInt8.ofNat (b.toNat*256+c.toNat)=c:=by
         apply UInt8.toNat_inj.1;simp only[UInt8.toNat_ofNat'];omega
        have:lenB (b.toNat*256+c.toNat)=[130,b,c]:=by unfold lenB;rw[if_pos (by omega),e1,e2]
        simp[this,ea]
    ·simp[cv,h1,h2,h3]at h
theorem put_get{t:Int}{x s:List UInt8}(ht:el t=true)(h:putE t x=0):getE (putB t x++s)=0∧getT (putB t x++s)=t∧getX (putB t x++s)=x∧getR (putB t x++s)=s:=by
 obtain⟨n,rfl,hn⟩:=lC ht;unfold putE at h;by_cases h1:(n:Int)%32=31
 ·rw[if_pos h1]at h;omega
 rw[if_neg h1]at h;by_cases h2:x.length>65535
 ·rw[if_pos h2]at h;omega
 have e:putB n x++s=UInt8.ofNat n::(lenB x.length++(x++s)):=by
  unfold putB;rw[if_neg h1,if_neg h2];simp
 have hz:=size_len x.length (by omega) (x++s);have hb:=gf hn;rw[e];have e0:getE (UInt8.ofNat n::(lenB x.length++(x++s)))=0:=by
  simp only[getE,ef,bp,bQ,hz,hb];rw[if_neg (by omega),if_pos trivial,if_neg (by simp)]
 refine⟨e0,?_,?_,?_⟩
 ·unfold getT;rw[if_pos e0];simp only[List.getD_cons_zero,hb]
 ·unfold getX;rw[if_pos e0];simp only[List.drop_succ_cons,List.drop_zero,bp,bQ,hz];rw[List.drop_left,List.take_left]
 ·unfold getR;rw[if_pos e0];simp only[List.drop_succ_cons,List.drop_zero,bp,bQ,hz];rw[List.drop_left,List.drop_left]
theorem get_put{s:List UInt8}(h:getE s=0):el (getT s)=true∧putE (getT s) (getX s)=0∧putB (getT s) (getX s)++getR s=s:=by
 cases s with
 |nil=>simp[getE]at h
 |cons t r=>
  have ht:=t.toNat_lt;have h0:=h;simp only[getE]at h;by_cases h1:t.toNat%32=31
  ·rw[if_pos h1]at h;omega
  rw[if_neg h1]at h;by_cases h2:ef r=0
  ·rw[if_pos h2]at h;by_cases h3:r.length<bp r+bQ r
   ·rw[if_pos h3]at h;omega
   have hi:=size_inv r h2;have hs:=iC r;have e1:getT (t::r)=(t.toNat:Int):=by unfold getT;rw[if_pos h0];rfl
   have e2:getX (t::r)=(r.drop (bp r)).take (bQ r):=by unfold getX;rw[if_pos h0];rfl
   have e3:getR (t::r)=(r.drop (bp r)).drop (bQ r):=by unfold getR;rw[if_pos h0];rfl
   have e4:((r.drop (bp r)).take (bQ r)).length=bQ r:=by simp;omega
   have n1:¬(t.toNat:Int)%32=31:=by omega
   rw[e1,e2,e3];refine⟨by simp[el];omega,?_,?_⟩
   ·unfold putE;rw[if_neg n1,if_neg (by rw[e4];omega)]
   ·unfold putB;rw[if_neg n1,if_neg (by rw[e4];omega),e4];simp only[Int.toNat_natCast,fX,List.cons_append,List.append_assoc,List.take_append_drop,hi.1]
  ·rw[if_neg h2]at h;exact absurd h h2
theorem lenB_len(n:Nat):(lenB n).length≤3:=by unfold lenB;(repeat' split)<;>simp
theorem putB_len(t:Int)(x:List UInt8):(putB t x).length≤x.length+4:=by
 have:=lenB_len x.length;unfold putB;(repeat' split)<;>simp<;>omega
theorem put_none{t:Int}{x:List UInt8}:putE t x≠0↔putB t x=[]:=by
 unfold putE putB;(repeat' split)<;>simp
end Go.Proofs.YtebkeppoicllmaaDoor
