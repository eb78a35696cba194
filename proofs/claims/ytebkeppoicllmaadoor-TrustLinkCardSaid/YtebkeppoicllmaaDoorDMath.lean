/- The bytes of a number, and the number of bytes: plain law. -/
import Derived.Test.YtebkeppoicllmaaDoorDFns
namespace Go.Proofs.YtebkeppoicllmaaDoor
open Go.IntKind (u8 u16 u32 u64 i8 i16 i32 i64)
open Go Go.Vm Go.RowKit
set_option linter.unusedSectionVars false
variable [Φ:Frz]
def beL:Nat→Int→List UInt8
 |0,_=>[]
 |k+1,n=>Vm.byteOf (V.int .u8 (u8.wrap (n.fdiv ((256^k:Nat):Int))))::beL k n
def decF(a:Int):List UInt8→Int
 |[]=>a
 |b::r=>decF (a*256+b.toNat) r
def sgnB(b:UInt8):Int:=if b.toNat≥128 then(b.toNat:Int)-256 else b.toNat
def dec:List UInt8→Int
 |[]=>0
 |b::r=>decF (sgnB b) r
theorem e8(m:Nat):(0:Int)<((256^m:Nat):Int):=by
 have:=Nat.pow_pos (n:=m) (show 0<256 by omega);omega
theorem kp(m:Nat):((256^(m+1):Nat):Int)=256*((256^m:Nat):Int):=by
 rw[Nat.pow_succ,Nat.mul_comm];simp
theorem mr(n:Int)(k:Nat):((Vm.byteOf (V.int .u8 (u8.wrap (n.fdiv ((256^k:Nat):Int))))).toNat:Int)=(n/((256^k:Nat):Int))%256:=by
 rw[Int.fdiv_eq_ediv_of_nonneg _ (Int.le_of_lt (e8 k))];generalize n/((256^k:Nat):Int)=q;have h1:0≤q%256:=Int.emod_nonneg _ (by omega);have h2:q%256<256:=Int.emod_lt_of_pos _ (by omega);have e:u8.wrap q=q%256:=by rw[IntKind.wrap_u8]
 show((UInt8.ofNat (u8.wrap q).toNat).toNat:Int)=_;rw[e,UInt8.toNat_ofNat',Nat.mod_eq_of_lt (by omega)];omega
theorem emod_step(n c:Int)(hc:0<c):n%(256*c)=((n/c)%256)*c+n%c:=by
 have h1:=Int.emod_add_mul_ediv n c;have h2:=Int.emod_add_mul_ediv (n/c) 256;have b1:=Int.emod_nonneg n (show c≠0 by omega);have b2:=Int.emod_lt_of_pos n hc;have b3:=Int.emod_nonneg (n/c) (show(256:Int)≠0 by omega);have b4:=Int.emod_lt_of_pos (n/c) (show(0:Int)<256 by omega);generalize hr:(n/c)%256=r at*
 generalize hs:n%c=s at*
 generalize hq:n/c/256=q at*
 have e:n=(r*c+s)+(256*c)*q:=by
  rw[←h1,←h2,Int.mul_add];have:c*(256*q)=256*c*q:=by rw[←Int.mul_assoc,Int.mul_comm c 256]
  rw[this,Int.mul_comm c r];omega
 have b5:r*c≤255*c:=Int.mul_le_mul_of_nonneg_right (by omega) (by omega);have b6:0≤r*c:=Int.mul_nonneg b3 (by omega);rw[e,Int.add_mul_emod_self_left];exact Int.emod_eq_of_lt (by omega) (by omega)
theorem decF_be(n:Int):∀(m:Nat) (a:Int),decF a (beL m n)=a*((256^m:Nat):Int)+n%((256^m:Nat):Int)
 |0,a=>by simp[beL,decF,Int.emod_one]
 |m+1,a=>by
  simp only[beL,decF];rw[decF_be n m,mr,kp,emod_step n _ (e8 m),Int.add_mul,Int.mul_assoc,Int.add_assoc]
theorem dec_be{n:Int}{m:Nat}(h1:-(128*((256^m:Nat):Int))≤n)(h2:n<128*((256^m:Nat):Int)):dec (beL (m+1) n)=n:=by
 have hp:=e8 m;have hb:=mr n m;simp only[beL,dec];have q1:n/((256^m:Nat):Int)<128:=Int.ediv_lt_of_lt_mul hp h2;have q2:-128≤n/((256^m:Nat):Int):=Int.le_ediv_of_mul_le hp (by rw[Int.neg_mul];exact h1);have e:sgnB (Vm.byteOf (V.int .u8 (u8.wrap (n.fdiv ((256^m:Nat):Int)))))=n/((256^m:Nat):Int):=by
  unfold sgnB;split<;>omega
 rw[e,decF_be];have:=Int.emod_add_mul_ediv n ((256^m:Nat):Int);rw[Int.mul_comm];omega
theorem beL_len(n:Int):∀m,(beL m n).length=m
 |0=>rfl
 |m+1=>by simp[beL,beL_len n m]
theorem kE:∀(l:List UInt8) (a:Int),a*((256^l.length:Nat):Int)≤decF a l∧decF a l+1≤(a+1)*((256^l.length:Nat):Int)
 |[],a=>by simp[decF]
 |b::r,a=>by
  have hb:=b.toNat_lt;have ih:=kE r (a*256+b.toNat);have hp:=e8 r.length;simp only[decF,List.length_cons,kp];generalize ((256^r.length:Nat):Int)=c at*
  have e1:a*(256*c)≤(a*256+b.toNat)*c:=by
   rw[←Int.mul_assoc];exact Int.mul_le_mul_of_nonneg_right (by omega) (by omega)
  have e2:(a*256+b.toNat+1)*c≤(a+1)*(256*c):=by
   rw[←Int.mul_assoc];exact Int.mul_le_mul_of_nonneg_right (by omega) (by omega)
  omega
theorem dec_bounds(b:UInt8)(r:List UInt8):-(128*((256^r.length:Nat):Int))≤dec (b::r)∧dec (b::r)<128*((256^r.length:Nat):Int):=by
 have hb:=b.toNat_lt;have h:=kE r (sgnB b);have hp:=e8 r.length;have s1:-128≤sgnB b∧sgnB b≤127:=by unfold sgnB;split<;>omega
 simp only[dec];generalize ((256^r.length:Nat):Int)=c at*
 have e1:-128*c≤sgnB b*c:=Int.mul_le_mul_of_nonneg_right s1.1 (by omega);have e2:(sgnB b+1)*c≤128*c:=Int.mul_le_mul_of_nonneg_right (by omega) (by omega);omega
theorem kF:∀(l:List UInt8) (a:Int) (b:UInt8),decF a (l++[b])=decF a l*256+b.toNat
 |[],a,b=>rfl
 |c::r,a,b=>by simp only[List.cons_append,decF];exact kF r _ b
theorem dec_take{s:List UInt8}{i:Nat}(h0:1≤i)(h1:i<s.length):dec (s.take (i+1))=dec (s.take i)*256+(s.getD i 0).toNat:=by
 cases s with
 |nil=>simp at h1
 |cons b r=>
  obtain⟨j,rfl⟩:∃j,i=j+1:=⟨i-1,by omega⟩;simp only[List.length_cons]at h1;simp only[List.take_succ_cons,dec,List.getD_cons_succ];rw[List.take_add_one,List.getElem?_eq_getElem (by omega),Option.toList_some,kF,List.getD_eq_getElem?_getD,List.getElem?_eq_getElem (by omega),Option.getD_some]
theorem or_byte(n:Int)(b:Nat)(h1:-36028797018963968≤n)(h2:n<36028797018963968)(hb:b<256):
  i64.wrap (((BitVec.ofInt 64 (n*256)|||BitVec.ofInt 64 (b:Int)).toNat:Nat):Int)=n*256+b:=by
 have e:BitVec.ofInt 64 (n*256)=BitVec.ofInt 64 (((n%72057594037927936).toNat:Int)*256):=by
  apply BitVec.eq_of_toNat_eq;rw[BitVec.toNat_ofInt,BitVec.toNat_ofInt];congr 1;have:(2:Int)^64=18446744073709551616:=by decide
  simp only[Nat.reducePow];omega
 rw[e,mu _ _ (by omega) hb,IntKind.wrap_i64];omega
end Go.Proofs.YtebkeppoicllmaaDoor
