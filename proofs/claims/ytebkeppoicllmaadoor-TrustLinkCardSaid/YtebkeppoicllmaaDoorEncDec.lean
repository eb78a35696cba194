/- Certificates: what was encoded is decoded as it was; what is decoded, encoded, is the bytes: plain law. -/
import Derived.Test.YtebkeppoicllmaaDoorCert4
namespace Go.Proofs.YtebkeppoicllmaaDoor
open Go Go.Vm Go.RowKit
set_option linter.unusedVariables false
set_option linter.unusedSectionVars false
set_option maxRecDepth 100000
variable [Φ:Frz]
def catI:List IT→List UInt8
 |[]=>[]
 |x::r=>putB x.1 x.2++catI r
def iy(x:IT):Prop:=el x.1=true∧putE x.1 x.2=0
theorem get_cat{x:IT}(h:iy x)(s:List UInt8)(hl:(putB x.1 x.2++s).length≤1099511627776):bi (putB x.1 x.2++s)=0∧aK (putB x.1 x.2++s)=x.1∧ad (putB x.1 x.2++s)=x.2∧cH (putB x.1 x.2++s)=s:=by
 obtain⟨a,b,c,d⟩:=put_get (s:=s) h.1 h.2;obtain⟨e1,e2,e3,e4⟩:=get2_eq hl;rw[e1,e2,e3,e4];exact⟨a,b,c,d⟩
theorem put_ne{x:IT}(h:iy x)(s:List UInt8):putB x.1 x.2++s≠[]:=by
 intro e;have:=(List.append_eq_nil_iff.1 e).1;exact(put_none.2 this) h.2
theorem alF_catI:∀(L acc:List IT) (k:Nat),(∀x∈L,iy x)→(catI L).length≤k→(catI L).length≤1099511627776→acc.length+L.length≤64→alF k (catI L) acc=(acc++L,0)
 |[],acc,k,_,_,_,_=>by
  cases k with
  |zero=>simp[alF]
  |succ k=>simp[catI,alF]
 |x::r,acc,k,hg,hk,hb,hn=>by
  have h1:=hg x (by simp);have hne:=put_ne h1 (catI r);simp only[catI]at hk hb ⊢;obtain⟨e1,e2,e3,e4⟩:=get_cat h1 (catI r) hb;cases k with
  |zero=>exact absurd (List.eq_nil_of_length_eq_zero (by omega)) hne
  |succ k=>
   have hlt:=gH hne;rw[e4]at hlt;rw[alF,if_neg hne,if_pos e1,e2,e3,e4];simp only[List.length_cons]at hn;rw[if_neg (by omega)];rw[alF_catI r (acc++[(x.1,x.2)]) k (fun y hy=>hg y (by simp[hy])) (by omega) (by omega) (by rw[List.length_append];simp;omega)];simp
theorem all_catI{L:List IT}(hg:∀x∈L,iy x)(hb:(catI L).length≤1099511627776)(hn:L.length≤64):allI (catI L)=L∧allE (catI L)=0:=by
 have:=alF_catI L [] (catI L).length hg (Nat.le_refl _) hb (by simpa using hn);unfold allI allE;rw[this];exact⟨rfl,rfl⟩
theorem only_put{t:Int}{x:List UInt8}(h:iy (t,x))(hl:(putB t x).length≤1099511627776):ez (putB t x) t=true∧ad (putB t x)=x:=by
 have:=get_cat h [] (by simpa using hl);simp only[List.append_nil]at this;obtain⟨a,b,c,d⟩:=this;unfold ez;rw[a,b,c,d];exact⟨by simp,rfl⟩
theorem oB:m2 0 0=0:=by unfold m2;simp
theorem nX:el 48=true∧el 4=true∧el 130=true∧el 2=true∧el 1=true:=by decide
theorem eM{t:Int}{x:List UInt8}(ht:el t=true)(h1:¬t%32=31)(h2:x.length≤65535):iy (t,x):=by
 refine⟨ht,?_⟩;unfold putE;rw[if_neg h1,if_neg (by simp only;omega)]
theorem jL:∀l:List (List UInt8),(l.map aY).flatten=catI (l.map fun s=>((130:Int),s))
 |[]=>rfl
 |s::r=>by simp only[List.map_cons,List.flatten_cons,catI,jL r];rfl
theorem jO{k g:List UInt8}{f u:Int}(h:mayC k g f u=true):k≠[]∧k.length≤64∧g.length=32∧0≤f∧f≤1099511627776∧0≤u∧u≤1099511627776:=by
 unfold mayC at h;simp only[Bool.and_eq_true,decide_eq_true_eq,beq_iff_eq]at h;refine⟨fun e=>by subst e;simp at h,by omega,by omega,by omega,by omega,by omega,by omega⟩
theorem spki_may{k:List UInt8}(h0:k≠[])(h1:k.length≤64):du k=putB 48 (putB 4 k):=by
 unfold du;rw[if_neg h0,if_neg (by omega)]
def sixI(k g:List UInt8)(l:List (List UInt8))(f u:Int)(ca:Bool):List IT:=[(48,putB 4 k),(4,g),(48,(l.map aY).flatten),(2,intL f),(2,intL u),(1,dW ca)]
theorem encIn_cat{k g:List UInt8}{l:List (List UInt8)}{f u:Int}{ca:Bool}(h0:k≠[])(h1:k.length≤64):dy k g l f u ca=catI (sixI k g l f u ca):=by
 unfold dy sixI;rw[spki_may h0 h1];simp only[catI,List.flatten_cons,List.flatten_nil,List.append_nil]
theorem bool_back(ca:Bool):(dW ca==[255])=ca∧rbE (dW ca)=0:=by cases ca<;>exact⟨rfl,rfl⟩
theorem enc_ok{k g:List UInt8}{l:List (List UInt8)}{f u:Int}{ca:Bool}(h:encE k g l f u ca=0):fu k g l f u=true∧encB k g l f u ca=putB 48 (dy k g l f u ca)∧(encB k g l f u ca).length≤512:=by
 unfold encE at h;cases ho:fu k g l f u with
 |false=>rw[ho]at h;simp at h
 |true=>
  rw[ho,cond_true]at h;cases hd:decide (((putB 48 (dy k g l f u ca)).length:Int)>512)with
  |true=>rw[hd]at h;simp at h
  |false=>
   have:=of_decide_eq_false hd;refine⟨rfl,?_,?_⟩
   ·unfold encB;rw[ho,hd];rfl
   ·unfold encB;rw[ho,hd];simp only[cond_true,cond_false];omega
theorem iV{k g:List UInt8}{l:List (List UInt8)}{f u:Int}(h:fu k g l f u=true):mayC k g f u=true∧l.all patN=true∧l.length≤64:=by
 unfold fu at h;simp only[Bool.and_eq_true,decide_eq_true_eq]at h;exact⟨h.1.1,h.1.2,by omega⟩
theorem six_good{k g:List UInt8}{l:List (List UInt8)}{f u:Int}{ca:Bool}(h:fu k g l f u=true)(hb:(dy k g l f u ca).length≤65535):(∀x∈sixI k g l f u ca,iy x)∧(∀x∈l.map (fun s=>((130:Int),s)),iy x):=by
 obtain⟨h1,h2,h3⟩:=iV h;obtain⟨c1,c2,c3,c4,c5,c6,c7⟩:=jO h1;obtain⟨t1,t2,t3,t4,t5⟩:=nX;have p4:=bL 4 k;have hf8:=hZ f;have hu8:=hZ u;have hca:(dW ca).length≤1:=by cases ca<;>exact Nat.le_refl _
 have hN:(l.map aY).flatten.length≤65535:=by
  have:=js (l.map aY) 300 (fun s hs=>by
   obtain⟨t,ht,rfl⟩:=List.mem_map.1 hs;have:=jg (List.all_eq_true.1 h2 t ht);have b:=bL 130 t;unfold aY;omega)
  rw[List.length_map]at this;have:l.length*300≤64*300:=Nat.mul_le_mul_right _ h3;omega
 constructor
 ·intro x hx;simp only[sixI,List.mem_cons,List.not_mem_nil,or_false]at hx;rcases hx with rfl|rfl|rfl|rfl|rfl|rfl
  ·exact eM t1 (by decide) (by omega)
  ·exact eM t2 (by decide) (by omega)
  ·exact eM t1 (by decide) hN
  ·exact eM t4 (by decide) (by omega)
  ·exact eM t4 (by decide) (by omega)
  ·exact eM t5 (by decide) (by omega)
 ·intro x hx;obtain⟨s,hs,rfl⟩:=List.mem_map.1 hx;have:=jg (List.all_eq_true.1 h2 s hs);exact eM t3 (by decide) (by omega)
theorem putB_ge{t:Int}{x:List UInt8}(h:putE t x=0):x.length≤(putB t x).length:=by
 unfold putE at h;unfold putB;by_cases h1:t%32=31
 ·rw[if_pos h1]at h;simp at h
 ·rw[if_neg h1]at h ⊢;by_cases h2:x.length>65535
  ·rw[if_pos h2]at h;simp at h
  ·rw[if_neg h2];simp;omega
theorem enc_len{k g:List UInt8}{l:List (List UInt8)}{f u:Int}{ca:Bool}(h:encE k g l f u ca=0):(dy k g l f u ca).length≤512:=by
 obtain⟨h1,h2,h3⟩:=enc_ok h;obtain⟨m1,m2,m3⟩:=iV h1;rw[h2]at h3;by_cases hp:putE 48 (dy k g l f u ca)=0
 ·have:=putB_ge hp;omega
 ·exfalso;have hx:(dy k g l f u ca).length>65535:=by
   unfold putE at hp;rw[if_neg (by decide)]at hp;by_cases h2:(dy k g l f u ca).length>65535
   ·exact h2
   ·rw[if_neg h2]at hp;exact absurd rfl hp
  obtain⟨c1,c2,c3,c4,c5,c6,c7⟩:=jO m1;have hsp:=spki_may c1 c2;have q1:=bL 4 k;have q2:=bL 48 (putB 4 k);have q3:=bL 4 g;have q4:=bL 2 (intL f);have q5:=bL 2 (intL u);have q6:=bL 1 (dW ca);have q7:=bL 48 (l.map aY).flatten;have hf8:=hZ f;have hu8:=hZ u;have hca:(dW ca).length≤1:=by cases ca<;>exact Nat.le_refl _
  have:=js (l.map aY) 300 (fun s hs=>by
   obtain⟨t,ht,rfl⟩:=List.mem_map.1 hs;have:=jg (List.all_eq_true.1 m2 t ht);have b:=bL 130 t;unfold aY;omega)
  rw[List.length_map]at this;have:l.length*300≤64*300:=Nat.mul_le_mul_right _ m3;unfold dy at hx;rw[hsp]at hx;simp only[List.flatten_cons,List.flatten_nil,List.length_append,List.length_nil]at hx;omega
theorem enc_dec{k g:List UInt8}{l:List (List UInt8)}{f u:Int}{ca:Bool}(h:encE k g l f u ca=0):decR (encB k g l f u ca)=some ⟨k,g,l,f,u,ca⟩:=by
 obtain⟨h1,h2,h3⟩:=enc_ok h;obtain⟨m1,m2,m3⟩:=iV h1;obtain⟨c1,c2,c3,c4,c5,c6,c7⟩:=jO m1;have hin:=enc_len h;obtain⟨g1,g2⟩:=six_good (ca:=ca) h1 (by omega);have hgE:iy (48,dy k g l f u ca):=eM nX.1 (by decide) (by omega);rw[h2]at h3 ⊢;obtain⟨o1,o2⟩:=only_put hgE (by omega);have hcat:=encIn_cat (g:=g) (l:=l) (f:=f) (u:=u) (ca:=ca) c1 c2;obtain⟨a1,a2⟩:=all_catI g1 (by rw[←hcat];omega) (by simp[sixI]);have hk:iy (4,k):=eM nX.2.1 (by decide) (by omega);obtain⟨k1,k2⟩:=only_put hk (by have:=bL 4 k;omega);have hnl:(l.map aY).flatten.length≤512:=by
  have:(l.map aY).flatten.length≤(dy k g l f u ca).length:=by
   have hg3:(l.map aY).flatten.length≤(putB 48 (l.map aY).flatten).length:=putB_ge (g1 (48,(l.map aY).flatten) (by simp[sixI])).2;unfold dy;simp only[List.flatten_cons,List.flatten_nil,List.length_append,List.length_nil];omega
  omega
 obtain⟨n1,n2⟩:=all_catI g2 (by rw[←jL];omega) (by rw[List.length_map];exact m3);obtain⟨r1,r2⟩:=read_int (n:=f) (by omega) (by omega);obtain⟨r3,r4⟩:=read_int (n:=u) (by omega) (by omega);obtain⟨b1,b2⟩:=bool_back ca;have hmap:(l.map fun s=>((130:Int),s)).map (·.2)=l:=by rw[List.map_map];simp[Function.comp_def]
 have hall:(l.map fun s=>((130:Int),s)).all (fun y=>y.1==130)=true:=by rw[List.all_eq_true];intro y hy;obtain⟨s,_,rfl⟩:=List.mem_map.1 hy;rfl
 unfold decR;rw[decide_eq_false (by omega),cond_false];unfold decC;rw[o1,o2,hcat,a1,a2];have e0:((0:Int)!=0)=false:=rfl;rw[e0,cond_true,cond_false];unfold sixI decT;simp only
 rw[k1,k2,jL,n1,n2,r1,r3,b2,oB,oB,oB,e0,hall,hmap,r2,r4,m1,m2,b1];rfl
end Go.Proofs.YtebkeppoicllmaaDoor
