/- The virtual machine of this work, continued: contracts of the standard library in its tables. -/
import Derived.Test.YtmcdajbfomngcaaDoorVmc
import Derived.Shelf.Strings.MapAny
import Derived.Lib.ItoaNum
import Derived.Lib.LaidTab
import Derived.Lib.MapLaws
namespace Go.Vm
variable [G:Glob] [Φ:Frz]
set_option linter.unusedSectionVars false
set_option linter.unusedVariables false
open Go.RowKit
def MapRunesOk(P:Program)(g gr:FuncId)(f:Int→Int)(g3 g4:Nat):Prop:=∀(s:ByteArray) (w:World),s.size<35184372088832→Lib.Utf8Tabs g3 g4 w→
 Calls P g #[.func (.func gr) #[] #[],.string s] w fun e w'=>e=.returned (.string ⟨(Lib.mapD f s.data.toList).toArray⟩)∧Below w.heap.size w w'
def firstC:List V:=(List.range 256).map fun c=>V.int .u8 (Lib.firstT c)
def accC:List V:=(List.range 16).flatMap fun i=>[V.int .u8 (Lib.accLo i),V.int .u8 (Lib.accHi i)]
theorem firstC_get{c:Nat}(h:c<256):firstC[c]?=some (.int .u8 (Lib.firstT c)):=by
 unfold firstC;rw[List.getElem?_map,List.getElem?_range h];rfl
theorem pairs_get{f g:Nat→V}{i:Nat}:∀{n:Nat},i<n→((List.range n).flatMap fun i=>[f i,g i])[2*i]?=some (f i)∧((List.range n).flatMap fun i=>[f i,g i])[2*i+1]?=some (g i)
 |0,h=>absurd h (by omega)
 |n+1,h=>by
  have hl:∀m:Nat,((List.range m).flatMap fun i=>[f i,g i]).length=2*m:=by
   intro m
   induction m with
   |zero=>rfl
   |succ m ih=>rw[List.range_succ,List.flatMap_append,List.length_append,ih];simp;omega
  rw[List.range_succ,List.flatMap_append];by_cases hi:i<n
  ·obtain⟨a,b⟩:=pairs_get (f:=f) (g:=g) hi;rw[List.getElem?_append_left (by rw[hl];omega),List.getElem?_append_left (by rw[hl];omega)];exact⟨a,b⟩
  ·have:i=n:=by omega
   subst this;rw[List.getElem?_append_right (by rw[hl];omega),List.getElem?_append_right (by rw[hl];omega),hl];simp
theorem map_ent{P:Program}{g gr:FuncId}{f:Int→Int}{g3 g4:Nat}(hj:MapRunesOk P g gr f g3 g4)(h3:gblk g3=g3∧goff g3=0)(h4:gblk g4=g4∧goff g4=0)(hc3:G.cells g3=some firstC)(hc4:G.cells g4=some accC){s r:List UInt8}(h:(Nat.ble s.length 281474976710&&eqS (Lib.mapD f s) r)=true):
  EntFOk P ⟨g,[.func (.func gr) [] [],.str s],[],.str r,[]⟩:=by
 simp only[Bool.and_eq_true]at h;obtain⟨h1,h2⟩:=h;have h1:=Nat.le_of_ble_eq_true h1;have h2:=eqS_ok h2;intro B W0 m w rargs hargs hr;have hm:m=[]:=List.eq_nil_of_length_eq_zero hr.len;subst hm;obtain⟨a1,r1,g1,g2,rfl⟩:=realL_cons hargs;obtain⟨a2,r2,k1,k2,rfl⟩:=realL_cons g2;simp only[realL,Option.some.injEq]at k2;subst k2;cases real_str k1;have e1:a1=.func (.func gr) #[] #[]:=by simpa[real,realL,eq_comm]using g1
 subst e1;have hT:Lib.Utf8Tabs g3 g4 w:=by
  refine⟨fun c hc=>?_,fun i hi=>⟨?_,?_⟩⟩
  ·obtain⟨x,hx,hc⟩:=hr.gcell (i:=c) hc3 (firstC_get hc);rw[h3.1,h3.2,Nat.zero_add]at hc;rw[hc];simpa[real,eq_comm]using hx
  ·obtain⟨x,hx,hc⟩:=hr.gcell (i:=2*i) hc4 (pairs_get hi).1;rw[h4.1,h4.2,Nat.zero_add]at hc;rw[hc];simpa[real,eq_comm]using hx
  ·obtain⟨x,hx,hc⟩:=hr.gcell (i:=2*i+1) hc4 (pairs_get hi).2;rw[h4.1,h4.2,Nat.zero_add]at hc;rw[hc];simpa[real,eq_comm]using hx
 have hsz:(ByteArray.mk s.toArray).size=s.length:=by show s.toArray.size=_;simp
 refine(hj ⟨s.toArray⟩ w (by rw[hsz];omega) hT).mono ?_;rintro e w' ⟨rfl,hb⟩;have e2:Lib.mapD f (ByteArray.mk s.toArray).data.toList=r:=by simpa using h2
 rw[e2];exact⟨.str r,_,[],[],rfl,Ext.refl _,rfl,hr.later hb,rfl⟩
end Go.Vm
namespace Go.Vm
variable [G:Glob] [Φ:Frz]
set_option linter.unusedSectionVars false
set_option linter.unusedVariables false
open Go.RowKit
def isI64(n:Int):Bool:=decide (-9223372036854775808≤n)&&decide (n≤9223372036854775807)
end Go.Vm
namespace Go.Vm
open Go.Lib
def greatF(x:Int):Int:=bif decide (97≤x)&&decide (x≤122)then x-32 else x
def g8(c:UInt8):UInt8:=bif Nat.ble 97 c.toNat&&Nat.ble c.toNat 122 then c-32 else c
def up(s:List UInt8):List UInt8:=mapD greatF s
theorem dec_asc{c:UInt8}(h:c.toNat<128)(r:List UInt8):decodeL (c::r)=(c.toNat,1):=by
 rw[decodeL_N];simp[decodeN,h]
theorem up_asc{c:UInt8}(h:c.toNat<128)(r:List UInt8):up (c::r)=g8 c::up r:=by
 unfold up;rw[mapD_step _ _ (by simp),dec_asc h];simp only[List.drop_succ_cons,List.drop_zero];unfold greatF g8 encodeRune;by_cases h1:97≤c.toNat
 ·by_cases h2:c.toNat≤122
  ·rw[decide_eq_true (show(97:Int)≤(c.toNat:Int) by omega),decide_eq_true (show(c.toNat:Int)≤122 by omega),Nat.ble_eq_true_of_le h1,Nat.ble_eq_true_of_le h2];simp only[Bool.and_self,cond_true];rw[if_pos (by omega),encodeRuneZ_one (by omega) (by omega)];simp only[List.map_cons,List.map_nil,List.cons_append,List.nil_append,List.cons.injEq,and_true];apply UInt8.toNat_inj.1;rw[UInt8.toNat_sub_of_le _ _ (by show(32:UInt8).toNat≤c.toNat;simp;omega)];simp;omega
  ·rw[decide_eq_true (show(97:Int)≤(c.toNat:Int) by omega),decide_eq_false (show ¬(c.toNat:Int)≤122 by omega),Nat.ble_eq_true_of_le h1,(show Nat.ble c.toNat 122=false from by cases hb:Nat.ble c.toNat 122 with
    |false=>rfl
    |true=>exact absurd (Nat.le_of_ble_eq_true hb) h2)]
   simp only[Bool.and_false,cond_false];rw[if_pos (by omega),encodeRuneZ_one (by omega) (by omega)];simp
 ·rw[decide_eq_false (show ¬(97:Int)≤(c.toNat:Int) by omega),(show Nat.ble 97 c.toNat=false from by cases hb:Nat.ble 97 c.toNat with
     |false=>rfl
     |true=>exact absurd (Nat.le_of_ble_eq_true hb) h1)]
  simp only[Bool.false_and,cond_false];rw[if_pos (by omega),encodeRuneZ_one (by omega) (by omega)];simp
theorem high_rune{l:List UInt8}(h:128≤(l.getD 0 0).toNat):128≤(decodeL l).1:=by
 rw[decodeL_N];rcases decodeN_shape l.length (l.getD 0 0).toNat (l.getD 1 0).toNat (l.getD 2 0).toNat (l.getD 3 0).toNat with⟨c,e⟩|⟨c1,c2,c3,cv,e⟩|⟨c1,c2,c3,c4,cv,cs,e⟩|⟨c1,c2,c3,c4,c5,cv,cw,e⟩|e
 ·omega
 ·rw[e];exact cv
 ·rw[e];show 128≤_;omega
 ·rw[e];show 128≤_;omega
 ·rw[e];decide
theorem great_high{r:Nat}(h:128≤r):greatF (r:Int)=r:=by
 unfold greatF;rw[decide_eq_false (show ¬(r:Int)≤122 by omega),Bool.and_false,cond_false]
/-- The same but for the size of letters. -/
def alike(a b:UInt8):Prop:=a=b∨(a.toNat<128∧b.toNat<128∧g8 a=g8 b)
theorem decN_alike{n b0 b1 b2 b3 c1 c2 c3:Nat}(h0:128≤b0)(h1:b1=c1∨(b1<128∧c1<128))(h2:b2=c2∨(b2<128∧c2<128))(h3:b3=c3∨(b3<128∧c3<128)):decodeN n b0 b1 b2 b3=decodeN n b0 c1 c2 c3:=by
 have k:∀{b c:Nat},(b=c∨(b<128∧c<128))→(b=c∨(b/64≠2∧c/64≠2)):=fun h=>by
  rcases h with h|⟨h,h'⟩
  ·exact .inl h
  ·exact .inr ⟨by omega,by omega⟩
 have e0:¬b0<128:=by omega
 unfold decodeN;simp only[e0,if_false];rcases k h1 with rfl|⟨a1,d1⟩
 ·rcases k h2 with rfl|⟨a2,d2⟩
  ·rcases k h3 with rfl|⟨a3,d3⟩
   ·rfl
   ·simp only[a3,d3,and_false,if_false]
  ·simp only[a2,d2,and_false,false_and,if_false]
 ·simp only[a1,d1,and_false,false_and,if_false]
theorem up_alike:∀(n:Nat) (s t:List UInt8),s.length≤n→s.length=t.length→(∀i:Nat,alike (s.getD i 0) (t.getD i 0))→up s=up t
 |n,[],[],_,_,_=>rfl
 |n,[],_::_,_,h,_=>by simp at h
 |n,_::_,[],_,h,_=>by simp at h
 |0,_::_,_::_,hn,_,_=>by simp at hn
 |n+1,c::r,d::q,hn,hl,h=>by
  have h0:=h 0;simp only[List.getD_cons_zero]at h0;have hlr:r.length=q.length:=by simpa using hl
  by_cases hc:c.toNat<128
  ·have hd:d.toNat<128:=by rcases h0 with rfl|⟨_,h',_⟩<;>assumption
   have hg:g8 c=g8 d:=by rcases h0 with rfl|⟨_,_,h'⟩;rfl;exact h'
   rw[up_asc hc,up_asc hd,hg,up_alike n r q (by simp at hn;omega) hlr fun i=>by simpa using h (i+1)]
  ·have hcd:c=d:=by rcases h0 with h'|⟨h',_,_⟩;exact h';omega
   subst hcd;have hA:∀i:Nat,((c::r).getD i 0).toNat=((c::q).getD i 0).toNat∨(((c::r).getD i 0).toNat<128∧((c::q).getD i 0).toNat<128):=fun i=>by
    rcases h i with h'|⟨h1,h2,_⟩
    ·exact .inl (congrArg UInt8.toNat h')
    ·exact .inr ⟨h1,h2⟩
   have hdec:decodeL (c::r)=decodeL (c::q):=by
    rw[decodeL_N,decodeL_N,hl];exact decN_alike (show 128≤c.toNat by omega) (hA 1) (hA 2) (hA 3)
   have hw:=decodeL_width (c::r);unfold up;rw[mapD_step _ (c::r) (by simp),mapD_step _ (c::q) (by simp),hdec];have hw1:1≤(decodeL (c::q)).2:=by rw[←hdec];omega
   have:=up_alike n ((c::r).drop (decodeL (c::q)).2) ((c::q).drop (decodeL (c::q)).2) (by rw[List.length_drop];omega) (by rw[List.length_drop,List.length_drop,hl]) fun i=>by
    have:=h ((decodeL (c::q)).2+i);simpa only[List.getD_eq_getElem?_getD,List.getElem?_drop]using this
   unfold up at this;rw[this]
theorem enc_len{r:Nat}(h:r<128∨r=65533):(encodeRune (r:Int)).length≤3:=by
 unfold encodeRune encodeRuneZ;rw[List.length_map];rcases h with h|h
 ·rw[if_pos (by omega)];show 1≤3;omega
 ·subst h;decide
theorem enc_len4(r:Int):(encodeRune r).length≤4:=by
 unfold encodeRune;rw[List.length_map];exact(encodeRuneZ_length r).2
theorem up_len:∀(n:Nat) (s:List UInt8),s.length≤n→(up s).length≤3*s.length
 |_,[],_=>Nat.le_refl _
 |0,_::_,h=>by simp at h
 |n+1,c::r,hn=>by
  by_cases h:c.toNat<128
  ·have:=up_len n r (by simp at hn;omega);rw[up_asc h,List.length_cons,List.length_cons];omega
  ·have hh:=high_rune (l:=c::r) (show 128≤c.toNat by omega);have hw:=decodeL_width (c::r);have hs:((decodeL (c::r)).2=1∧(decodeL (c::r)).1=65533)∨(2≤(decodeL (c::r)).2∧(decodeL (c::r)).2≤(c::r).length):=by
    rw[decodeL_N]at hh ⊢;rcases decodeN_shape (c::r).length ((c::r).getD 0 0).toNat ((c::r).getD 1 0).toNat ((c::r).getD 2 0).toNat ((c::r).getD 3 0).toNat with⟨k,e⟩|⟨_,hn,_,_,e⟩|⟨_,hn,_,_,_,_,e⟩|⟨_,hn,_,_,_,_,_,e⟩|e
    ·exact absurd k (by show ¬c.toNat<128;omega)
    ·rw[e];exact .inr ⟨Nat.le_refl _,hn⟩
    ·rw[e];exact .inr ⟨by show 2≤3;omega,hn⟩
    ·rw[e];exact .inr ⟨by show 2≤4;omega,hn⟩
    ·rw[e];exact .inl ⟨rfl,rfl⟩
   have hr:=up_len n ((c::r).drop (decodeL (c::r)).2) (by rw[List.length_drop];simp at hn ⊢;omega);rw[List.length_drop]at hr;unfold up at hr ⊢;rw[mapD_step _ _ (by simp),great_high hh,if_pos (by omega),List.length_append];have h4:=enc_len4 ((decodeL (c::r)).1:Int);rcases hs with⟨a,b⟩|⟨a,b⟩
   ·have h3:=enc_len (r:=(decodeL (c::r)).1) (.inr b);rw[a]at hr ⊢;rw[a]at hw;simp only[List.length_cons]at hr ⊢;omega
   ·omega
end Go.Vm
