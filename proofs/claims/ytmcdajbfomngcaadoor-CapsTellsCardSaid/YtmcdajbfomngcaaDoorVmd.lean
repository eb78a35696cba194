/- The virtual machine of this work, continued: contracts of the standard library in its tables. -/
import Derived.Test.YtmcdajbfomngcaaDoorVmc
import Derived.Shelf.Strings.MapAny
import Derived.Lib.ItoaNum
import Derived.Lib.LaidTab
import Derived.Lib.MapLaws
namespace Go.Vm
variable [G:Glob] [Φ:Frz]
set_option linter.unusedSectionVars false
set_option linter.unusedVariables false
open Go.RowKit
def MapRunesOk(P:Program)(g gr:FuncId)(f:Int→Int)(g3 g4:Nat):Prop:=∀(s:ByteArray) (w:World),s.size<35184372088832→Lib.Utf8Tabs g3 g4 w→
 Calls P g #[.func (.func gr) #[] #[],.string s] w fun e w'=>e=.returned (.string ⟨(Lib.mapD f s.data.toList).toArray⟩)∧Below w.heap.size w w'
def firstC:List V:=(List.range 256).map fun c=>V.int .u8 (Lib.firstT c)
def accC:List V:=(List.range 16).flatMap fun i=>[V.int .u8 (Lib.accLo i),V.int .u8 (Lib.accHi i)]
theorem firstC_get{c:Nat}(h:c<256):firstC[c]?=some (.int .u8 (Lib.firstT c)):=by
 unfold firstC;rw[List.getElem?_map,List.getElem?_range h];rfl
theorem pairs_get{f g:Nat→V}{i:Nat}:∀{n:Nat},i<n→((List.range n).flatMap fun i=>[f i,g i])[2*i]?=some (f i)∧((List.range n).flatMap fun i=>[f i,g i])[2*i+1]?=some (g i)
 |0,h=>absurd h (by omega)
 |n+1,h=>by
  have hl:∀m:Nat,((List.range m).flatMap fun i=>[f i,g i]).length=2*m:=by
   intro m
   induction m with
   |zero=>rfl
   |succ m ih=>rw[List.range_succ,List.flatMap_append,List.length_append,ih];simp;omega
  rw[List.range_succ,List.flatMap_append];by_cases hi:i<n
  ·obtain⟨a,b⟩:=pairs_get (f:=f) (g:=g) hi;rw[List.getElem?_append_left (by rw[hl];omega),List.getElem?_append_left (by rw[hl];omega)];exact⟨a,b⟩
  ·have:i=n:=by omega
   subst this;rw[List.getElem?_append_right (by rw[hl];omega),List.getElem?_append_right (by rw[hl];omega),hl];simp
theorem map_ent{P:Program}{g gr:FuncId}{f:Int→Int}{g3 g4:Nat}(hj:MapRunesOk P g gr f g3 g4)(h3:gblk g3=g3∧goff g3=0)(h4:gblk g4=g4∧goff g4=0)(hc3:G.cells g3=some firstC)(hc4:G.cells g4=some accC){s r:List UInt8}(h:(Nat.ble s.length 281474976710&&eqS (Lib.mapD f s) r)=true):
  EntFOk P ⟨g,[.func (.func gr) [] [],.str s],[],.str r,[]⟩:=by
 simp only[Bool.and_eq_true]at h;obtain⟨h1,h2⟩:=h;have h1:=Nat.le_of_ble_eq_true h1;have h2:=eqS_ok h2;intro B W0 m w rargs hargs hr;have hm:m=[]:=List.eq_nil_of_length_eq_zero hr.len;subst hm;obtain⟨a1,r1,g1,g2,rfl⟩:=realL_cons hargs;obtain⟨a2,r2,k1,k2,rfl⟩:=realL_cons g2;simp only[realL,Option.some.injEq]at k2;subst k2;cases real_str k1;have e1:a1=.func (.func gr) #[] #[]:=by simpa[real,realL,eq_comm]using g1
 subst e1;have hT:Lib.Utf8Tabs g3 g4 w:=by
  refine⟨fun c hc=>?_,fun i hi=>⟨?_,?_⟩⟩
  ·obtain⟨x,hx,hc⟩:=hr.gcell (i:=c) hc3 (firstC_get hc);rw[h3.1,h3.2,Nat.zero_add]at hc;rw[hc];simpa[real,eq_comm]using hx
  ·obtain⟨x,hx,hc⟩:=hr.gcell (i:=2*i) hc4 (pairs_get hi).1;rw[h4.1,h4.2,Nat.zero_add]at hc;rw[hc];simpa[real,eq_comm]using hx
  ·obtain⟨x,hx,hc⟩:=hr.gcell (i:=2*i+1) hc4 (pairs_get hi).2;rw[h4.1,h4.2,Nat.zero_add]at hc;rw[hc];simpa[real,eq_comm]using hx
 have hsz:(ByteArray.mk s.toArray).size=s.length:=by show s.toArray.size=_;simp
 refine(hj ⟨s.toArray⟩ w (by rw[hsz];omega) hT).mono ?_;rintro e w' ⟨rfl,hb⟩;have e2:Lib.mapD f (ByteArray.mk s.toArray).data.toList=r:=by simpa using h2
 rw[e2];exact⟨.str r,_,[],[],rfl,Ext.refl _,rfl,hr.later hb,rfl⟩
end Go.Vm
namespace Go.Vm
variable [G:Glob] [Φ:Frz]
set_option linter.unusedSectionVars false
set_option linter.unusedVariables false
open Go.RowKit
theorem tabIs_of{P:Program}{w:World}{name:String}{gv:Nat}{k:IntKind}{zs:List Int}(hr:GOk w.heap.size w)(hn:P.globalNamed name=some gv)(hgv:gblk gv=gv∧goff gv=0)(hG:G.cells gv=some (zs.map fun z=>V.int k z))(hf:G.full gv=true):Lib.TabIs P w name k zs:=by
 obtain⟨_,arr,t,fz,h2,h3,h4⟩:=hr.1 gv _ hG;have h4:=h4 hf;rw[hgv.1]at h2;rw[hgv.2]at h3 h4;unfold Lib.TabIs World.var?;simp only[hn,Option.bind_some,h2,Option.some.injEq];refine Array.ext (by simp[h4]) fun i h5 h6=>?_;have h7:i<zs.length:=by simpa using h6
 obtain⟨x,hx,ha⟩:=h3 i (.int k zs[i]) (by simp[List.getElem?_map,List.getElem?_eq_getElem h7]);rw[Nat.zero_add,Array.getElem?_eq_getElem h5,Option.some.injEq]at ha;simp only[real,Option.some.injEq]at hx;simp[ha,←hx]
def ItoaOk(P:Program)(g:FuncId)(name:String):Prop:=∀(n:Int) (w:World),-9223372036854775808≤n→n≤9223372036854775807→Lib.TabIs P w name .u64 Lib.pow10Tab→
 Calls P g #[.int .i64 n] w fun e w'=>e=.returned (.string ⟨(Lib.itoa n).toArray⟩)∧Below w.heap.size w w'
def isI64(n:Int):Bool:=decide (-9223372036854775808≤n)&&decide (n≤9223372036854775807)
def itoaF:List V→Option (List (Bool×(V×St)))
 |[.int .i64 n]=>some [(isI64 n,(.str (Lib.itoa n),[]))]
 |_=>none
theorem itoa_sat{P:Program}{g:FuncId}{name:String}{gv:Nat}(hi:ItoaOk P g name)(hn:P.globalNamed name=some gv)(hgv:gblk gv=gv∧goff gv=0)(hG:G.cells gv=some (Lib.pow10Tab.map fun z=>V.int .u64 z))(hf:G.full gv=true)
  (args:List V)(l:List (Bool×(V×St)))(o:V×St)(h:itoaF args=some l)(ho:pickO l=some o):FnSat P g args [] (Is o):=by
 unfold itoaF at h;split at h
 ·rename_i n;cases h;cases hk:isI64 n with
  |false=>rw[hk]at ho;cases ho
  |true=>
   rw[hk]at ho;cases ho;simp only[isI64,Bool.and_eq_true,decide_eq_true_eq]at hk;intro B W0 m w rargs hargs hr;obtain⟨a1,r1,g1,g2,rfl⟩:=realL_cons hargs;simp only[realL,Option.some.injEq]at g2;subst g2;simp only[real,Option.some.injEq]at g1;subst g1;refine(hi n w hk.1 hk.2 (tabIs_of hr.gok hn hgv hG hf)).mono ?_;rintro e w' ⟨rfl,hb⟩;exact⟨.str (Lib.itoa n),_,m,[],rfl,Ext.refl m,rfl,hr.later hb,rfl⟩
 ·cases h
end Go.Vm
namespace Go.Vm
open Go.Lib
def greatF(x:Int):Int:=bif decide (97≤x)&&decide (x≤122)then x-32 else x
def g8(c:UInt8):UInt8:=bif Nat.ble 97 c.toNat&&Nat.ble c.toNat 122 then c-32 else c
def up(s:List UInt8):List UInt8:=mapD greatF s
theorem dec_asc{c:UInt8}(h:c.toNat<128)(r:List UInt8):decodeL (c::r)=(c.toNat,1):=by
 rw[decodeL_N];simp[decodeN,h]
theorem up_asc{c:UInt8}(h:c.toNat<128)(r:List UInt8):up (c::r)=g8 c::up r:=by
 unfold up;rw[mapD_step _ _ (by simp),dec_asc h];simp only[List.drop_succ_cons,List.drop_zero];unfold greatF g8 encodeRune;by_cases h1:97≤c.toNat
 ·by_cases h2:c.toNat≤122
  ·rw[decide_eq_true (show(97:Int)≤(c.toNat:Int) by omega),decide_eq_true (show(c.toNat:Int)≤122 by omega),Nat.ble_eq_true_of_le h1,Nat.ble_eq_true_of_le h2];simp only[Bool.and_self,cond_true];rw[if_pos (by omega),encodeRuneZ_one (by omega) (by omega)];simp only[List.map_cons,List.map_nil,List.cons_append,List.nil_append,List.cons.injEq,and_true];apply UInt8.toNat_inj.1;rw[UInt8.toNat_sub_of_le _ _ (by show(32:UInt8).toNat≤c.toNat;simp;omega)];simp;omega
  ·rw[decide_eq_true (show(97:Int)≤(c.toNat:Int) by omega),decide_eq_false (show ¬(c.toNat:Int)≤122 by omega),Nat.ble_eq_true_of_le h1,(show Nat.ble c.toNat 122=false from by cases hb:Nat.ble c.toNat 122 with
    |false=>rfl
    |true=>exact absurd (Nat.le_of_ble_eq_true hb) h2)]
   simp only[Bool.and_false,cond_false];rw[if_pos (by omega),encodeRuneZ_one (by omega) (by omega)];simp
 ·rw[decide_eq_false (show ¬(97:Int)≤(c.toNat:Int) by omega),(show Nat.ble 97 c.toNat=false from by cases hb:Nat.ble 97 c.toNat with
     |false=>rfl
     |true=>exact absurd (Nat.le_of_ble_eq_true hb) h1)]
  simp only[Bool.false_and,cond_false];rw[if_pos (by omega),encodeRuneZ_one (by omega) (by omega)];simp
theorem g8_high{c:UInt8}(h:128≤c.toNat):g8 c=c:=by
 unfold g8;rw[(show Nat.ble c.toNat 122=false from by cases hb:Nat.ble c.toNat 122 with
      |false=>rfl
      |true=>have:=Nat.le_of_ble_eq_true hb;omega),Bool.and_false,cond_false]
theorem high_rune{l:List UInt8}(h:128≤(l.getD 0 0).toNat):128≤(decodeL l).1:=by
 rw[decodeL_N];rcases decodeN_shape l.length (l.getD 0 0).toNat (l.getD 1 0).toNat (l.getD 2 0).toNat (l.getD 3 0).toNat with⟨c,e⟩|⟨c1,c2,c3,cv,e⟩|⟨c1,c2,c3,c4,cv,cs,e⟩|⟨c1,c2,c3,c4,c5,cv,cw,e⟩|e
 ·omega
 ·rw[e];exact cv
 ·rw[e];show 128≤_;omega
 ·rw[e];show 128≤_;omega
 ·rw[e];decide
theorem enc_high{r:Int}(h:128≤r):∃b t,encodeRune r=b::t∧128≤b.toNat:=by
 unfold encodeRune encodeRuneZ;rw[if_neg (by omega)];split
 ·exact⟨_,_,rfl,by simp;omega⟩
 ·split
  ·exact⟨_,_,rfl,by simp;omega⟩
  ·split
   ·exact⟨_,_,rfl,by simp;omega⟩
   ·exact⟨_,_,rfl,by decide⟩
theorem great_high{r:Nat}(h:128≤r):greatF (r:Int)=r:=by
 unfold greatF;rw[decide_eq_false (show ¬(r:Int)≤122 by omega),Bool.and_false,cond_false]
theorem up_high{c:UInt8}(h:128≤c.toNat)(r:List UInt8):∃b t,up (c::r)=b::t∧128≤b.toNat:=by
 have h1:=high_rune (l:=c::r) h;obtain⟨b,t,e,hb⟩:=enc_high (r:=((decodeL (c::r)).1:Int)) (by omega);unfold up;rw[mapD_step _ _ (by simp),great_high h1,if_pos (by omega),e];exact⟨b,_,rfl,hb⟩
theorem up_eq{w:List UInt8}(hw:∀b∈w,b.toNat<128):∀s:List UInt8,(up s==w)=(s.map g8==w):=by
 induction w with
 |nil=>
  intro s;cases s with
  |nil=>rfl
  |cons c r=>
   by_cases h:c.toNat<128
   ·rw[up_asc h];rfl
   ·obtain⟨b,t,e,_⟩:=up_high (c:=c) (by omega) r;rw[e];rfl
 |cons d w ih=>
  intro s;cases s with
  |nil=>rfl
  |cons c r=>
   have hd:=hw d (by simp);by_cases h:c.toNat<128
   ·rw[up_asc h,List.map_cons];show(g8 c==d&&(up r==w))=(g8 c==d&&(r.map g8==w));rw[ih (fun b hb=>hw b (by simp[hb]))]
   ·obtain⟨b,t,e,hb⟩:=up_high (c:=c) (by omega) r;rw[e,List.map_cons,g8_high (by omega)];have h1:(b==d)=false:=beq_eq_false_iff_ne.2 fun he=>by subst he;omega
    have h2:(c==d)=false:=beq_eq_false_iff_ne.2 fun he=>by subst he;omega
    show(b==d&&_)=(c==d&&_);rw[h1,h2];rfl
theorem up_pre:∀(w:List UInt8) (_:∀b∈w,b.toNat<128) (s:List UInt8),((up s).take w.length==w)=((s.map g8).take w.length==w)∧(((up s).take w.length==w)=true→(up s).drop w.length=up (s.drop w.length))
 |[],_,s=>⟨rfl,fun _=>rfl⟩
 |d::w,hw,[]=>⟨rfl,fun h=>by cases h⟩
 |d::w,hw,c::r=>by
  have hd:=hw d (by simp);obtain⟨i1,i2⟩:=up_pre w (fun b hb=>hw b (by simp[hb])) r;by_cases h:c.toNat<128
  ·rw[up_asc h,List.map_cons];refine⟨?_,fun hq=>?_⟩
   ·show(g8 c==d&&((up r).take w.length==w))=(g8 c==d&&((r.map g8).take w.length==w));rw[i1]
   ·have hq:(g8 c==d&&((up r).take w.length==w))=true:=hq;rw[Bool.and_eq_true]at hq;exact i2 hq.2
  ·obtain⟨b,t,e,hb⟩:=up_high (c:=c) (by omega) r;have h1:(b==d)=false:=beq_eq_false_iff_ne.2 fun he=>by subst he;omega
   have h2:(c==d)=false:=beq_eq_false_iff_ne.2 fun he=>by subst he;omega
   rw[e,List.map_cons,g8_high (by omega)];refine⟨?_,fun hq=>?_⟩
   ·show(b==d&&_)=(c==d&&_);rw[h1,h2];rfl
   ·have hq:(b==d&&(t.take w.length==w))=true:=hq;rw[h1]at hq;cases hq
theorem up_digs{p:UInt8→Bool}(hp:∀b,p b=true→b.toNat<97):∀s:List UInt8,(up s).all p=(s.map g8).all p∧((up s).all p=true→up s=s.map g8)
 |[]=>⟨rfl,fun _=>rfl⟩
 |c::r=>by
  obtain⟨i1,i2⟩:=up_digs hp r;by_cases h:c.toNat<128
  ·rw[up_asc h,List.map_cons];refine⟨by rw[List.all_cons,List.all_cons,i1],fun hq=>?_⟩;rw[List.all_cons,Bool.and_eq_true]at hq;rw[i2 hq.2]
  ·obtain⟨b,t,e,hb⟩:=up_high (c:=c) (by omega) r;have h1:p b=false:=by
    cases hb':p b with
    |false=>rfl
    |true=>have:=hp b hb';omega
   have h2:p c=false:=by
    cases hb':p c with
    |false=>rfl
    |true=>have:=hp c hb';omega
   rw[e,List.map_cons,g8_high (by omega)];refine⟨by rw[List.all_cons,List.all_cons,h1,h2];rfl,fun hq=>?_⟩;rw[List.all_cons,h1]at hq;cases hq
theorem enc_len{r:Nat}(h:r<128∨r=65533):(encodeRune (r:Int)).length≤3:=by
 unfold encodeRune encodeRuneZ;rw[List.length_map];rcases h with h|h
 ·rw[if_pos (by omega)];show 1≤3;omega
 ·subst h;decide
theorem enc_len4(r:Int):(encodeRune r).length≤4:=by
 unfold encodeRune;rw[List.length_map];exact(encodeRuneZ_length r).2
theorem up_len:∀(n:Nat) (s:List UInt8),s.length≤n→(up s).length≤3*s.length
 |_,[],_=>Nat.le_refl _
 |0,_::_,h=>by simp at h
 |n+1,c::r,hn=>by
  by_cases h:c.toNat<128
  ·have:=up_len n r (by simp at hn;omega);rw[up_asc h,List.length_cons,List.length_cons];omega
  ·have hh:=high_rune (l:=c::r) (show 128≤c.toNat by omega);have hw:=decodeL_width (c::r);have hs:((decodeL (c::r)).2=1∧(decodeL (c::r)).1=65533)∨(2≤(decodeL (c::r)).2∧(decodeL (c::r)).2≤(c::r).length):=by
    rw[decodeL_N]at hh ⊢;rcases decodeN_shape (c::r).length ((c::r).getD 0 0).toNat ((c::r).getD 1 0).toNat ((c::r).getD 2 0).toNat ((c::r).getD 3 0).toNat with⟨k,e⟩|⟨_,hn,_,_,e⟩|⟨_,hn,_,_,_,_,e⟩|⟨_,hn,_,_,_,_,_,e⟩|e
    ·exact absurd k (by show ¬c.toNat<128;omega)
    ·rw[e];exact .inr ⟨Nat.le_refl _,hn⟩
    ·rw[e];exact .inr ⟨by show 2≤3;omega,hn⟩
    ·rw[e];exact .inr ⟨by show 2≤4;omega,hn⟩
    ·rw[e];exact .inl ⟨rfl,rfl⟩
   have hr:=up_len n ((c::r).drop (decodeL (c::r)).2) (by rw[List.length_drop];simp at hn ⊢;omega);rw[List.length_drop]at hr;unfold up at hr ⊢;rw[mapD_step _ _ (by simp),great_high hh,if_pos (by omega),List.length_append];have h4:=enc_len4 ((decodeL (c::r)).1:Int);rcases hs with⟨a,b⟩|⟨a,b⟩
   ·have h3:=enc_len (r:=(decodeL (c::r)).1) (.inr b);rw[a]at hr ⊢;rw[a]at hw;simp only[List.length_cons]at hr ⊢;omega
   ·omega
end Go.Vm
