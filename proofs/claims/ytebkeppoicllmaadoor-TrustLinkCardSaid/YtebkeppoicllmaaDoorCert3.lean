/- Certificates: what is read of bytes: what it comes to. -/
import Derived.Test.YtebkeppoicllmaaDoorCert2
import Derived.Test.YtebkeppoicllmaaDoorDAll
namespace Go.Proofs.YtebkeppoicllmaaDoor
open Go.IntKind (u8 u16 u32 u64 i8 i16 i32 i64)
open Go Go.Vm Go.RowKit
set_option linter.unusedVariables false
set_option maxRecDepth 100000
set_option linter.unusedSectionVars false
variable [Φ:Frz]
noncomputable def F0:Tab:=⟨addP noT 57 getF2,noL,bf 9⟩
theorem F0_ok:TabOk3 Tryd.prog F0:=⟨aQ aL get2_ok,aM,au 9⟩
theorem only_tree(s:List UInt8)(t:Int)(R:V→Prop):runW Tryd.prog F0 9 10 42 [.str s,.int .u8 t] R=
  (
 bif bi s==0 then bif cH s==[]then R (.tuple [.str (ad s),.bool (aK s==t)])else R (.tuple [.str (ad s),.bool false])else R (.tuple [.str
 (ad s),.bool false])):=by kernel_rfl
def ez(s:List UInt8)(t:Int):Bool:=(bi s==0)&&((cH s==[])&&(aK s==t))
def onlyP:List V→Option V
 |[.str s,.int .u8 t]=>some (.tuple [.str (ad s),.bool (ez s t)])
 |_=>none
theorem only_ok(args:List V)(v:V)(h:onlyP args=some v):FnSat Tryd.prog 42 args [] (Is (v,[])):=by
 unfold onlyP at h;split at h
 ·rename_i s t;cases h;refine aJ (lim:=9) (n:=10) aH F0_ok rfl rfl ?_;rw[only_tree];unfold ez;refine ab (fun h=>?_) (fun h=>by rw[h];rfl);rw[h];refine ab (fun h=>?_) (fun h=>by rw[h];rfl);rw[h];rfl
 ·cases h
/-- Whether cells are so many things. -/
noncomputable def okLs(n:Nat)(ds:List V):Bool:=@decide (∃L:List IT,ds=aq L∧n=L.length∧L.length≤64) (Classical.propDecidable _)
theorem okLs_spec{n:Nat}{ds:List V}(h:okLs n ds=true):∃L:List IT,ds=aq L∧n=L.length∧L.length≤64:=by unfold okLs at h;simpa using h
theorem okLs_mk{L:List IT}(h:L.length≤64):okLs L.length (aq L)=true:=by unfold okLs;simp only[decide_eq_true_eq];exact⟨L,rfl,rfl,h⟩
def dg:List V→List IT
 |.int _ t::.str s::r=>(t,s)::dg r
 |_=>[]
theorem cy:∀L:List IT,dg (aq L)=L
 |[]=>rfl
 |x::r=>by simp only[aq,dg,cy r]
theorem mn{L r:List IT}{i:Nat}{c:IT}(h:L.drop i=c::r):(aq L).getD (0+i*2+0) (.bool false)=.int .u8 c.1∧(aq L).getD (0+i*2+1) (.bool false)=.str c.2∧(0+i*2+2).ble (aq L).length=true:=by
 have key:∀(L:List IT) (i:Nat),(aq L).drop (i*2)=aq (L.drop i):=by
  intro L
  induction L with
  |nil=>intro i;simp[aq]
  |cons x r ih=>
   intro i;cases i with
   |zero=>simp
   |succ i=>rw[show(i+1)*2=i*2+2 by omega];simpa[aq]using ih i
 have k:=key L i;rw[h]at k;have h3:=(bF h).2.2;have at0:∀j,(aq L).getD (0+i*2+j) (.bool false)=((aq L).drop (i*2)).getD j (.bool false):=fun j=>by
  rw[List.getD_eq_getElem?_getD,List.getD_eq_getElem?_getD,List.getElem?_drop];congr 2;omega
 refine⟨by rw[at0,k];rfl,by rw[at0,k];rfl,Nat.ble_eq_true_of_le ?_⟩;rw[iY];omega
theorem de_round0(k g:List UInt8)(f u:Int)(ca:Bool)(ds:List V)(n:Nat)(i:Int)(R:Exit→List (Option V)→St→Prop):ao Tryd.prog F0 9 10 (ah 9) 29 262138 [2,3,21,127,128,129] [.ptr 0 0,.int .i64 0,.ptr 2 0,.slice 1 0 n false 0 0,.int .i64 n,.int .i64 i] [.row [.str [],.str [],.nilSlice,.int .i64 0,.int .i64 0,.bool false] 27 6,.row ds 74 2,.row [.str k,.str g,.nilSlice,.int .i64 f,.int .i64 u,.bool ca] 27 6] R=
  (
 bif decide (i<(↑n:Int))then bif decide (0≤i)&&decide (i<(↑n:Int))then bif (0+i.toNat*2+2).ble ds.length then bif br u8 (ds.getD (0+
 i.toNat*2+0) (.bool false))then bif aw (ds.getD (0+i.toNat*2+1) (.bool false))then bif (al (ds.getD (0+i.toNat*2+0) (.bool false)))!=130
 then R .ret [some (.ptr 0 0),some (.int i64 4),some (.ptr 2 0),some (.slice 1 0 n false 0 0),some (.int i64 (↑n:Int)),some (.int
 i64 i)] [.row [.str [],.str [],.nilSlice,.int i64 0,.int i64 0,.bool false] 27 6,.row ds 74 2,.row [.str k,.str g,
 .nilSlice,.int i64 f,.int i64 u,.bool ca] 27 6,.row [.int u8 (al (ds.getD (0+i.toNat*2+0) (.bool false))),.str (aa
 (ds.getD (0+i.toNat*2+1) (.bool false)))] 74 2]else R .normal [some (.ptr 0 0),some (.int i64 0),some (.ptr 2 0),some (.slice 1 0 n false 0 0),
 some (.int i64 (↑n:Int)),some (.int i64 (i64.wrap (i+1)))] [.row [.str [],.str [],.nilSlice,.int i64 0,.int i64
 0,.bool false] 27 6,.row ds 74 2,.row [.str k,.str g,.slice 5 0 1 false 0 0,.int i64 f,.int i64 u,.bool ca] 27 6,.row [.int
 u8 (al (ds.getD (0+i.toNat*2+0) (.bool false))),.str (aa (ds.getD (0+i.toNat*2+1) (.bool false)))] 74 2,.row [.str ((aa (ds.getD
 (0+i.toNat*2+1) (.bool false))))] 9 1,.row [.str ((aa (ds.getD (0+i.toNat*2+1) (.bool false))))] 9 1]else False else False else False else False
 else R (.exit 2) [some (.ptr 0 0),some (.int i64 0),some (.ptr 2 0),some (.slice 1 0 n false 0 0),some (.int i64 (↑n:Int)),some (.int
 i64 i)] [.row [.str [],.str [],.nilSlice,.int i64 0,.int i64 0,.bool false] 27 6,.row ds 74 2,.row [.str k,.str g,
 .nilSlice,.int i64 f,.int i64 u,.bool ca] 27 6]):=by kernel_rfl
theorem de_round1(k g:List UInt8)(f u:Int)(ca:Bool)(ds o:List V)(n m:Nat)(i:Int)(R:Exit→List (Option V)→St→Prop):ao Tryd.prog F0 9 10 (ah 9) 29 262138 [2,3,21,127,128,129] [.ptr 0 0,.int .i64 0,.ptr 2 0,.slice 1 0 n false 0 0,.int .i64 n,.int .i64 i] [.row [.str [],.str [],.nilSlice,.int .i64 0,.int .i64 0,.bool false] 27 6,.row ds 74 2,.row [.str k,.str g,.slice 3 0 m false 0 0,.int .i64 f,.int .i64 u,.bool ca] 27 6,.row o 9 1] R=
  (
 bif decide (i<(↑n:Int))then bif decide (0≤i)&&decide (i<(↑n:Int))then bif (0+i.toNat*2+2).ble ds.length then bif br u8 (ds.getD (0+
 i.toNat*2+0) (.bool false))then bif aw (ds.getD (0+i.toNat*2+1) (.bool false))then bif (al (ds.getD (0+i.toNat*2+0) (.bool false)))!=130
 then R .ret [some (.ptr 0 0),some (.int i64 4),some (.ptr 2 0),some (.slice 1 0 n false 0 0),some (.int i64 (↑n:Int)),some (.int
 i64 i)] [.row [.str [],.str [],.nilSlice,.int i64 0,.int i64 0,.bool false] 27 6,.row ds 74 2,.row [.str k,.str g,
 .slice 3 0 m false 0 0,.int i64 f,.int i64 u,.bool ca] 27 6,.row o 9 1,.row [.int u8 (al (ds.getD (0+i.toNat*2+0)
 (.bool false))),.str (aa (ds.getD (0+i.toNat*2+1) (.bool false)))] 74 2]else bif o.length.beq (m*1)then bif (m+1).ble 9223372036854775807&&((m+1)
 *16).ble 140737488355328 then R .normal [some (.ptr 0 0),some (.int i64 0),some (.ptr 2 0),some (.slice 1 0 n false 0 0),some (.int i64 (↑n
 :Int)),some (.int i64 (i64.wrap (i+1)))] [.row [.str [],.str [],.nilSlice,.int i64 0,.int i64 0,.bool false] 27 6,
 .row ds 74 2,.row [.str k,.str g,.slice 6 0 (m+1) false 0 0,.int i64 f,.int i64 u,.bool ca] 27 6,.dead,.row [.int u8
 (al (ds.getD (0+i.toNat*2+0) (.bool false))),.str (aa (ds.getD (0+i.toNat*2+1) (.bool false)))] 74 2,.row [.str ((aa (ds.getD (0+
 i.toNat*2+1) (.bool false))))] 9 1,.row (o++[V.str ((aa (ds.getD (0+i.toNat*2+1) (V.bool false))))]) 9 1]else False else False else False else False
 else False else False else R (.exit 2) [some (.ptr 0 0),some (.int i64 0),some (.ptr 2 0),some (.slice 1 0 n false 0 0),some (.int i64 (↑n:
 Int)),some (.int i64 i)] [.row [.str [],.str [],.nilSlice,.int i64 0,.int i64 0,.bool false] 27 6,.row ds 74 2,.row [.str
 k,.str g,.slice 3 0 m false 0 0,.int i64 f,.int i64 u,.bool ca] 27 6,.row o 9 1]):=by kernel_rfl
structure DE where
 k:List UInt8
 g:List UInt8
 f:Int
 u:Int
 ca:Bool
 ds:List V
 n:Nat
 i:Nat
def deZ:Blk:=.row [.str [],.str [],.nilSlice,.int .i64 0,.int .i64 0,.bool false] 27 6
def deSl(b:Nat):Nat→V
 |0=>.nilSlice
 |i+1=>.slice b 0 (i+1) false 0 0
def deNm(ds:List V)(i:Nat):List (List UInt8):=((dg ds).take i).map (·.2)
def deRw(ds:List V):Nat→St
 |0=>[]
 |i+1=>[.row (strs (deNm ds (i+1))) 9 1]
def deV(x:DE):List V:=[.ptr 0 0,.int .i64 0,.ptr 2 0,.slice 1 0 x.n false 0 0,.int .i64 x.n,.int .i64 x.i]
def deJ(x:DE):St:=deZ::.row x.ds 74 2::.row [.str x.k,.str x.g,deSl 3 x.i,.int .i64 x.f,.int .i64 x.u,.bool x.ca] 27 6::deRw x.ds x.i
noncomputable def kG(x:DE):Bool:=okLs x.n x.ds&&(Nat.ble x.i x.n&&((dg x.ds).take x.i).all fun y=>y.1==130)
def deMu(x:DE):Nat:=x.n-x.i
noncomputable def deDec:List (Option V)→St→Option DE
 |[some (.ptr 0 0),some (.int .i64 0),some (.ptr p 0),some (.slice b 0 n false 0 0),some (.int .i64 _),some (.int .i64 0)],st=>match st[b]?,st[p]? with
  |some (.row ds _ _),some (.row [.str k,.str g,.nilSlice,.int .i64 f,.int .i64 u,.bool ca] _ _)=>some ⟨k,g,f,u,ca,ds,n,0⟩
  |_,_=>none
 |_,_=>none
def gm(ds:List V):Bool:=(dg ds).all fun y=>y.1==130
def mg(b:Bool)(k g:List UInt8)(f u:Int)(ca:Bool)(ds:List V)(n:Nat)(K:Exit→List V→St→Prop):Prop:=
 bif b then
  (n=0→K (.exit 2) [.ptr 0 0,.int .i64 0,.ptr 2 0,.slice 1 0 n false 0 0,.int .i64 n,.int .i64 n] [deZ,.dead,.row [.str k,.str g,.nilSlice,.int .i64 f,.int .i64 u,.bool ca] 27 6])∧
  (∀j,n=j+1→K (.exit 2) [.ptr 0 0,.int .i64 0,.ptr 2 0,.slice 1 0 n false 0 0,.int .i64 n,.int .i64 n] [deZ,.dead,.row [.str k,.str g,.slice 3 0 (j+1) false 0 0,.int .i64 f,.int .i64 u,.bool ca] 27 6,.row (strs ((dg ds).map (·.2))) 9 1])
 else ∀i:Nat,K .ret [.ptr 0 0,.int .i64 4,.ptr 2 0,.slice 1 0 n false 0 0,.int .i64 n,.int .i64 i] [deZ,.dead,.dead]
def deOut:Asks DE:=fun x K=>mg (gm x.ds) x.k x.g x.f x.u x.ca x.ds x.n K
theorem de_fits0d(k g:List UInt8)(f u:Int)(ca:Bool)(n:Nat)(e:Int)(i:Int)(st:St)(h0:st[0]?=some deZ)(h2:st[2]?=some (.row [.str k,.str g,.nilSlice,.int .i64 f,.int .i64 u,.bool ca] 27 6)):
  Fits 0 [.ptr 0 0,.int .i64 e,.ptr 2 0,.slice 1 0 n false 0 0,.int .i64 n,.int .i64 i] [deZ,.dead,.row [.str k,.str g,.nilSlice,.int .i64 f,.int .i64 u,.bool ca] 27 6] [some (.ptr 0 0),some (.int .i64 e),some (.ptr 2 0),some (.slice 1 0 n false 0 0),some (.int .i64 n),some (.int .i64 i)] st:=
 ⟨[0,1,2],[.ptr 0 0,.int .i64 e,.ptr 2 0,.slice 1 0 n false 0 0,.int .i64 n,.int .i64 i],rfl,rfl,FitsM.of ⟨.inr ⟨_,.inl rfl,h0⟩,.inl rfl,.inr ⟨_,.inl rfl,h2⟩,trivial⟩,by decide,fun i hi=>by omega⟩
theorem de_fitsR(n:Nat)(e:Int)(i:Int)(st:St)(h0:st[0]?=some deZ):
  Fits 0 [.ptr 0 0,.int .i64 e,.ptr 2 0,.slice 1 0 n false 0 0,.int .i64 n,.int .i64 i] [deZ,.dead,.dead] [some (.ptr 0 0),some (.int .i64 e),some (.ptr 2 0),some (.slice 1 0 n false 0 0),some (.int .i64 n),some (.int .i64 i)] st:=
 ⟨[0,1,2],[.ptr 0 0,.int .i64 e,.ptr 2 0,.slice 1 0 n false 0 0,.int .i64 n,.int .i64 i],rfl,rfl,FitsM.of ⟨.inr ⟨_,.inl rfl,h0⟩,.inl rfl,.inl rfl,trivial⟩,by decide,fun i hi=>by omega⟩
theorem de_fits1(k g:List UInt8)(f u:Int)(ca:Bool)(n m:Nat)(i:Int)(ds:List V)(hf:ax ds=true)(o:List (List UInt8))(b:Nat)(hb:3≤b)(st:St)(h0:st[0]?=some deZ)(h1:st[1]?=some (.row ds 74 2))(h2:st[2]?=some (.row [.str k,.str g,.slice b 0 m false 0 0,.int .i64 f,.int .i64 u,.bool ca] 27 6))(h3:st[b]?=some (.row (strs o) 9 1)):
  Fits 0 [.ptr 0 0,.int .i64 0,.ptr 2 0,.slice 1 0 n false 0 0,.int .i64 n,.int .i64 i] [deZ,.row ds 74 2,.row [.str k,.str g,.slice 3 0 m false 0 0,.int .i64 f,.int .i64 u,.bool ca] 27 6,.row (strs o) 9 1] [some (.ptr 0 0),some (.int .i64 0),some (.ptr 2 0),some (.slice 1 0 n false 0 0),some (.int .i64 n),some (.int .i64 i)] st:=
 ⟨[0,1,2,b],[.ptr 0 0,.int .i64 0,.ptr 2 0,.slice 1 0 n false 0 0,.int .i64 n,.int .i64 i],rfl,rfl,FitsM.of ⟨.inr ⟨_,.inl rfl,h0⟩,.inr ⟨.row ds 74 2,.inl (by simp only[renB,av _ hf]),h1⟩,.inr ⟨_,.inl rfl,h2⟩,.inr ⟨.row (strs o) 9 1,.inl (by simp only[renB,av _ (bB o)]),h3⟩,trivial⟩,by simp;omega,fun i hi=>by omega⟩
theorem de_fits1d(k g:List UInt8)(f u:Int)(ca:Bool)(n m:Nat)(i:Int)(o:List (List UInt8))(b:Nat)(hb:3≤b)(st:St)(h0:st[0]?=some deZ)(h2:st[2]?=some (.row [.str k,.str g,.slice b 0 m false 0 0,.int .i64 f,.int .i64 u,.bool ca] 27 6))(h3:st[b]?=some (.row (strs o) 9 1)):
  Fits 0 [.ptr 0 0,.int .i64 0,.ptr 2 0,.slice 1 0 n false 0 0,.int .i64 n,.int .i64 i] [deZ,.dead,.row [.str k,.str g,.slice 3 0 m false 0 0,.int .i64 f,.int .i64 u,.bool ca] 27 6,.row (strs o) 9 1] [some (.ptr 0 0),some (.int .i64 0),some (.ptr 2 0),some (.slice 1 0 n false 0 0),some (.int .i64 n),some (.int .i64 i)] st:=
 ⟨[0,1,2,b],[.ptr 0 0,.int .i64 0,.ptr 2 0,.slice 1 0 n false 0 0,.int .i64 n,.int .i64 i],rfl,rfl,FitsM.of ⟨.inr ⟨_,.inl rfl,h0⟩,.inl rfl,.inr ⟨_,.inl rfl,h2⟩,.inr ⟨.row (strs o) 9 1,.inl (by simp only[renB,av _ (bB o)]),h3⟩,trivial⟩,by simp;omega,fun i hi=>by omega⟩
theorem gO:∀L:List IT,ax (aq L)=true
 |[]=>rfl
 |x::r=>by simp only[aq,ax,V.flat,gO r,Bool.and_self]
theorem de_roundOk(x:DE)(hx:kG x=true):ao Tryd.prog F0 9 10 (ah 9) 29 262138 [2,3,21,127,128,129] (deV x) (deJ x) (aR 0 kG deV deJ deMu deOut x):=by
 obtain⟨k,g,f,u,ca,ds,n,i⟩:=x;unfold kG at hx;simp only[Bool.and_eq_true]at hx;have hx1:okLs n ds=true:=hx.1;have p1:i≤n:=Nat.le_of_ble_eq_true hx.2.1;obtain⟨L,rfl,rfl,p2⟩:=okLs_spec hx1;have hx3:(L.take i).all (fun y=>y.1==130)=true:=by have:=hx.2.2;simp only[cy]at this;exact this
 have hfl:=gO L;have q2:decide ((0:Int)≤(i:Int))=true:=decide_eq_true (by omega);have q3:i64.wrap ((i:Int)+1)=((i+1:Nat):Int):=by rw[IntWalk.i64_in _ ⟨by omega,by omega⟩];omega
 have nm:∀j,deNm (aq L) j=(L.take j).map (·.2):=fun j=>by unfold deNm;rw[cy]
 have all:L.drop i=[]→gm (aq L)=true:=fun h=>by
  have:=dc h p1;unfold gm;rw[cy];rw[List.take_of_length_le (by omega)]at hx3;exact hx3
 have bad:∀c r,L.drop i=c::r→c.1≠130→gm (aq L)=false:=fun c r h hc=>by
  unfold gm;rw[cy];have hm:=List.mem_of_getElem? (bF h).1;cases hb:L.all (fun y=>y.1==130)with
  |false=>rfl
  |true=>exact absurd (beq_iff_eq.1 (List.all_eq_true.1 hb c hm)) hc
 have pre2:∀c r,L.drop i=c::r→c.1=130→kG ⟨k,g,f,u,ca,aq L,L.length,i+1⟩=true:=fun c r h hc=>by
  obtain⟨e1,_,e3⟩:=bF h;unfold kG;simp only[Bool.and_eq_true,cy];refine⟨hx1,Nat.ble_eq_true_of_le (by omega),?_⟩;rw[List.take_add_one,e1,List.all_append,hx3,Bool.true_and];simp[hc]
 cases i with
 |zero=>
  show ao Tryd.prog F0 9 10 (ah 9) 29 262138 [2,3,21,127,128,129] [.ptr 0 0,.int .i64 0,.ptr 2 0,.slice 1 0 L.length false 0 0,.int .i64 L.length,.int .i64 ((0:Nat):Int)] [.row [.str [],.str [],.nilSlice,.int .i64 0,.int .i64 0,.bool false] 27 6,.row (aq L) 74 2,.row [.str k,.str g,.nilSlice,.int .i64 f,.int .i64 u,.bool ca] 27 6] _;rw[de_round0];cases hd:L.drop 0 with
  |nil=>
   have hi:=dc hd p1;have q1:decide (((0:Nat):Int)<(L.length:Int))=false:=decide_eq_false (by omega);rw[q1,cond_false];refine⟨_,_,fun K hK=>?_,de_fits0d k g f u ca L.length 0 ((0:Nat):Int) _ rfl rfl⟩;have hK:mg (gm (aq L)) k g f u ca (aq L) L.length K:=hK;rw[all hd]at hK;have:=hK.1 hi.symm;rw[show(L.length:Int)=((0:Nat):Int) by omega]at this ⊢;exact this
  |cons c r=>
   obtain⟨e1,e2,e3⟩:=bF hd;obtain⟨e4,e5,e6⟩:=mn hd;have q1:decide (((0:Nat):Int)<(L.length:Int))=true:=decide_eq_true (by omega);simp only[q1,q2,Int.toNat_natCast,e4,e5,e6,aw,aa,br,al,decide_true,cond_true,Bool.and_true,q3];refine ab (fun h=>?_) (fun h=>?_)
   ·have h:c.1≠130:=by simpa using h
    refine⟨_,_,fun K hK=>?_,de_fitsR L.length 4 ((0:Nat):Int) _ rfl⟩;have hK:mg (gm (aq L)) k g f u ca (aq L) L.length K:=hK;rw[bad c r hd h]at hK;exact hK 0
   ·have h:c.1=130:=by simpa using h
    refine⟨⟨k,g,f,u,ca,aq L,L.length,0+1⟩,pre2 c r hd h,?_,by simp only[deMu];omega,fun K hK=>hK⟩;show Fits 0 [.ptr 0 0,.int .i64 0,.ptr 2 0,.slice 1 0 L.length false 0 0,.int .i64 L.length,.int .i64 ((0+1:Nat):Int)] [deZ,.row (aq L) 74 2,.row [.str k,.str g,.slice 3 0 (0+1) false 0 0,.int .i64 f,.int .i64 u,.bool ca] 27 6,.row (strs (deNm (aq L) (0+1))) 9 1] _ _;rw[nm,List.take_add_one,e1];exact de_fits1 k g f u ca L.length 1 _ _ hfl [c.2] 5 (by omega) _ rfl rfl rfl rfl
 |succ j=>
  show ao Tryd.prog F0 9 10 (ah 9) 29 262138 [2,3,21,127,128,129] [.ptr 0 0,.int .i64 0,.ptr 2 0,.slice 1 0 L.length false 0 0,.int .i64 L.length,.int .i64 ((j+1:Nat):Int)] [.row [.str [],.str [],.nilSlice,.int .i64 0,.int .i64 0,.bool false] 27 6,.row (aq L) 74 2,.row [.str k,.str g,.slice 3 0 (j+1) false 0 0,.int .i64 f,.int .i64 u,.bool ca] 27 6,.row (strs (deNm (aq L) (j+1))) 9 1] _;rw[de_round1,nm];cases hd:L.drop (j+1)with
  |nil=>
   have hi:=dc hd p1;have q1:decide (((j+1:Nat):Int)<(L.length:Int))=false:=decide_eq_false (by omega);rw[q1,cond_false];refine⟨_,_,fun K hK=>?_,de_fits1d k g f u ca L.length (j+1) ((j+1:Nat):Int) ((L.take (j+1)).map (·.2)) 3 (Nat.le_refl _) _ rfl rfl rfl⟩;have hK:mg (gm (aq L)) k g f u ca (aq L) L.length K:=hK;rw[all hd]at hK;have:=hK.2 j hi.symm;rw[cy]at this;rw[List.take_of_length_le (by omega)];rw[show(L.length:Int)=((j+1:Nat):Int) by omega]at this ⊢;exact this
  |cons c r=>
   obtain⟨e1,e2,e3⟩:=bF hd;obtain⟨e4,e5,e6⟩:=mn hd;have q1:decide (((j+1:Nat):Int)<(L.length:Int))=true:=decide_eq_true (by omega);have q5:(strs ((L.take (j+1)).map (·.2))).length.beq ((j+1)*1)=true:=by
    rw[aT,List.length_map,List.length_take,Nat.mul_one,Nat.min_eq_left (by omega)];exact Nat.beq_refl _
   have q6:((j+1+1).ble 9223372036854775807&&((j+1+1)*16).ble 140737488355328)=true:=by
    rw[Bool.and_eq_true];exact⟨Nat.ble_eq_true_of_le (by omega),Nat.ble_eq_true_of_le (by omega)⟩
   simp only[q1,q2,Int.toNat_natCast,e4,e5,e6,aw,aa,br,al,decide_true,cond_true,Bool.and_true,q3,q5,q6];refine ab (fun h=>?_) (fun h=>?_)
   ·have h:c.1≠130:=by simpa using h
    refine⟨_,_,fun K hK=>?_,de_fitsR L.length 4 ((j+1:Nat):Int) _ rfl⟩;have hK:mg (gm (aq L)) k g f u ca (aq L) L.length K:=hK;rw[bad c r hd h]at hK;exact hK (j+1)
   ·have h:c.1=130:=by simpa using h
    refine⟨⟨k,g,f,u,ca,aq L,L.length,j+1+1⟩,pre2 c r hd h,?_,by simp only[deMu];omega,fun K hK=>hK⟩;show Fits 0 [.ptr 0 0,.int .i64 0,.ptr 2 0,.slice 1 0 L.length false 0 0,.int .i64 L.length,.int .i64 ((j+1+1:Nat):Int)] [deZ,.row (aq L) 74 2,.row [.str k,.str g,.slice 3 0 (j+1+1) false 0 0,.int .i64 f,.int .i64 u,.bool ca] 27 6,.row (strs (deNm (aq L) (j+1+1))) 9 1] _ _;have hap:strs ((L.take (j+1)).map (·.2))++[V.str c.2]=strs (deNm (aq L) (j+1+1)):=by
     have ht:L.take (j+1+1)=L.take (j+1)++L[j+1]?.toList:=List.take_add_one;rw[nm,ht,e1];unfold strs;simp
    rw[hap];exact de_fits1 k g f u ca L.length (j+1+1) _ _ hfl _ 6 (by omega) _ rfl rfl rfl rfl
def ex6(ds:List V):List V:=[.int .u8 (al (ds.getD 0 (.bool false))),.str (aa (ds.getD 1 (.bool false))),.int .u8 (al (ds.getD 2 (.bool false))),.str (aa (ds.getD 3 (.bool false))),.int .u8 (al (ds.getD 4 (.bool false))),.str (aa (ds.getD 5 (.bool false))),.int .u8 (al (ds.getD 6 (.bool false))),.str (aa (ds.getD 7 (.bool false))),.int .u8 (al (ds.getD 8 (.bool false))),.str (aa (ds.getD 9 (.bool false))),.int .u8 (al (ds.getD 10 (.bool false))),.str (aa (ds.getD 11 (.bool false)))]
noncomputable def ok6(ds:List V):Bool:=@decide (ex6 ds=ds) (Classical.propDecidable _)
theorem ok6_spec{ds:List V}(h:ok6 ds=true):ex6 ds=ds:=by unfold ok6 at h;simpa using h
theorem ok6_cells{L:List IT}(h:L.length=6):ok6 (aq L)=true:=by
 unfold ok6;simp only[decide_eq_true_eq]
 match L,h with
 |[a,b,c,d,e,f],_=>rfl
noncomputable def lk30:Nat→Trans→Trans:=kM 1018 (subRow 50 51 6 ex6 ok6) (gR 262138 (isSl 127) (cx 0 (szOf Tryd.prog 29) [2,3,21,127,128,129] deDec kG deV deJ deOut) (ah 9))
theorem lk30_ok:aC Tryd.prog 0 lk30 29:=by
 unfold lk30;exact fnSub (subRow_ok fun ds=>ok6_spec) (fnLoopCW (bj 9 0 29) (by kernel_rfl) fun f st Q h=>bN (P:=Tryd.prog) (T:=F0) (k:=0) (lim:=9) (n:=10) (g:=29) (p0:=262138) (lk:=ah 9) aH F0_ok (bn 9 _ _) deMu de_roundOk h)
def allG':List V→Option (List (Bool×(V×St))):=allG allE allN allC
theorem allG'_ok(args:List V)(l:List (Bool×(V×St)))(o:V×St)(h:allG' args=some l)(ho:aP l=some o):FnSat Tryd.prog 43 args [] (Is o):=allG_ok args l o h ho
noncomputable def F1:Tab:=⟨addT (addP (addP (addP noT 42 onlyP) 44 readF) 45 oi) 43 allG',addS noL 30 mayG,dS (bf 9) 29 0 lk30⟩
theorem F1_ok:TabOk3 Tryd.prog F1:=⟨b8 (aQ (aQ (aQ aL only_ok) read_ok) rdbool_ok) allG'_ok,cQ aM mayG_ok,bT (au 9) lk30_ok⟩
end Go.Proofs.YtebkeppoicllmaaDoor
