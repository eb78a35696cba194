/- Parts of this work: what the functions come to. -/
import Derived.Test.YtnenadbbhdcaoaaDoorP2
import Derived.Test.YtnenadbbhdcaoaaDoorP1
import Derived.Test.YtnenadbbhdcaoaaDoorVmc
import Derived.Test.YtnenadbbhdcaoaaDoorRows
import Derived.WalkKit
import Derived.ProofKit
import Derived.OpenShut
import Derived.ShutString
import Derived.SizedLaws
import Derived.LaidMore
import Derived.Stop.Joined
import Derived.LaidHandle
namespace Go.Proofs.YtnenadbbhdcaoaaDoor
open Go.IntKind (u8 u16 u32 u64 i8 i16 i32 i64)
open Go Go.Vm Go.RowKit
set_option linter.unusedVariables false
set_option maxRecDepth 100000
set_option linter.unusedSectionVars false
variable [Φ:Frz]
noncomputable def CT0:Tab:=⟨noT,noL,aV 9⟩
theorem CT0_ok:TabOk3 Tryd.prog CT0:=⟨aF,aG,ap 9⟩
theorem ci_round(k g:List UInt8)(x:Value)(n:Nat)(cs:List V)(f u:Int)(ca:Bool)(m:Nat)(oc ws:List V)(w:Nat)(i:Int)(k' g':List UInt8)(f' u':Int)(ca':Bool)(p:Nat)(o yn zn:List V)(j:Int)(R:Exit→List (Option V)→St→Prop):ah Tryd.prog CT0 9 10 (ac 9) 3 8376954 [3,6,7,12,13,14,16,18,19] [.ptr 0 0,.bool false,.ptr 1 0,.slice 3 0 w false 0 0,.int .i64 i,.ptr 4 0,.ptr 6 0,.ptr 8 0,.int .i64 j] [.row [.str k,.str g,.lst x n cs,.int .i64 f,.int .i64 u,.bool ca] 24 6,.row [.str k,.str g,.slice 2 0 m false 0 0,.int .i64 f,.int .i64 u,.bool ca] 24 6,.row oc 9 1,.row ws 9 1,.row [.str k',.str g',.slice 5 0 p false 0 0,.int .i64 f',.int .i64 u',.bool ca'] 24 6,.row o 9 1,.row [.str k',.str g',.nos 7 p,.int .i64 f',.int .i64 u',.bool ca'] 31 6,.ro true yn,.row [.str k',.str g',.slice 9 0 p false 0 0,.int .i64 f',.int .i64 u',.bool ca'] 24 6,.row zn 9 1] R=
  (
 bif decide (j<(↑p:Int))then bif decide (0≤j)&&decide (j<(↑p:Int))then bif true&&(0+j.toNat*1+1).ble o.length then R .normal [some (.ptr 0 0),
 some (.bool false),some (.ptr 1 0),some (.slice 3 0 w false 0 0),some (.int i64 i),some (.ptr 4 0),some (.ptr 6 0),some (.ptr 8 0),some (.int
 i64 (i64.wrap (j+1)))] [.row [.str k,.str g,.lst x n cs,.int i64 f,.int i64 u,.bool ca] 24 6,.row [.str k,.str g,
 .slice 2 0 m false 0 0,.int i64 f,.int i64 u,.bool ca] 24 6,.row oc 9 1,.row ws 9 1,.row [.str k',.str g',.slice 5 0 p false 0 0,
 .int i64 f',.int i64 u',.bool ca'] 24 6,.row (cz (0+j.toNat*1) [.str [115,112,111,105,108,116]] o) 9 1,.row [.str k',.str g',
 .nos 7 p,.int i64 f',.int i64 u',.bool ca'] 31 6,.ro true yn,.row [.str k',.str g',.slice 9 0 p false 0 0,.int i64 f',.int
 i64 u',.bool ca'] 24 6,.row zn 9 1]else False else False else R (.exit 2) [some (.ptr 0 0),some (.bool false),some (.ptr 1 0),some (.slice 3 0 w
 false 0 0),some (.int i64 i),some (.ptr 4 0),some (.ptr 6 0),some (.ptr 8 0),some (.int i64 j)] [.row [.str k,.str g,.lst x n cs,.int
 i64 f,.int i64 u,.bool ca] 24 6,.row [.str k,.str g,.slice 2 0 m false 0 0,.int i64 f,.int i64 u,.bool ca] 24 6,
 .row oc 9 1,.row ws 9 1,.row [.str k',.str g',.slice 5 0 p false 0 0,.int i64 f',.int i64 u',.bool ca'] 24 6,.row o 9 1,.row
 [.str k',.str g',.nos 7 p,.int i64 f',.int i64 u',.bool ca'] 31 6,.ro true yn,.row [.str k',.str g',.slice 9 0 p false 0 0,.int
 i64 f',.int i64 u',.bool ca'] 24 6,.row zn 9 1]):=by kernel_rfl
def j4(p0:Nat)(d:Fr→St→Bool)(T:Trans)(lk:Nat→Trans→Trans):Nat→Trans→Trans:=fun p body f st Q=>bif Nat.beq p p0&&d f st then T f st Q else lk p body f st Q
section
variable {P:Program} {ro:Option Nat} {k:Nat}
theorem cd{p0:Nat}{ct:Fr→St→Bool}{T:Trans}{lk:Nat→Trans→Trans}:∀(c:Code) (p:Nat),cp P ro k lk p c→(∀c'∈aT p0 p c,∀f st Q,T f st Q→CodeSatW P ro k (.loop c') f st Q)→cp P ro k (j4 p0 ct T lk) p c
 |.seq a b,p,h,hT=>⟨cd a _ h.1 fun c' hc=>hT c' (by simp only[aT,List.mem_append];exact .inl hc),cd b _ h.2 fun c' hc=>hT c' (by simp only[aT,List.mem_append];exact .inr hc)⟩
 |.cond _ a b,p,h,hT=>⟨cd a _ h.1 fun c' hc=>hT c' (by simp only[aT,List.mem_append];exact .inl hc),cd b _ h.2 fun c' hc=>hT c' (by simp only[aT,List.mem_append];exact .inr hc)⟩
 |.block _ c,p,h,hT=>cd c _ h fun c' hc=>hT c' (by simp only[aT];exact hc)
 |.scope c,p,h,hT=>cd c _ h fun c' hc=>hT c' (by simp only[aT];exact hc)
 |.loop c,p,h,hT=>by
  refine⟨cd c _ h.1 fun c' hc=>hT c' (by simp only[aT,List.mem_append];exact .inr hc),fun body hb f st Q hq=>?_⟩;unfold j4 at hq;cases hp:(Nat.beq p p0&&ct f st)with
  |true=>
   rw[hp,cond_true]at hq;rw[Bool.and_eq_true]at hp;exact hT c (by simp[aT,Nat.eq_of_beq_eq_true hp.1]) f st Q hq
  |false=>
   rw[hp,cond_false]at hq;exact h.2 body hb f st Q hq
 |.skip,_,_,_|.label _,_,_,_|.ret,_,_,_|.exit _,_,_,_|.region ..,_,_,_|.rangeFunc ..,_,_,_|.goto _,_,_,_|.refuse _,_,_,_=>trivial
end
theorem oI{k:Nat}{vs:List V}{s:St}{l:List (Option V)}{st:St}(h:Fits k vs s l st)(i:Nat):Fits k vs (s.set i .dead) l st:=by
 obtain⟨σ,us,h1,h2,⟨h3,h4⟩,h5,h6⟩:=h;refine⟨σ,us,h1,h2,⟨by rw[List.length_set];exact h3,fun j c b hj hb hd=>?_⟩,h5,h6⟩;rw[List.getElem?_set]at hb;split at hb
 ·split at hb
  ·cases hb;exact absurd rfl hd
  ·cases hb
 ·exact h4 j c b hj hb hd
structure KD where
 k:List UInt8
 g:List UInt8
 f:Int
 u:Int
 ca:Bool
structure CI where
 c:CT
 m:Nat
 oc:List V
 ws:List V
 w:Nat
 i:Nat
 d:KD
 p:Nat
 o:List V
 yn:List V
 zn:List V
 j:Nat
def cRow(c:CT):Blk:=.row [.str c.k,.str c.g,.lst c.x c.n c.cs,.int .i64 c.f,.int .i64 c.u,.bool c.ca] 24 6
def nRow(c:KD)(v:V):Blk:=.row [.str c.k,.str c.g,v,.int .i64 c.f,.int .i64 c.u,.bool c.ca] 24 6
def yRow(c:KD)(v:V):Blk:=.row [.str c.k,.str c.g,v,.int .i64 c.f,.int .i64 c.u,.bool c.ca] 31 6
def oRow(c:CT)(v:V):Blk:=.row [.str c.k,.str c.g,v,.int .i64 c.f,.int .i64 c.u,.bool c.ca] 24 6
def ciV(q:CI):List V:=[.ptr 0 0,.bool false,.ptr 1 0,.slice 3 0 q.w false 0 0,.int .i64 q.i,.ptr 4 0,.ptr 6 0,.ptr 8 0,.int .i64 q.j]
def ciJ(q:CI):St:=[cRow q.c,oRow q.c (.slice 2 0 q.m false 0 0),.row q.oc 9 1,.row q.ws 9 1,nRow q.d (.slice 5 0 q.p false 0 0),.row q.o 9 1,yRow q.d (.nos 7 q.p),.ro true q.yn,nRow q.d (.slice 9 0 q.p false 0 0),.row q.zn 9 1]
def mY(q:CI):Bool:=Nat.beq q.o.length q.p&&(Nat.ble q.j q.p&&(Nat.ble q.p 1000000&&(am q.o&&(am q.oc&&(am q.ws&&(am q.yn&&am q.zn))))))
def ciMu(q:CI):Nat:=q.p-q.j
def ciDec:List (Option V)→St→Option CI
 |[some (.ptr a 0),some (.bool false),some (.ptr b 0),some (.slice l 0 w false 0 0),some (.int .i64 i),some (.ptr x 0),some (.ptr y 0),some (.ptr z 0),some (.int .i64 0)],st=>
  match st[a]?,st[b]?,st[l]?,st[x]?,st[y]?,st[z]? with
  |some (.row [.str k,.str g,.lst xx n cs,.int .i64 f,.int .i64 u,.bool ca] _ _),some (.row [_,_,.slice ob 0 m false 0 0,_,_,_] _ _),some (.row ws _ _),some (.row [.str k',.str g',.slice xb 0 p false 0 0,.int .i64 f',.int .i64 u',.bool ca'] _ _),some (.row [_,_,.nos yb _,_,_,_] _ _),some (.row [_,_,.slice zb 0 _ false 0 0,_,_,_] _ _)=>
   match st[ob]?,st[xb]?,st[yb]?,st[zb]? with
   |some (.row oc _ _),some (.row o _ _),some (.ro true yn),some (.row zn _ _)=>some ⟨⟨k,g,xx,n,cs,f,u,ca⟩,m,oc,ws,w,i.toNat,⟨k',g',f',u',ca'⟩,p,o,yn,zn,0⟩
   |_,_,_,_=>none
  |_,_,_,_,_,_=>none
 |_,_=>none
def ciOutG(c:CT)(m:Nat)(oc ws:List V)(w i:Nat)(d:KD)(p:Nat)(yn zn:List V)(K:Exit→List V→St→Prop):Prop:=
 ∀j:Int,K (.exit 2) [.ptr 0 0,.bool false,.ptr 1 0,.slice 3 0 w false 0 0,.int .i64 i,.ptr 4 0,.ptr 6 0,.ptr 8 0,.int .i64 j] [cRow c,oRow c (.slice 2 0 m false 0 0),.row oc 9 1,.row ws 9 1,.dead,.dead,yRow d (.nos 7 p),.ro true yn,nRow d (.slice 9 0 p false 0 0),.row zn 9 1]
def ciOut:Asks CI:=fun q K=>ciOutG q.c q.m q.oc q.ws q.w q.i q.d q.p q.yn q.zn K
theorem ci_fits(c:CT)(m:Nat)(oc ws:List V)(w:Nat)(i:Int)(d:KD)(p:Nat)(o yn zn:List V)(j:Int)(f1:am oc=true)(f2:am ws=true)(f3:am o=true)(f4:am yn=true)(f5:am zn=true)(a0 a1 a2 a3 a4 a5 a6 a7 a8 a9:Nat)(hn:[a0,a1,a2,a3,a4,a5,a6,a7,a8,a9].Nodup){st:St}
  (h0:st[a0]?=some (cRow c))(h1:st[a1]?=some (oRow c (.slice a2 0 m false 0 0)))(h2:st[a2]?=some (.row oc 9 1))(h3:st[a3]?=some (.row ws 9 1))(h4:st[a4]?=some (nRow d (.slice a5 0 p false 0 0)))(h5:st[a5]?=some (.row o 9 1))(h6:st[a6]?=some (yRow d (.nos a7 p)))(h7:st[a7]?=some (.ro true yn))(h8:st[a8]?=some (nRow d (.slice a9 0 p false 0 0)))(h9:st[a9]?=some (.row zn 9 1)):
  Fits 0 [.ptr 0 0,.bool false,.ptr 1 0,.slice 3 0 w false 0 0,.int .i64 i,.ptr 4 0,.ptr 6 0,.ptr 8 0,.int .i64 j] [cRow c,oRow c (.slice 2 0 m false 0 0),.row oc 9 1,.row ws 9 1,nRow d (.slice 5 0 p false 0 0),.row o 9 1,yRow d (.nos 7 p),.ro true yn,nRow d (.slice 9 0 p false 0 0),.row zn 9 1] [some (.ptr a0 0),some (.bool false),some (.ptr a1 0),some (.slice a3 0 w false 0 0),some (.int .i64 i),some (.ptr a4 0),some (.ptr a6 0),some (.ptr a8 0),some (.int .i64 j)] st:=
 ⟨[a0,a1,a2,a3,a4,a5,a6,a7,a8,a9],[.ptr a0 0,.bool false,.ptr a1 0,.slice a3 0 w false 0 0,.int .i64 i,.ptr a4 0,.ptr a6 0,.ptr a8 0,.int .i64 j],rfl,rfl,FitsM.of ⟨.inr ⟨_,.inl rfl,h0⟩,.inr ⟨_,.inl rfl,h1⟩,.inr ⟨.row oc 9 1,.inl (by simp only[renB,aB _ f1]),h2⟩,.inr ⟨.row ws 9 1,.inl (by simp only[renB,aB _ f2]),h3⟩,.inr ⟨_,.inl rfl,h4⟩,.inr ⟨.row o 9 1,.inl (by simp only[renB,aB _ f3]),h5⟩,.inr ⟨_,.inl rfl,h6⟩,.inr ⟨.ro true yn,.inl (by simp only[renB,aB _ f4]),h7⟩,.inr ⟨_,.inl rfl,h8⟩,.inr ⟨.row zn 9 1,.inl (by simp only[renB,aB _ f5]),h9⟩,trivial⟩,hn,fun i hi=>by omega⟩
theorem gn:∀a b:List V,am a=true→am b=true→am (a++b)=true
 |[],b,_,h=>h
 |v::r,b,h1,h2=>by
  simp only[am,Bool.and_eq_true]at h1;simp only[List.cons_append,am,Bool.and_eq_true];exact⟨h1.1,gn r b h1.2 h2⟩
theorem mK:∀(n:Nat) (a:List V),am a=true→am (a.take n)=true
 |0,a,_=>rfl
 |n+1,[],_=>rfl
 |n+1,v::r,h=>by
  simp only[am,Bool.and_eq_true]at h;simp only[List.take_succ_cons,am,Bool.and_eq_true];exact⟨h.1,mK n r h.2⟩
theorem mL:∀(n:Nat) (a:List V),am a=true→am (a.drop n)=true
 |0,a,h=>h
 |n+1,[],_=>rfl
 |n+1,v::r,h=>by
  simp only[am,Bool.and_eq_true]at h;exact mL n r h.2
theorem ci_roundOk(q:CI)(hq:mY q=true):ah Tryd.prog CT0 9 10 (ac 9) 3 8376954 [3,6,7,12,13,14,16,18,19] (ciV q) (ciJ q) (av 0 mY ciV ciJ ciMu ciOut q):=by
 obtain⟨⟨k,g,x,n,cs,f,u,ca⟩,m,oc,ws,w,i,⟨k',g',f',u',ca'⟩,p,o,yn,zn,j⟩:=q;unfold mY at hq;simp only[Bool.and_eq_true]at hq;obtain⟨q0,q1,q2,q3,q4,q5,q6,q7⟩:=hq;have q0:o.length=p:=Nat.eq_of_beq_eq_true q0;have p1:j≤p:=Nat.le_of_ble_eq_true q1;have p2:p≤1000000:=Nat.le_of_ble_eq_true q2;have fit:=fun(o:List V) (j:Int) (f3:am o=true)=>ci_fits ⟨k,g,x,n,cs,f,u,ca⟩ m oc ws w (i:Nat) ⟨k',g',f',u',ca'⟩ p o yn zn j q4 q5 f3 q6 q7 0 1 2 3 4 5 6 7 8 9 (by decide) (st:=ciJ ⟨⟨k,g,x,n,cs,f,u,ca⟩,m,oc,ws,w,i,⟨k',g',f',u',ca'⟩,p,o,yn,zn,0⟩) rfl rfl rfl rfl rfl rfl rfl rfl rfl rfl;refine cast (ci_round k g x n cs f u ca m oc ws w i k' g' f' u' ca' p o yn zn j _).symm ?_;by_cases hj:j<p
 ·have d1:decide ((j:Int)<(p:Int))=true:=decide_eq_true (by omega);have d2:decide ((0:Int)≤(j:Int))=true:=decide_eq_true (by omega);have l1:(0+j*1+1).ble o.length=true:=Nat.ble_eq_true_of_le (by omega);have w2:i64.wrap ((j:Int)+1)=((j+1:Nat):Int):=by rw[IntWalk.i64_in _ ⟨by omega,by omega⟩];omega
  simp only[d1,d2,Int.toNat_natCast,l1,w2,Bool.and_self,cond_true];have hf:am (cz (0+j*1) [V.str [115,112,111,105,108,116]] o)=true:=by
   unfold cz;exact gn _ _ (gn _ _ (mK _ _ q3) rfl) (mL _ _ q3)
  refine⟨⟨⟨k,g,x,n,cs,f,u,ca⟩,m,oc,ws,w,i,⟨k',g',f',u',ca'⟩,p,cz (0+j*1) [V.str [115,112,111,105,108,116]] o,yn,zn,j+1⟩,?_,fit _ _ hf,by simp only[ciMu];omega,fun K hK=>hK⟩;unfold mY;simp only[Bool.and_eq_true];refine⟨?_,Nat.ble_eq_true_of_le (show j+1≤p by omega),q2,hf,q4,q5,q6,q7⟩;have:(cz (0+j*1) [V.str [115,112,111,105,108,116]] o).length=p:=by
   unfold cz;simp only[List.length_append,List.length_take,List.length_drop,List.length_cons,List.length_nil];omega
  rw[this];exact Nat.beq_refl _
 ·rw[decide_eq_false (show ¬((j:Int)<(p:Int)) by omega),cond_false];exact⟨_,_,fun K hK=>hK j,oI (oI (fit o j q3) 4) 5⟩
def xSl(f:Fr)(st:St):Bool:=match f.T.get 14 with
 |some (.ptr b _)=>match st[b]? with
  |some (.row [_,_,.slice ..,_,_,_] _ _)=>true
  |_=>false
 |_=>false
noncomputable def lkCI:Nat→Trans→Trans:=j4 8376954 xSl (bp 0 (szOf Tryd.prog 3) [3,6,7,12,13,14,16,18,19] ciDec mY ciV ciJ ciOut) (ac 9)
theorem lkCI_ok:cp Tryd.prog none 0 lkCI (2*4090) (bH Tryd.prog 3 4090):=by
 unfold lkCI;refine cd _ _ (aQ 9 _ _) fun c' hc f st Q h=>?_;rw[show aT 8376954 (2*4090) (bH Tryd.prog 3 4090)=[bH Tryd.prog 3 8376954] by kernel_rfl]at hc;rw[List.mem_singleton.1 hc];exact aW (P:=Tryd.prog) (T:=CT0) (k:=0) (lim:=9) (n:=10) (g:=3) (p0:=8376954) (lk:=ac 9) ax CT0_ok (aQ 9 _ _) ciMu ci_roundOk h
/-- A contract that only looks and tells a truth, as two functions of all that it is handed. -/
def gvOK(G:List V→St→Option (List (Bool×(V×St))))(args:List V)(st:St):Bool:=match G args st with
 |some [(c,(.bool _,_))]=>c
 |_=>false
def gvB(G:List V→St→Option (List (Bool×(V×St))))(args:List V)(st:St):Bool:=match G args st with
 |some [(_,(.bool b,_))]=>b
 |_=>false
def gvT(OK BV:List V→St→Bool):List V→St→Option (List (Bool×(V×St))):=fun args st=>some [(OK args st,(.bool (BV args st),st))]
theorem gv_ok{P:Program}{g:FuncId}{G:List V→St→Option (List (Bool×(V×St)))}(hs:∀args st l,G args st=some l→∀c v s',l=[(c,(v,s'))]→s'=st)
  (H:∀args s l o,G args s=some l→aC l=some o→FnSat P g args s (Is o))(args:List V)(s:St)(l:List (Bool×(V×St)))(o:V×St)(h:gvT (gvOK G) (gvB G) args s=some l)(ho:aC l=some o):FnSat P g args s (Is o):=by
 unfold gvT at h;cases h;obtain⟨hb,rfl⟩:=aX ho;unfold gvOK at hb;split at hb
 ·rename_i c b s' hG;have e:=hs args s _ hG c (.bool b) s' rfl;subst e;have:gvB G args s'=b:=by unfold gvB;rw[hG]
  rw[this];exact H args s' _ _ hG (by rw[hb];rfl)
 ·cases hb
theorem l6(args:List V)(st:St)(l:List (Bool×(V×St)))(h:cf args st=some l)(c:Bool)(v:V)(s':St)(hl:l=[(c,(v,s'))]):s'=st:=by
 unfold cf at h;split at h
 ·split at h<;>cases h<;>cases hl<;>rfl
 ·cases h
theorem mayG_st(args:List V)(st:St)(l:List (Bool×(V×St)))(h:mayG args st=some l)(c:Bool)(v:V)(s':St)(hl:l=[(c,(v,s'))]):s'=st:=by
 unfold mayG at h;split at h
 ·split at h<;>cases h<;>cases hl<;>rfl
 ·cases h
theorem rcmayG_st(args:List V)(st:St)(l:List (Bool×(V×St)))(h:ei args st=some l)(c:Bool)(v:V)(s':St)(hl:l=[(c,(v,s'))]):s'=st:=by
 unfold ei at h;split at h
 ·split at h<;>cases h<;>cases hl<;>rfl
 ·cases h
section
variable {P:Program} {T:Tab} {k lim n:Nat} {f:Fr} {st:St} {Q:Exit→Fr→St→Prop}
theorem loopAT_ok{α:Type}(hm:P.follows .mixedOrders=true){lk:Nat→Trans→Trans}{g:FuncId}{p0:Nat}(hlk:cp P none k lk (2*p0) (bH P g p0)){ts:List Nat}{dec:List (Option V)→St→Option α}{pre:α→Bool}
  {vs:α→List V}{J:α→St}(μ:α→Nat){outs:Asks α}
  (round:∀x,pre x=true→∃T,TabOk3 P T∧ah P T lim n lk g p0 ts (vs x) (J x) (av k pre vs J μ outs x))(h:bp k (szOf P g) ts dec pre vs J outs f st Q):CodeSatW P none k (.loop (bH P g p0)) f st Q:=by
 unfold bp at h;rcases aw h with⟨h1,h⟩|⟨_,h⟩
 ·obtain⟨x,h2,hfit,h3⟩:=bV h;obtain⟨hp,h4⟩:=az h3;refine oy vs J μ outs (fun x hx=>?_) x hp h1 hfit h4;obtain⟨T,hT,hr⟩:=round x hx;refine(cy hm (jm hm hT lim n) (ll hm hT n) _ _ hlk _ _ _ hr).mono ?_;intro e f s hq;rcases aw hq with⟨ho,hq⟩|⟨_,hq⟩
  ·exact⟨ho,hq⟩
  ·exact hq.elim
 ·exact h.elim
end
def dEe:List V→Option (List (Bool×(V×St)))
 |[.str s]=>some [(decE s !=0,(.tuple [fQ,.int .i64 (decE s)],[]))]
 |_=>none
def rEe:List V→Option (List (Bool×(V×St)))
 |[.str s]=>some [(aN s&&decE s !=0,(.tuple [fQ,.int .i64 (decE s)],[]))]
 |_=>none
def dEn:List V→Option (List (Bool×(V×St)))
 |[.str s]=>some [(!(decE s !=0)&&Nat.beq (dN s) 0,(.tuple [.agg [.str (dK s),.str (dG s),.nilSlice,.int .i64 (dF s),.int .i64 (dU s),.bool (dCa s)],.int .i64 0],[]))]
 |_=>none
def rEn:List V→Option (List (Bool×(V×St)))
 |[.str s]=>some [(aN s&&!(decE s !=0),(.tuple [.agg [.str (dK s),.str (dG s),.nos 0 (dN s),.int .i64 (dF s),.int .i64 (dU s),.bool (dCa s)],.int .i64 0],[.ro true (strs (dL s))]))]
 |_=>none
def dEs:List V→Option (List (Bool×(V×St)))
 |[.str s]=>some [(!(decE s !=0)&&!Nat.beq (dN s) 0,(.tuple [.agg [.str (dK s),.str (dG s),.slice 0 0 (dN s) false 0 0,.int .i64 (dF s),.int .i64 (dU s),.bool (dCa s)],.int .i64 0],[.row (strs (dL s)) 9 1]))]
 |_=>none
theorem dEe_ok(args:List V)(l:List (Bool×(V×St)))(o:V×St)(h:dEe args=some l)(ho:aC l=some o):FnSat Tryd.prog 20 args [] (Is o):=by
 unfold dEe at h;split at h
 ·rename_i s;cases h;obtain⟨hb,rfl⟩:=aX ho;exact qc [.str s] _ _ rfl (by simp only[aC,hb,cond_true])
 ·cases h
theorem dEn_ok(args:List V)(l:List (Bool×(V×St)))(o:V×St)(h:dEn args=some l)(ho:aC l=some o):FnSat Tryd.prog 20 args [] (Is o):=by
 unfold dEn at h;split at h
 ·rename_i s;cases h;obtain⟨hb,rfl⟩:=aX ho;rw[Bool.and_eq_true,Bool.not_eq_true']at hb;exact qc [.str s] _ _ rfl (by simp only[aC,hb.1,hb.2,cond_true,cond_false])
 ·cases h
theorem dEs_ok(args:List V)(l:List (Bool×(V×St)))(o:V×St)(h:dEs args=some l)(ho:aC l=some o):FnSat Tryd.prog 20 args [] (Is o):=by
 unfold dEs at h;split at h
 ·rename_i s;cases h;obtain⟨hb,rfl⟩:=aX ho;rw[Bool.and_eq_true,Bool.not_eq_true',Bool.not_eq_true']at hb;exact qc [.str s] _ _ rfl (by simp only[aC,hb.1,hb.2,cond_true,cond_false])
 ·cases h
theorem kD(s:List UInt8):(512<s.length→decE s=40)∧(¬512<s.length→(decE s !=0)=true→decE s=4):=by
 unfold decE;refine⟨fun h=>?_,fun h h2=>?_⟩
 ·rw[decide_eq_true (show(s.length:Int)>512 by omega),cond_true]
 ·rw[decide_eq_false (show ¬(s.length:Int)>512 by omega),cond_false]at h2 ⊢;cases hc:decC s with
  |none=>rfl
  |some c=>rw[hc]at h2;exact absurd h2 (by simp)
theorem rEe_ok(args:List V)(l:List (Bool×(V×St)))(o:V×St)(h:rEe args=some l)(ho:aC l=some o):FnSat Tryd.prog 21 args [] (Is o):=by
 unfold rEe at h;split at h
 ·rename_i s;cases h;obtain⟨hb,rfl⟩:=aX ho;rw[Bool.and_eq_true]at hb;refine rdec_ok [.str s] _ _ rfl ?_;by_cases h5:512<s.length
  ·have hv:=(kD s).1 h5;have:Nat.blt 512 s.length=true:=Nat.ble_eq_true_of_le h5;simp only[aC,hb.1,this,hv,Bool.and_self,cond_true]
  ·have hv:=(kD s).2 h5 hb.2;have h6:Nat.blt 512 s.length=false:=by
    cases hh:Nat.blt 512 s.length with
    |false=>rfl
    |true=>exact absurd (Nat.le_of_ble_eq_true hh) h5
   have h7:=hb.2;simp only[aC,hb.1,h6,h7,Bool.and_self,Bool.and_false,cond_true,cond_false];rw[hv]
 ·cases h
theorem rEn_ok(args:List V)(l:List (Bool×(V×St)))(o:V×St)(h:rEn args=some l)(ho:aC l=some o):FnSat Tryd.prog 21 args [] (Is o):=by
 unfold rEn at h;split at h
 ·rename_i s;cases h;obtain⟨hb,rfl⟩:=aX ho;rw[Bool.and_eq_true,Bool.not_eq_true']at hb;have h6:Nat.blt 512 s.length=false:=by
   cases hh:Nat.blt 512 s.length with
   |false=>rfl
   |true=>
    have:=hb.2;rw[(kD s).1 (Nat.le_of_ble_eq_true hh)]at this;exact absurd this (by decide)
  refine rdec_ok [.str s] _ _ rfl ?_;simp only[aC,hb.1,h6,hb.2,Bool.and_false,cond_true,cond_false];rfl
 ·cases h
theorem frz_val{Ψ:Frz}{P:Program}{g:FuncId}{args:List V}{st:St}{v:V}
  (h:∀(B:Nat) (W0 w:World) (m:List MB) (rargs:List Value),@Rel gl Ψ B W0 m st w→@ae gl Ψ m args=some rargs→∃args' v' x,@ae gl (Frz.of w) [] args'=some rargs∧@real gl (Frz.of w) [] v'=some x∧@real gl Ψ m v=some x∧@FnSat gl (Frz.of w) P g args' [] (Is (v',[]))):@FnSat gl Ψ P g args st (Is (v,st)):=by
 intro B W0 m w rargs ha hr;obtain⟨args',v',x,h1,h3,h4,h2⟩:=h B W0 w m rargs hr ha;refine(h2 w.heap.size w [] w rargs h1 (@Rel.empty gl (Frz.of w) w hr.gok.all)).mono ?_;rintro e w' ⟨u,x',m',s',rfl,_,hx,hrel,hq⟩;cases hq;have hm:m'=[]:=List.eq_nil_of_length_eq_zero (@Rel.len gl (Frz.of w) _ _ _ _ _ hrel);subst hm;rw[h3]at hx;cases hx;exact⟨v,x,m,st,rfl,Ext.refl m,h4,@Rel.later gl Ψ _ _ _ _ _ _ hr (@Rel.below gl (Frz.of w) _ _ _ _ _ hrel),rfl⟩
theorem td_tree(k g:List UInt8)(x:Value)(n:Nat)(cs:List V)(f u:Int)(ca:Bool)(R:V→Prop):runW Tryd.prog CT0 9 10 11 [.agg [.str k,.str g,.lst x n cs,.int .i64 f,.int .i64 u,.bool ca]] R=
  (
 R (.agg [.str k,.str g,.lst x n cs,.int i64 f,.int i64 u,.bool ca])):=by kernel_rfl
theorem td_sat(k g:List UInt8)(x:Value)(l:List (List UInt8))(f u:Int)(ca:Bool):FnSat Tryd.prog 11 [.agg [.str k,.str g,lstS x l,.int .i64 f,.int .i64 u,.bool ca]] [] (Is (.agg [.str k,.str g,lstS x l,.int .i64 f,.int .i64 u,.bool ca],[])):=by
 refine au (lim:=9) (n:=10) ax CT0_ok rfl rfl ?_;unfold lstS;rw[td_tree]
def tdOK(p:V)(st:St):Bool:=match bq st p with
 |some (b,_)=>b
 |none=>false
def tdG(OK:V→St→Bool):List V→St→Option (List (Bool×(V×St)))
 |[.agg [.str k,.str g,p,.int .i64 f,.int .i64 u,.bool ca]],st=>some [(OK p st,(.agg [.str k,.str g,p,.int .i64 f,.int .i64 u,.bool ca],st))]
 |_,_=>none
theorem tdG_ok(args:List V)(s:St)(l:List (Bool×(V×St)))(o:V×St)(h:tdG tdOK args s=some l)(ho:aC l=some o):FnSat Tryd.prog 11 args s (Is o):=by
 unfold tdG at h;split at h
 ·rename_i k g p f u ca;cases h;obtain⟨hb,rfl⟩:=aX ho;unfold tdOK at hb;split at hb
  ·rename_i b ls hv;subst hb;refine frz_val fun B W0 w m rargs hr ha=>?_;obtain⟨a,r,q1,q2,rfl⟩:=ao ha;simp only[ae,Option.some.injEq]at q2;subst q2;obtain⟨y,hy⟩:=eg hr hv q1;exact⟨[.agg [.str k,.str g,lstS y ls,.int .i64 f,.int .i64 u,.bool ca]],.agg [.str k,.str g,lstS y ls,.int .i64 f,.int .i64 u,.bool ca],a,by simp only[ae,hy],hy,q1,@td_sat (Frz.of w) k g y ls f u ca⟩
  ·cases hb
 ·cases h
noncomputable def CTe(d r:List V→Option (List (Bool×(V×St))))(SO SB:List V→St→Bool)(OK:V→St→Bool)(NV:V→St→Nat)(CV:V→St→List V)(TK:V→St→Bool):Tab:=⟨addT (addT noT 20 d) 21 r,addS (addS (addS noL 11 (tdG TK)) 19 (gvT SO SB)) 65 (qd OK NV CV),aV 9⟩
theorem qw{d r:List V→Option (List (Bool×(V×St)))}(hd:∀args l o,d args=some l→aC l=some o→FnSat Tryd.prog 20 args [] (Is o))(hr:∀args l o,r args=some l→aC l=some o→FnSat Tryd.prog 21 args [] (Is o)):TabOk3 Tryd.prog (CTe d r (gvOK cf) (gvB cf) csOK csN csC tdOK):=
 ⟨bm (bm aF hd) hr,cH (cH (cH aG tdG_ok) (gv_ok l6 nK)) cloneS_ok,ap 9⟩
def wS(ws:List V)(i:Nat):List UInt8:=ak (ws.getD (0+i*1) (.bool false))
noncomputable def zH_0:=[V.str [],V.str [],V.nilSlice,V.int i64 0,V.int i64 0,V.bool false]
noncomputable def zH_1(w:Nat)(i:Int):=[some (V.ptr 0 0),some (V.bool false),some (V.ptr 1 0),some (V.slice 3 0 w false 0 0),some (V.int i64 i)]
noncomputable def zH_2(k g:List UInt8)(f u:Int)(ca:Bool)(m:Nat):=[V.str k,V.str g,V.slice 2 0 m false 0 0,V.int i64 f,V.int i64 u,V.bool ca]
theorem co_e(SO SB:List V→St→Bool)(OK:V→St→Bool)(NV:V→St→Nat)(CV:V→St→List V)(TK:V→St→Bool)(k g:List UInt8)(x:Value)(n:Nat)(cs:List V)(f u:Int)(ca:Bool)(m:Nat)(oc ws:List V)(w:Nat)(i:Int)(R:Exit→List (Option V)→St→Prop):ah Tryd.prog (CTe dEe rEe SO SB OK NV CV TK) 9 10 lkCI 3 4090 [3,6,7,12,13] [.ptr 0 0,.bool false,.ptr 1 0,.slice 3 0 w false 0 0,.int .i64 i] [.row [.str k,.str g,.lst x n cs,.int .i64 f,.int .i64 u,.bool ca] 24 6,.row [.str k,.str g,.slice 2 0 m false 0 0,.int .i64 f,.int .i64 u,.bool ca] 24 6,.row oc 9 1,.row ws 9 1] R=
 (
 bif decide (i<(↑w:Int))then bif decide (0≤i)&&decide (i<(↑w:Int))then bif (0+i.toNat*1).blt ws.length then bif aK (ws.getD (0+i.toNat*
 1) (.bool false))then bif decE (wS ws i.toNat)!=0 then bif decide (0≤i)&&decide (i<(↑w:Int))then bif (0+i.toNat*1).blt ws.length then bif aK
 (ws.getD (0+i.toNat*1) (.bool false))then bif aN (wS ws i.toNat)&&decE (wS ws i.toNat)!=0 then bif decE (wS ws i.toNat)!=decE (wS ws i.toNat)then
 R .ret (zH_1 w i) [.row [.str k,.str g,.lst x n cs,.int i64 f,.int i64 u,.bool ca] 24 6,.row (zH_2 k g f u ca m) 24 6,
 .row oc 9 1,.row ws 9 1,.row zH_0 24 6,.row zH_0 31 6]else bif TK .nilSlice []then bif SO [.agg zH_0,.agg zH_0] []then bif !SB [.agg zH_0,
 .agg zH_0] []then R .ret (zH_1 w i) [.row [.str k,.str g,.lst x n cs,.int i64 f,.int i64 u,.bool ca] 24 6,.row (zH_2 k g
 f u ca m) 24 6,.row oc 9 1,.row ws 9 1,.row zH_0 24 6,.row zH_0 31 6]else bif TK .nilSlice []then bif SO [.agg zH_0,.agg zH_0] []then bif
 !SB [.agg zH_0,.agg zH_0] []then R .ret (zH_1 w i) [.row [.str k,.str g,.lst x n cs,.int i64 f,.int i64 u,.bool ca] 24 6,
 .row (zH_2 k g f u ca m) 24 6,.row oc 9 1,.row ws 9 1,.row zH_0 24 6,.row zH_0 31 6,.row zH_0 24 6]else R .normal [some (.ptr 0 0),
 some (.bool false),some (.ptr 1 0),some (.slice 3 0 w false 0 0),some (.int i64 (i64.wrap (i+1)))] [.row [.str k,.str g,.lst x n
 cs,.int i64 f,.int i64 u,.bool ca] 24 6,.row (zH_2 k g f u ca m) 24 6,.row oc 9 1,.row ws 9 1,.row zH_0 24 6,.row zH_0
 31 6,.row zH_0 24 6]else False else False else False else False else False else False else False else False else False else False else False else False else
 R (.exit 0) (zH_1 w i) [.row [.str k,.str g,.lst x n cs,.int i64 f,.int i64 u,.bool ca] 24 6,.row (zH_2 k g f u ca m) 24 6,
 .row oc 9 1,.row ws 9 1]):=by kernel_rfl
noncomputable def zH_3(ws:List V)(i:Int):=[V.str (dK (wS ws i.toNat)),V.str (dG (wS ws i.toNat)),V.nos 5 (dN (wS ws i.toNat)),V.int i64 (dF (wS ws i.toNat)),V.int i64 (dU (wS ws i.toNat)),V.bool (dCa (wS ws i.toNat))]
noncomputable def zH_4(ws:List V)(i:Int):=[V.str (dK (wS ws i.toNat)),V.str (dG (wS ws i.toNat)),V.nilSlice,V.int i64 (dF (wS ws i.toNat)),V.int i64 (dU (wS ws i.toNat)),V.bool (dCa (wS ws i.toNat))]
noncomputable def zH_5(ws:List V)(i:Int):=[V.str ((dK (wS ws i.toNat))),V.str ((dG (wS ws i.toNat))),V.nos 5 (dN (wS ws i.toNat)),V.int i64 (dF (wS ws i.toNat)),V.int i64 (dU (wS ws i.toNat)),V.bool (dCa (wS ws i.toNat))]
noncomputable def zH_6(ws:List V)(i:Int):=[V.str (((dK (wS ws i.toNat)))),V.str (((dG (wS ws i.toNat)))),V.nilSlice,V.int i64 (dF (wS ws i.toNat)),V.int i64 (dU (wS ws i.toNat)),V.bool (dCa (wS ws i.toNat))]
noncomputable def zH_7(k g:List UInt8)(f u:Int)(ca:Bool)(m:Nat):=[V.str k,V.str g,V.slice 2 0 m false 0 0,V.int i64 f,V.int i64 u,V.bool ca]
noncomputable def zH_8(k g:List UInt8)(x:Value)(n:Nat)(cs:List V)(f u:Int)(ca:Bool):=[V.str k,V.str g,V.lst x n cs,V.int i64 f,V.int i64 u,V.bool ca]
noncomputable def zH_9(w:Nat)(i:Int):=[some (V.ptr 0 0),some (V.bool false),some (V.ptr 1 0),some (V.slice 3 0 w false 0 0),some (V.int i64 i)]
noncomputable def zH_10(ws:List V)(i:Int):=[V.agg [V.str ((((dK (wS ws i.toNat))))),V.str ((((dG (wS ws i.toNat))))),V.nilSlice,V.int i64 (dF (wS ws i.toNat)),V.int i64 (dU (wS ws i.toNat)),V.bool (dCa (wS ws i.toNat))],V.agg (zH_5 ws i)]
noncomputable def zH_11(ws:List V)(i:Int):=[V.agg [V.str ((dK (wS ws i.toNat))),V.str ((dG (wS ws i.toNat))),V.nilSlice,V.int i64 (dF (wS ws i.toNat)),V.int i64 (dU (wS ws i.toNat)),V.bool (dCa (wS ws i.toNat))],V.agg (zH_5 ws i)]
theorem co_n(SO SB:List V→St→Bool)(OK:V→St→Bool)(NV:V→St→Nat)(CV:V→St→List V)(TK:V→St→Bool)(k g:List UInt8)(x:Value)(n:Nat)(cs:List V)(f u:Int)(ca:Bool)(m:Nat)(oc ws:List V)(w:Nat)(i:Int)(R:Exit→List (Option V)→St→Prop):ah Tryd.prog (CTe dEn rEn SO SB OK NV CV TK) 9 10 lkCI 3 4090 [3,6,7,12,13] [.ptr 0 0,.bool false,.ptr 1 0,.slice 3 0 w false 0 0,.int .i64 i] [.row [.str k,.str g,.lst x n cs,.int .i64 f,.int .i64 u,.bool ca] 24 6,.row [.str k,.str g,.slice 2 0 m false 0 0,.int .i64 f,.int .i64 u,.bool ca] 24 6,.row oc 9 1,.row ws 9 1] R=
 (
 bif decide (i<(↑w:Int))then bif decide (0≤i)&&decide (i<(↑w:Int))then bif (0+i.toNat*1).blt ws.length then bif aK (ws.getD (0+i.toNat*
 1) (.bool false))then bif !decE (wS ws i.toNat)!=0&&(dN (wS ws i.toNat)).beq 0 then bif decide (0≤i)&&decide (i<(↑w:Int))then bif (0+i.toNat*
 1).blt ws.length then bif aK (ws.getD (0+i.toNat*1) (.bool false))then bif aN (wS ws i.toNat)&&!decE (wS ws i.toNat)!=0 then bif TK .nilSlice
 []then bif SO (zH_11 ws i) [.ro false (zH_8 k g x n cs f u ca),.ro false (zH_7 k g f u ca m),.ro false oc,.ro false ws,.ro false (zH_4 ws i),
 .ro false (ay 5 (strs (dL (wS ws i.toNat)))),.ro false (zH_3 ws i)]then bif !SB (zH_11 ws i) [.ro false (zH_8 k g x n cs f u ca),.ro false
 (zH_7 k g f u ca m),.ro false oc,.ro false ws,.ro false (zH_4 ws i),.ro false (ay 5 (strs (dL (wS ws i.toNat)))),.ro false (zH_3 ws i)]
 then R .ret (zH_9 w i) [.row (zH_8 k g x n cs f u ca) 24 6,.row (zH_7 k g f u ca m) 24 6,.row oc 9 1,.row ws 9 1,.row (zH_4 ws i) 24 6,
 .ro true (ay 5 (strs (dL (wS ws i.toNat)))),.row (zH_3 ws i) 31 6]else bif TK .nilSlice []then bif SO (zH_10 ws i) [.ro false (zH_8 k g x n cs f
 u ca),.ro false (zH_7 k g f u ca m),.ro false oc,.ro false ws,.ro false (zH_4 ws i),.ro false (ay 5 (strs (dL (wS ws i.toNat)))),.ro
 false (zH_3 ws i),.ro false (zH_6 ws i)]then bif !SB (zH_10 ws i) [.ro false (zH_8 k g x n cs f u ca),.ro false (zH_7 k g f u ca m),.ro false oc,
 .ro false ws,.ro false (zH_4 ws i),.ro false (ay 5 (strs (dL (wS ws i.toNat)))),.ro false (zH_3 ws i),.ro false (zH_6 ws i)]then R
 .ret (zH_9 w i) [.row (zH_8 k g x n cs f u ca) 24 6,.row (zH_7 k g f u ca m) 24 6,.row oc 9 1,.row ws 9 1,.row (zH_4 ws i) 24 6,.ro
 true (ay 5 (strs (dL (wS ws i.toNat)))),.row (zH_3 ws i) 31 6,.row (zH_6 ws i) 24 6]else R .normal [some (.ptr 0 0),some (.bool false),some
 (.ptr 1 0),some (.slice 3 0 w false 0 0),some (.int i64 (i64.wrap (i+1)))] [.row (zH_8 k g x n cs f u ca) 24 6,.row (zH_7 k g f u
 ca m) 24 6,.row oc 9 1,.row ws 9 1,.row (zH_4 ws i) 24 6,.ro true (ay 5 (strs (dL (wS ws i.toNat)))),.row (zH_3 ws i) 31 6,.row (zH_6
 ws i) 24 6]else False else False else False else False else False else False else False else False else False else False else False else False else R (.exit
 0) (zH_9 w i) [.row (zH_8 k g x n cs f u ca) 24 6,.row (zH_7 k g f u ca m) 24 6,.row oc 9 1,.row ws 9 1]):=by kernel_rfl
noncomputable def zH_16(ws:List V)(i:Int):=[V.str (dK (wS ws i.toNat)),V.str (dG (wS ws i.toNat)),V.slice 4 0 (dN (wS ws i.toNat)) false 0 0,V.int i64 (dF (wS ws i.toNat)),V.int i64 (dU (wS ws i.toNat)),V.bool (dCa (wS ws i.toNat))]
noncomputable def zH_17(ws:List V)(i:Int):=[V.str (dK (wS ws i.toNat)),V.str (dG (wS ws i.toNat)),V.nos 6 (dN (wS ws i.toNat)),V.int i64 (dF (wS ws i.toNat)),V.int i64 (dU (wS ws i.toNat)),V.bool (dCa (wS ws i.toNat))]
noncomputable def jt(k g:List UInt8)(f u:Int)(ca:Bool)(m:Nat):=[V.str k,V.str g,V.slice 2 0 m false 0 0,V.int i64 f,V.int i64 u,V.bool ca]
noncomputable def js(k g:List UInt8)(x:Value)(n:Nat)(cs:List V)(f u:Int)(ca:Bool):=[V.str k,V.str g,V.lst x n cs,V.int i64 f,V.int i64 u,V.bool ca]
noncomputable def zH_25(ws:List V)(i:Int):=[V.str ((dK (wS ws i.toNat))),V.str ((dG (wS ws i.toNat))),V.slice 4 0 (dN (wS ws i.toNat)) false 0 0,V.int i64 (dF (wS ws i.toNat)),V.int i64 (dU (wS ws i.toNat)),V.bool (dCa (wS ws i.toNat))]
noncomputable def fe(ws:List V)(i:Int):=strs (dL (wS ws i.toNat))
noncomputable def iD(k g:List UInt8)(x:Value)(n m:Nat)(cs oc ws:List V)(f u i:Int)(ca:Bool):=[Blk.row (js k g x n cs f u ca) 24 6,Blk.row (jt k g f u ca m) 24 6,Blk.row oc 9 1,Blk.row ws 9 1,Blk.row (ay 4 (fe ws i)) 9 1,Blk.row (zH_16 ws i) 24 6,Blk.ro true (ay 6 (fe ws i)),Blk.row (zH_17 ws i) 31 6,Blk.row (zH_25 ws i) 24 6,Blk.row [V.str [],V.str [],V.nilSlice,V.int i64 0,V.int i64 0,V.bool false] 24 6]
noncomputable def zH_21(ws:List V)(i:Int):=[V.str (dK (wS ws i.toNat)),V.str (dG (wS ws i.toNat)),V.slice 9 0 (dN (wS ws i.toNat)) false 0 0,V.int i64 (dF (wS ws i.toNat)),V.int i64 (dU (wS ws i.toNat)),V.bool (dCa (wS ws i.toNat))]
noncomputable def zH_22(ws:List V)(i:Int):=[V.str (dK (wS ws i.toNat)),V.str (dG (wS ws i.toNat)),V.nos 7 (dN (wS ws i.toNat)),V.int i64 (dF (wS ws i.toNat)),V.int i64 (dU (wS ws i.toNat)),V.bool (dCa (wS ws i.toNat))]
noncomputable def gF(ws:List V)(i:Int):=V.slice 4 0 (dN (wS ws i.toNat)) false 0 0
noncomputable def zH_13(CV:V→St→List V)(k g:List UInt8)(x:Value)(n m:Nat)(cs oc ws:List V)(f u i:Int)(ca:Bool):=[Blk.ro false (js k g x n cs f u ca),Blk.ro false (jt k g f u ca m),Blk.ro false oc,Blk.ro false ws,Blk.dead,Blk.dead,Blk.ro false (zH_22 ws i),Blk.ro false (ay 6 (fe ws i)),Blk.ro false (zH_21 ws i),Blk.ro false (CV (gF ws i) (iD k g x n m cs oc ws f u i ca))]
noncomputable def zH_14(k g:List UInt8)(x:Value)(n m:Nat)(cs oc ws:List V)(f u i:Int)(ca:Bool):=[Blk.ro false (js k g x n cs f u ca),Blk.ro false (jt k g f u ca m),Blk.ro false oc,Blk.ro false ws,Blk.ro false (ay 4 (fe ws i)),Blk.ro false (zH_16 ws i),Blk.ro false (ay 6 (fe ws i)),Blk.ro false (zH_17 ws i)]
noncomputable def zH_15(CV:V→St→List V)(k g:List UInt8)(x:Value)(n m:Nat)(cs oc ws:List V)(f u i:Int)(ca:Bool):=[Blk.row (js k g x n cs f u ca) 24 6,Blk.row (jt k g f u ca m) 24 6,Blk.row oc 9 1,Blk.row ws 9 1,Blk.dead,Blk.dead,Blk.row (zH_22 ws i) 31 6,Blk.ro true (ay 6 (fe ws i)),Blk.row (zH_21 ws i) 24 6,Blk.row (CV (gF ws i) (iD k g x n m cs oc ws f u i ca)) 9 1]
noncomputable def zH_19(ws:List V)(i:Int):=[V.agg (zH_25 ws i),V.agg [V.str ((dK (wS ws i.toNat))),V.str ((dG (wS ws i.toNat))),V.nos 6 (dN (wS ws i.toNat)),V.int i64 (dF (wS ws i.toNat)),V.int i64 (dU (wS ws i.toNat)),V.bool (dCa (wS ws i.toNat))]]
noncomputable def zH_20(ws:List V)(i:Int):=[V.agg [V.str ((dK (wS ws i.toNat))),V.str ((dG (wS ws i.toNat))),V.slice 9 0 (dN (wS ws i.toNat)) false 0 0,V.int i64 (dF (wS ws i.toNat)),V.int i64 (dU (wS ws i.toNat)),V.bool (dCa (wS ws i.toNat))],V.agg [V.str ((dK (wS ws i.toNat))),V.str ((dG (wS ws i.toNat))),V.nos 7 (dN (wS ws i.toNat)),V.int i64 (dF (wS ws i.toNat)),V.int i64 (dU (wS ws i.toNat)),V.bool (dCa (wS ws i.toNat))]]
theorem co_s(SO SB:List V→St→Bool)(OK:V→St→Bool)(NV:V→St→Nat)(CV:V→St→List V)(TK:V→St→Bool)(k g:List UInt8)(x:Value)(n:Nat)(cs:List V)(f u:Int)(ca:Bool)(m:Nat)(oc ws:List V)(w:Nat)(i:Int)(R:Exit→List (Option V)→St→Prop):ah Tryd.prog (CTe dEs rEn SO SB OK NV CV TK) 9 10 lkCI 3 4090 [3,6,7,12,13] [.ptr 0 0,.bool false,.ptr 1 0,.slice 3 0 w false 0 0,.int .i64 i] [.row [.str k,.str g,.lst x n cs,.int .i64 f,.int .i64 u,.bool ca] 24 6,.row [.str k,.str g,.slice 2 0 m false 0 0,.int .i64 f,.int .i64 u,.bool ca] 24 6,.row oc 9 1,.row ws 9 1] R=
 (
 bif decide (i<(↑w:Int))then bif decide (0≤i)&&decide (i<(↑w:Int))then bif (0+i.toNat*1).blt ws.length then bif aK (ws.getD (0+i.toNat*
 1) (.bool false))then bif !decE (wS ws i.toNat)!=0&&!(dN (wS ws i.toNat)).beq 0 then bif decide (0≤i)&&decide (i<(↑w:Int))then bif (0+i.toNat*
 1).blt ws.length then bif aK (ws.getD (0+i.toNat*1) (.bool false))then bif aN (wS ws i.toNat)&&!decE (wS ws i.toNat)!=0 then bif TK (gF ws i)
 (zH_14 k g x n m cs oc ws f u i ca)then bif SO (zH_19 ws i) (zH_14 k g x n m cs oc ws f u i ca)then bif !SB (zH_19 ws i) (zH_14 k g x n m cs oc ws f u i ca)
 then R .ret [some (.ptr 0 0),some (.bool false),some (.ptr 1 0),some (.slice 3 0 w false 0 0),some (.int i64 i)] [.row (js k g x n cs
 f u ca) 24 6,.row (jt k g f u ca m) 24 6,.row oc 9 1,.row ws 9 1,.row (ay 4 (fe ws i)) 9 1,.row (zH_16 ws i) 24 6,.ro true
 (ay 6 (fe ws i)),.row (zH_17 ws i) 31 6]else bif OK (gF ws i) (iD k g x n m cs oc ws f u i ca)then Fits 0 [.ptr 0 0,.bool false,.ptr 1 0,
 .slice 3 0 w false 0 0,.int i64 (↑i.toNat:Int),.ptr 4 0,.ptr 6 0,.ptr 8 0,.int i64 0] [.row (js k g x n cs f u ca) 24 6,
 .row (jt k g f u ca m) 24 6,.row oc 9 1,.row ws 9 1,.row [.str (dK (wS ws i.toNat)),.str (dG (wS ws i.toNat)),.slice 5 0 (dN (wS ws
 i.toNat)) false 0 0,.int i64 (dF (wS ws i.toNat)),.int i64 (dU (wS ws i.toNat)),.bool (dCa (wS ws i.toNat))] 24 6,.row (ay 4 (fe
 ws i)) 9 1,.row (zH_22 ws i) 31 6,.ro true (ay 6 (fe ws i)),.row (zH_21 ws i) 24 6,.row (CV (gF ws i) (iD k g x n m cs oc ws f u i
 ca)) 9 1] [some (.ptr 0 0),some (.bool false),some (.ptr 1 0),some (.slice 3 0 w false 0 0),some (.int i64 i),some (.ptr 5 0),some (.ptr 7
 0),some (.ptr 11 0),some (.int i64 0)] [.row (js k g x n cs f u ca) 24 6,.row (jt k g f u ca m) 24 6,.row oc 9 1,.row ws 9 1,
 .row (ay 4 (fe ws i)) 9 1,.row (zH_16 ws i) 24 6,.ro true (ay 6 (fe ws i)),.row (zH_17 ws i) 31 6,.row [.str ((dK (wS ws
 i.toNat))),.str ((dG (wS ws i.toNat))),.slice 10 0 (NV (gF ws i) (iD k g x n m cs oc ws f u i ca)) false 0 0,.int i64 (dF (wS ws i.toNat)),
 .int i64 (dU (wS ws i.toNat)),.bool (dCa (wS ws i.toNat))] 24 6,.row [.str (((dK (wS ws i.toNat)))),.str (((dG (wS ws i.toNat)))),.slice 10 0
 (NV (gF ws i) (iD k g x n m cs oc ws f u i ca)) false 0 0,.int i64 (dF (wS ws i.toNat)),.int i64 (dU (wS ws i.toNat)),.bool (dCa (wS
 ws i.toNat))] 24 6,.row (CV (gF ws i) (iD k g x n m cs oc ws f u i ca)) 9 1,.row [.str (((dK (wS ws i.toNat)))),.str (((dG (wS ws i.toNat)))),
 .slice 10 0 (NV (gF ws i) (iD k g x n m cs oc ws f u i ca)) false 0 0,.int i64 (dF (wS ws i.toNat)),.int i64 (dU (wS ws i.toNat)),
 .bool (dCa (wS ws i.toNat))] 24 6]∧bif mY
 {c:={k:=k,g:=g,x:=x,n:=n,cs:=cs,f:=f,u:=u,ca:=ca},m:=m,oc:=oc,ws:=ws,w:=w,i:=i.toNat,d:={k:=dK (wS ws i.toNat),g:=dG (wS ws i.toNat),f:=dF (wS ws i.toNat),u:=dU (wS ws i.toNat),ca:=dCa (wS ws i.toNat)},p:=dN (wS ws i.toNat),o:=ay 4 (fe ws i),yn:=ay 6 (fe ws i),zn:=CV (gF ws i) (iD k g x n m cs oc ws f u i ca),j:=0}
 then ∀(j:Int),bif TK (.slice 9 0 (dN (wS ws i.toNat)) false 0 0) (zH_13 CV k g x n m cs oc ws f u i ca)then bif SO (zH_20 ws i) (zH_13 CV k g x n m cs oc
 ws f u i ca)then bif !SB (zH_20 ws i) (zH_13 CV k g x n m cs oc ws f u i ca)then R .ret [some (.ptr 0 0),some (.bool false),some (.ptr 1 0),some
 (.slice 3 0 w false 0 0),some (.int i64 (↑i.toNat:Int))] (zH_15 CV k g x n m cs oc ws f u i ca)else R .normal [some (.ptr 0 0),some (.bool
 false),some (.ptr 1 0),some (.slice 3 0 w false 0 0),some (.int i64 (i64.wrap ((↑i.toNat:Int)+1)))] (zH_15 CV k g x n m cs oc ws f u i
 ca)else False else False else False else False else False else False else False else False else False else False else False else False else False else False
 else R (.exit 0) [some (.ptr 0 0),some (.bool false),some (.ptr 1 0),some (.slice 3 0 w false 0 0),some (.int i64 i)] [.row (js k g x
 n cs f u ca) 24 6,.row (jt k g f u ca m) 24 6,.row oc 9 1,.row ws 9 1]):=by kernel_rfl
theorem j5(st:St):bq st .nilSlice=some (true,[]):=rfl
theorem bw(st:St)(x:Value)(l:List (List UInt8)):bq st (.lst x l.length (strs l))=some (true,l):=by
 simp only[bq,fT,aL,Nat.mul_one,Nat.beq_refl,cj,ar,Bool.and_self]
theorem dJ{st:St}{b:Nat}{z:Bool}{l:List (List UInt8)}(h:st[b]?=some (.ro z (strs l)))(e:Bool)(c d:Nat):bq st (.slice b 0 l.length e c d)=some (true,l):=by
 have h2:Nat.ble (0+l.length*1) l.length=true:=Nat.ble_eq_true_of_le (by omega);have h1:((strs l).drop 0).take (l.length*1)=strs l:=by rw[List.drop_zero,List.take_of_length_le (by rw[aL];omega)]
 simp only[bq,fT,h,h1,h2,aL,Nat.beq_refl,cj,ar,Bool.and_self]
theorem gG{st:St}{b:Nat}{z:Bool}{l:List (List UInt8)}(h:st[b]?=some (.ro z (strs l))):bq st (.nos b l.length)=some (true,l):=by
 have h2:Nat.ble (l.length*1) l.length=true:=Nat.ble_eq_true_of_le (by omega);have h1:(strs l).take (l.length*1)=strs l:=by rw[List.take_of_length_le (by rw[aL];omega)]
 simp only[bq,fT,h,h1,h2,aL,Nat.beq_refl,cj,ar,Bool.and_self]
section
variable {k g:List UInt8} {f u:Int} {ca:Bool} {p q:V} {l:List (List UInt8)} {st:St}
theorem eS(h1:bq st p=some (true,l))(h2:bq st q=some (true,l))(h3:l.length≤9223372036854775807):gvOK cf [.agg [.str k,.str g,p,.int .i64 f,.int .i64 u,.bool ca],.agg [.str k,.str g,q,.int .i64 f,.int .i64 u,.bool ca]] st=true:=by
 simp only[gvOK,cf,h1,h2,Nat.ble_eq_true_of_le h3,Bool.and_self]
theorem gb(h1:bq st p=some (true,l))(h2:bq st q=some (true,l)):gvB cf [.agg [.str k,.str g,p,.int .i64 f,.int .i64 u,.bool ca],.agg [.str k,.str g,q,.int .i64 f,.int .i64 u,.bool ca]] st=true:=by
 simp only[gvB,cf,h1,h2,nI,beq_self_eq_true,Bool.and_self]
theorem eP(h1:bq st p=some (true,l)):tdOK p st=true:=by
 simp only[tdOK,h1]
end
structure CO where
 c:CT
 m:Nat
 oc:List V
 ws:List V
 w:Nat
 i:Nat
def coV(q:CO):List V:=[.ptr 0 0,.bool false,.ptr 1 0,.slice 3 0 q.w false 0 0,.int .i64 q.i]
def coJ(q:CO):St:=[cRow q.c,oRow q.c (.slice 2 0 q.m false 0 0),.row q.oc 9 1,.row q.ws 9 1]
def hU(q:CO):Bool:=am q.oc&&(am q.ws&&(Nat.beq q.ws.length q.w&&(Nat.ble q.w 10&&(q.ws.all aK&&((q.ws.map ak).all aN&&Nat.ble q.i q.w)))))
def coMu(q:CO):Nat:=q.w-q.i
def coDec:List (Option V)→St→Option CO
 |[some (.ptr a 0),some (.bool false),some (.ptr b 0),some (.slice l 0 w false 0 0),some (.int .i64 0)],st=>
  match st[a]?,st[b]?,st[l]? with
  |some (.row [.str k,.str g,.lst xx n cs,.int .i64 f,.int .i64 u,.bool ca] _ _),some (.row [_,_,.slice ob 0 m false 0 0,_,_,_] _ _),some (.row ws _ _)=>
   match st[ob]? with
   |some (.row oc _ _)=>some ⟨⟨k,g,xx,n,cs,f,u,ca⟩,m,oc,ws,w,0⟩
   |_=>none
  |_,_,_=>none
 |_,_=>none
def coOutG(c:CT)(m:Nat)(oc ws:List V)(w:Nat)(K:Exit→List V→St→Prop):Prop:=
 K (.exit 0) [.ptr 0 0,.bool false,.ptr 1 0,.slice 3 0 w false 0 0,.int .i64 w] [cRow c,oRow c (.slice 2 0 m false 0 0),.row oc 9 1,.row ws 9 1]
def coOut:Asks CO:=fun q K=>coOutG q.c q.m q.oc q.ws q.w K
theorem lF(c:CT)(m:Nat)(oc ws:List V)(w:Nat)(i:Int)(f1:am oc=true)(f2:am ws=true)(a0 a1 a2 a3:Nat)(hn:[a0,a1,a2,a3].Nodup){st:St}
  (h0:st[a0]?=some (cRow c))(h1:st[a1]?=some (oRow c (.slice a2 0 m false 0 0)))(h2:st[a2]?=some (.row oc 9 1))(h3:st[a3]?=some (.row ws 9 1)):
  Fits 0 [.ptr 0 0,.bool false,.ptr 1 0,.slice 3 0 w false 0 0,.int .i64 i] [cRow c,oRow c (.slice 2 0 m false 0 0),.row oc 9 1,.row ws 9 1] [some (.ptr a0 0),some (.bool false),some (.ptr a1 0),some (.slice a3 0 w false 0 0),some (.int .i64 i)] st:=
 ⟨[a0,a1,a2,a3],[.ptr a0 0,.bool false,.ptr a1 0,.slice a3 0 w false 0 0,.int .i64 i],rfl,rfl,FitsM.of ⟨.inr ⟨_,.inl rfl,h0⟩,.inr ⟨_,.inl rfl,h1⟩,.inr ⟨.row oc 9 1,.inl (by simp only[renB,aB _ f1]),h2⟩,.inr ⟨.row ws 9 1,.inl (by simp only[renB,aB _ f2]),h3⟩,trivial⟩,hn,fun i hi=>by omega⟩
end Go.Proofs.YtnenadbbhdcaoaaDoor
namespace Go.Proofs.YtnenadbbhdcaoaaDoor
open Go Go.Vm Go.RowKit
set_option linter.unusedVariables false
set_option maxRecDepth 100000
set_option linter.unusedSectionVars false
variable [Φ:Frz]
theorem jl{st:St}{b n:Nat}{t sz:Nat}{l:List (List UInt8)}{e:Bool}{c d:Nat}(hn:n=l.length)(h:st[b]?=some (.row (strs l) t sz)):bq st (.slice b 0 n e c d)=some (true,l):=by
 subst hn;have h2:Nat.ble (0+l.length*1) l.length=true:=Nat.ble_eq_true_of_le (by omega);have h1:((strs l).drop 0).take (l.length*1)=strs l:=by rw[List.drop_zero,List.take_of_length_le (by rw[aL];omega)]
 simp only[bq,fT,h,h1,h2,aL,Nat.beq_refl,cj,ar,Bool.and_self]
theorem csN_eq{st:St}{b n:Nat}{t sz:Nat}{l:List (List UInt8)}{e:Bool}{c d:Nat}(hn:n=l.length)(h:st[b]?=some (.row (strs l) t sz)):csN (.slice b 0 n e c d) st=l.length:=by
 unfold csN csL;rw[jl hn h]
theorem csC_eq{st:St}{b n:Nat}{t sz:Nat}{l:List (List UInt8)}{e:Bool}{c d:Nat}(hn:n=l.length)(h:st[b]?=some (.row (strs l) t sz)):csC (.slice b 0 n e c d) st=strs l:=by
 unfold csC csL;rw[jl hn h]
theorem csOK_eq{st:St}{b n:Nat}{t sz:Nat}{l:List (List UInt8)}{e:Bool}{c d:Nat}(hn:n=l.length)(h:st[b]?=some (.row (strs l) t sz))(hl:l.length≤1000000):csOK (.slice b 0 n e c d) st=true:=by
 unfold csOK;rw[jl hn h];show(true&&Nat.ble l.length 1000000)=true;rw[Nat.ble_eq_true_of_le hl];rfl
theorem dL_small'(s:List UInt8):(dL s).length≤64:=by
 have key:∀c,decC s=some c→c.l.length≤64:=by
  intro c hc;unfold decC at hc;cases h1:dA s 48 with
  |false=>rw[h1]at hc;cases hc
  |true=>
   cases h2:(allE (ag s)!=0)with
   |true=>rw[h1,h2]at hc;cases hc
   |false=>
    rw[h1,h2,cond_true,cond_false]at hc;unfold decT at hc;split at hc
    ·rename_i x0 x1 x2 x3 x4 x5 _;have hb:∀{α:Type} {b:Bool} {x y:Option α} {z:α},(bif b then x else y)=some z→(b=true∧x=some z)∨(b=false∧y=some z):=by
      intro α b x y z h;cases b
      ·exact .inr ⟨rfl,h⟩
      ·exact .inl ⟨rfl,h⟩
     rcases hb hc with⟨_,hc⟩|⟨_,hc⟩
     ·rcases hb hc with⟨_,hc⟩|⟨_,hc⟩
      ·rcases hb hc with⟨_,hc⟩|⟨_,hc⟩
       ·cases hc
       ·rcases hb hc with⟨_,hc⟩|⟨_,hc⟩
        ·rcases hb hc with⟨_,hc⟩|⟨_,hc⟩
         ·cases hc;rw[List.length_map];exact el x2.2
         ·cases hc
        ·cases hc
      ·cases hc
     ·cases hc
    ·cases hc
 unfold dL dCd decR;cases decide ((s.length:Int)>512)with
 |true=>simp
 |false=>
  rw[cond_false];cases hc:decC s with
  |none=>simp
  |some c=>exact key c hc
theorem n7{b:Bool}(h:b=true):¬(!b)=true:=by rw[h];decide
theorem co_roundOk(q:CO)(hq:hU q=true):∃T,TabOk3 Tryd.prog T∧ah Tryd.prog T 9 10 lkCI 3 4090 [3,6,7,12,13] (coV q) (coJ q) (av 0 hU coV coJ coMu coOut q):=by
 obtain⟨⟨k,g,x,n,cs,f,u,ca⟩,m,oc,ws,w,i⟩:=q;unfold hU at hq;simp only[Bool.and_eq_true]at hq;obtain⟨f1,f2,q3,q4,q5,q6,q7⟩:=hq;have p0:ws.length=w:=Nat.eq_of_beq_eq_true q3;have p1:i≤w:=Nat.le_of_ble_eq_true q7;have p2:w≤10:=Nat.le_of_ble_eq_true q4;by_cases hi:i<w
 ·have d1:decide ((i:Int)<(w:Int))=true:=decide_eq_true (by omega);have d2:decide ((0:Int)≤(i:Int))=true:=decide_eq_true (by omega);have l1:(0+i*1).blt ws.length=true:=Nat.ble_eq_true_of_le (by omega);have w2:IntKind.i64.wrap ((i:Int)+1)=((i+1:Nat):Int):=by rw[IntWalk.i64_in _ ⟨by omega,by omega⟩];omega
  have hlt:i<ws.length:=by omega
  have hget:ws.getD (0+i*1) (.bool false)=ws[i]:=by
   rw[Nat.zero_add,Nat.mul_one,List.getD_eq_getElem?_getD,List.getElem?_eq_getElem hlt];rfl
  have s1:aK (ws.getD (0+i*1) (.bool false))=true:=by
   rw[hget];exact List.all_eq_true.1 q5 _ (List.getElem_mem hlt)
  have k1:aN (wS ws i)=true:=by
   unfold wS;rw[hget];exact List.all_eq_true.1 q6 _ (List.mem_map.2 ⟨_,List.getElem_mem hlt,rfl⟩)
  have pre:hU ⟨⟨k,g,x,n,cs,f,u,ca⟩,m,oc,ws,w,i+1⟩=true:=by
   unfold hU;simp only[Bool.and_eq_true];exact⟨f1,f2,q3,q4,q5,q6,Nat.ble_eq_true_of_le (show i+1≤w by omega)⟩
  have hle:(dL (wS ws i)).length≤1000000:=by have:=dL_small' (wS ws i);omega
  have next:∀st,st[0]?=some (cRow ⟨k,g,x,n,cs,f,u,ca⟩)→st[1]?=some (oRow ⟨k,g,x,n,cs,f,u,ca⟩ (.slice 2 0 m false 0 0))→st[2]?=some (.row oc 9 1)→st[3]?=some (.row ws 9 1)→
    av 0 hU coV coJ coMu coOut ⟨⟨k,g,x,n,cs,f,u,ca⟩,m,oc,ws,w,i⟩ .normal [some (.ptr 0 0),some (.bool false),some (.ptr 1 0),some (.slice 3 0 w false 0 0),some (.int .i64 ((i+1:Nat):Int))] st:=fun st h0 h1 h2 h3=>
   ⟨⟨⟨k,g,x,n,cs,f,u,ca⟩,m,oc,ws,w,i+1⟩,pre,lF _ m oc ws w _ f1 f2 0 1 2 3 (by decide) h0 h1 h2 h3,by simp only[coMu];omega,fun K hK=>hK⟩
  cases hE:(decE (wS ws i)!=0)with
  |true=>
   refine⟨_,qw dEe_ok rEe_ok,cast (co_e (gvOK cf) (gvB cf) csOK csN csC tdOK k g x n cs f u ca m oc ws w i _).symm ?_⟩;unfold zH_2 zH_1 zH_0;simp only[d1,d2,Int.toNat_natCast,l1,s1,k1,hE,w2,bne_self_eq_false,eP (j5 []),eS (j5 []) (j5 []) (Nat.zero_le _),gb (j5 []) (j5 []),Bool.and_self,Bool.not_true,cond_true,cond_false];exact next _ rfl rfl rfl rfl
  |false=>
   cases hN:Nat.beq (dN (wS ws i)) 0 with
   |true=>
    have hz:dL (wS ws i)=[]:=List.eq_nil_of_length_eq_zero (Nat.eq_of_beq_eq_true hN);refine⟨_,qw dEn_ok rEn_ok,cast (co_n (gvOK cf) (gvB cf) csOK csN csC tdOK k g x n cs f u ca m oc ws w i _).symm ?_⟩;unfold zH_11 zH_10 zH_9 zH_8 zH_7 zH_6 zH_5 zH_4 zH_3;have vn:∀st,bq st .nilSlice=some (true,dL (wS ws i)):=fun st=>by rw[hz];rfl
    simp only[d1,d2,Int.toNat_natCast,l1,s1,k1,hE,hN,w2,shiftS,Bool.not_false,Bool.and_self,cond_true,eP (j5 _)];refine aa (eS (vn _) (gG (l:=dL (wS ws i)) rfl) (by omega)) ?_;refine ab (fun h=>absurd h (n7 (gb (vn _) (gG (l:=dL (wS ws i)) rfl)))) (fun _=>?_);refine aa (eS (vn _) (gG (l:=dL (wS ws i)) rfl) (by omega)) ?_;refine ab (fun h=>absurd h (n7 (gb (vn _) (gG (l:=dL (wS ws i)) rfl)))) (fun _=>?_);exact next _ rfl rfl rfl rfl
   |false=>
    refine⟨_,qw dEs_ok rEn_ok,cast (co_s (gvOK cf) (gvB cf) csOK csN csC tdOK k g x n cs f u ca m oc ws w i _).symm ?_⟩;unfold zH_20 zH_19 zH_15 zH_14 zH_13 gF zH_22 zH_21 iD fe zH_25 js jt zH_17 zH_16;simp only[d1,d2,Int.toNat_natCast,l1,s1,k1,hE,hN,w2,shiftS,Bool.not_false,Bool.and_self,cond_true];refine aa (eP (dJ (l:=dL (wS ws i)) rfl _ _ _)) (aa (eS (dJ (l:=dL (wS ws i)) rfl _ _ _) (gG (l:=dL (wS ws i)) rfl) (by omega)) ?_);refine ab (fun h=>absurd h (n7 (gb (dJ (l:=dL (wS ws i)) rfl _ _ _) (gG (l:=dL (wS ws i)) rfl)))) (fun _=>?_);refine aa (csOK_eq (l:=dL (wS ws i)) rfl rfl hle) ?_;rw[csN_eq (l:=dL (wS ws i)),csC_eq (l:=dL (wS ws i))]
    ·refine⟨ci_fits ⟨k,g,x,n,cs,f,u,ca⟩ m oc ws w (i:Nat) ⟨dK (wS ws i),dG (wS ws i),dF (wS ws i),dU (wS ws i),dCa (wS ws i)⟩ (dN (wS ws i)) (strs (dL (wS ws i))) (strs (dL (wS ws i))) (strs (dL (wS ws i))) 0 f1 f2 (bS _) (bS _) (bS _) 0 1 2 3 5 4 7 6 11 10 (by decide) rfl rfl rfl rfl rfl rfl rfl rfl rfl rfl,aa ?_ (fun j=>?_)⟩
     ·unfold mY;simp only[Bool.and_eq_true];exact⟨by rw[aL];exact Nat.beq_refl _,Nat.ble_eq_true_of_le (Nat.zero_le _),Nat.ble_eq_true_of_le hle,bS _,f1,f2,bS _,bS _⟩
     ·refine aa (eP (dJ (l:=dL (wS ws i)) rfl _ _ _)) (aa (eS (dJ (l:=dL (wS ws i)) rfl _ _ _) (gG (l:=dL (wS ws i)) rfl) (by omega)) ?_);refine ab (fun h=>absurd h (n7 (gb (dJ (l:=dL (wS ws i)) rfl _ _ _) (gG (l:=dL (wS ws i)) rfl)))) (fun _=>?_);exact next _ rfl rfl rfl rfl
    all_goals rfl
 ·refine⟨_,qw dEe_ok rEe_ok,cast (co_e (gvOK cf) (gvB cf) csOK csN csC tdOK k g x n cs f u ca m oc ws w i _).symm ?_⟩;unfold zH_2 zH_1 zH_0;rw[decide_eq_false (show ¬((i:Int)<(w:Int)) by omega),cond_false];obtain rfl:i=w:=by omega
  exact⟨_,_,fun K hK=>hK,lF ⟨k,g,x,n,cs,f,u,ca⟩ m oc ws i _ f1 f2 0 1 2 3 (by decide) rfl rfl rfl rfl⟩
def encG:List V→St→Option (List (Bool×(V×St)))
 |[.agg [.str k,.str g,p,.int .i64 f,.int .i64 u,.bool ca]],st=>match bq st p with
  |some (b,l)=>some [(b&&Nat.ble l.length 9223372036854775807,(.tuple [.str (encB k g l f u ca),.int .i64 (encE k g l f u ca)],st))]
  |none=>none
 |_,_=>none
theorem encG_ok(args:List V)(s:St)(l:List (Bool×(V×St)))(o:V×St)(h:encG args s=some l)(ho:aC l=some o):FnSat Tryd.prog 9 args s (Is o):=by
 unfold encG at h;split at h
 ·rename_i k g p f u ca;split at h
  ·rename_i b ls hv;cases h;obtain⟨hb,rfl⟩:=aX ho;simp only[Bool.and_eq_true]at hb;obtain⟨rfl,h1⟩:=hb;refine fJ rfl fun B W0 w m rargs hr ha=>?_;obtain⟨a,r,q1,q2,rfl⟩:=ao ha;simp only[ae,Option.some.injEq]at q2;subst q2;obtain⟨y,hy⟩:=eg hr hv q1;exact⟨[.agg [.str k,.str g,lstS y ls,.int .i64 f,.int .i64 u,.bool ca]],by simp only[ae,hy],@en_sat (Frz.of w) k g y ls f u ca (Nat.le_of_ble_eq_true h1)⟩
  ·cases h
 ·cases h
end Go.Proofs.YtnenadbbhdcaoaaDoor
namespace Go.Proofs.YtnenadbbhdcaoaaDoor
open Go.IntKind (u8 u16 u32 u64 i8 i16 i32 i64)
open Go Go.Vm Go.RowKit
set_option linter.unusedVariables false
set_option linter.unusedSectionVars false
set_option maxRecDepth 100000
variable [Φ:Frz]
noncomputable def G0':Tab:=⟨noT,noL,aV 9⟩
theorem G0'_ok:TabOk3 Tryd.prog G0':=⟨aF,aG,ap 9⟩
theorem lg_round(k g:List UInt8)(x:Value)(n:Nat)(cs:List V)(f u:Int)(ca:Bool)(a i:Int)(R:Exit→List (Option V)→St→Prop):ah Tryd.prog G0' 9 10 (ac 9) 7 58 [1,2,3,4] [.ptr 0 0,.bool false,.int .i64 a,.int .i64 i] [.row [.str k,.str g,.lst x n cs,.int .i64 f,.int .i64 u,.bool ca] 24 6] R=
  (
 bif decide (i<(↑n:Int))then bif decide (a<9000)then bif decide (0≤i)&&decide (i<(↑n:Int))then bif (i.toNat*1).blt cs.length then bif aK (cs.getD
 (i.toNat*1) (.bool false))then R .normal [some (.ptr 0 0),some (.bool false),some (.int i64 (i64.wrap (i64.wrap (a+10)+if
 (↑(ak (cs.getD (i.toNat*1) (.bool false))).length:Int)<9000 then(↑(ak (cs.getD (i.toNat*1) (.bool false))).length:Int)else 9000))),some (.int
 i64 (i64.wrap (i+1)))] [.row [.str k,.str g,.lst x n cs,.int i64 f,.int i64 u,.bool ca] 24 6]else False else False else
 False else R (.exit 0) [some (.ptr 0 0),some (.bool false),some (.int i64 a),some (.int i64 i)] [.row [.str k,.str g,.lst x n cs,.int
 i64 f,.int i64 u,.bool ca] 24 6]else R (.exit 0) [some (.ptr 0 0),some (.bool false),some (.int i64 a),some (.int i64 i)]
 [.row [.str k,.str g,.lst x n cs,.int i64 f,.int i64 u,.bool ca] 24 6]):=by kernel_rfl
def lgN:Nat→List (List UInt8)→Nat
 |n,[]=>n
 |n,s::r=>if n<9000 then lgN (n+10+min 9000 s.length) r else n
structure LG where
 c:CT
 a:Nat
 i:Nat
def lgV(x:LG):List V:=[.ptr 0 0,.bool false,.int .i64 x.a,.int .i64 x.i]
def lgJ(x:LG):St:=[.row x.c.cells 24 6]
def kV(x:LG):Bool:=okS x.c.n x.c.cs&&(Nat.ble x.i x.c.n&&Nat.ble x.a 20000)
def lgMu(x:LG):Nat:=x.c.n-x.i
def lgDec:List (Option V)→St→Option LG
 |[some (.ptr 0 0),some (.bool false),some (.int .i64 a),some (.int .i64 0)],.row [.str k,.str g,.lst x n cs,.int .i64 f,.int .i64 u,.bool ca] _ _::_=>some ⟨⟨k,g,x,n,cs,f,u,ca⟩,a.toNat,0⟩
 |_,_=>none
def pS(c:CT)(a:Nat)(K:Exit→List V→St→Prop):Prop:=∀j:Nat,K (.exit 0) [.ptr 0 0,.bool false,.int .i64 a,.int .i64 j] [.row c.cells 24 6]
def lgS(a:Nat)(cs:List V):Nat:=lgN a (cs.map ak)
def lgOut:Asks LG:=fun x K=>pS x.c (lgS x.a (x.c.cs.drop x.i)) K
theorem pR(c:CT)(a:Int)(i:Int):Fits 0 [.ptr 0 0,.bool false,.int .i64 a,.int .i64 i] [.row c.cells 24 6] [some (.ptr 0 0),some (.bool false),some (.int .i64 a),some (.int .i64 i)] [.row c.cells 24 6]:=
 ⟨[0],[.ptr 0 0,.bool false,.int .i64 a,.int .i64 i],rfl,rfl,FitsM.of ⟨.inr ⟨_,.inl rfl,rfl⟩,trivial⟩,by decide,fun i hi=>by omega⟩
theorem lg_roundOk(x:LG)(hx:kV x=true):ah Tryd.prog G0' 9 10 (ac 9) 7 58 [1,2,3,4] (lgV x) (lgJ x) (av 0 kV lgV lgJ lgMu lgOut x):=by
 obtain⟨⟨k,g,y,n,cs,f,u,ca⟩,a,i⟩:=x;unfold kV at hx;simp only[Bool.and_eq_true]at hx;have hx1:okS n cs=true:=hx.1;have p1:i≤n:=Nat.le_of_ble_eq_true hx.2.1;have p0:a≤20000:=Nat.le_of_ble_eq_true hx.2.2;obtain⟨l,rfl,rfl,p2,p3⟩:=cJ hx1;show ah Tryd.prog G0' 9 10 (ac 9) 7 58 [1,2,3,4] [.ptr 0 0,.bool false,.int .i64 a,.int .i64 i] [.row [.str k,.str g,.lst y l.length (strs l),.int .i64 f,.int .i64 u,.bool ca] 24 6] _;rw[lg_round];have ha:∀b j,lgS b ((strs l).drop j)=lgN b (l.drop j):=fun b j=>by
  unfold lgS;rw[List.map_drop,ar]
 have out:∀K,lgOut ⟨⟨k,g,y,l.length,strs l,f,u,ca⟩,a,i⟩ K→pS ⟨k,g,y,l.length,strs l,f,u,ca⟩ (lgN a (l.drop i)) K:=fun K hK=>by
  have hK:pS ⟨k,g,y,l.length,strs l,f,u,ca⟩ (lgS a ((strs l).drop i)) K:=hK;rw[ha]at hK;exact hK
 have fin:lgN a (l.drop i)=a→av 0 kV lgV lgJ lgMu lgOut ⟨⟨k,g,y,l.length,strs l,f,u,ca⟩,a,i⟩ (.exit 0) [some (.ptr 0 0),some (.bool false),some (.int .i64 a),some (.int .i64 i)] [.row [.str k,.str g,.lst y l.length (strs l),.int .i64 f,.int .i64 u,.bool ca] 24 6]:=fun h=>by
  refine⟨[.ptr 0 0,.bool false,.int .i64 a,.int .i64 i],_,fun K hK=>?_,pR ⟨k,g,y,l.length,strs l,f,u,ca⟩ a i⟩;have hK:=out K hK;rw[h]at hK;exact hK i
 cases hd:l.drop i with
 |nil=>
  have hi:=bZ hd p1;rw[decide_eq_false (show ¬((i:Int)<(l.length:Int)) by omega),cond_false];exact fin (by rw[hd];rfl)
 |cons c r=>
  obtain⟨e1,e2,e3⟩:=bg hd;obtain⟨e4,e5⟩:=d9 hd;rw[decide_eq_true (show((i:Int)<(l.length:Int)) by omega),cond_true];refine ab (fun h=>?_) (fun h=>?_)
  ·have h:=of_decide_eq_true h;have q2:decide ((0:Int)≤(i:Int))=true:=decide_eq_true (by omega);simp only[q2,Int.toNat_natCast,e4,e5,aK,ak,cond_true,Bool.and_true,show i64.wrap ((i:Int)+1)=((i+1:Nat):Int) by rw[IntWalk.i64_in _ ⟨by omega,by omega⟩];omega];have q3:i64.wrap (i64.wrap ((a:Int)+10)+if(c.length:Int)<9000 then(c.length:Int)else 9000)=((a+10+min 9000 c.length:Nat):Int):=by
    rw[IntWalk.i64_in ((a:Int)+10) ⟨by omega,by omega⟩];split
    ·rw[IntWalk.i64_in _ ⟨by omega,by omega⟩];omega
    ·rw[IntWalk.i64_in _ ⟨by omega,by omega⟩];omega
   rw[q3];refine⟨⟨⟨k,g,y,l.length,strs l,f,u,ca⟩,a+10+min 9000 c.length,i+1⟩,?_,pR ⟨k,g,y,l.length,strs l,f,u,ca⟩ _ _,by simp only[lgMu];omega,fun K hK=>?_⟩
   ·unfold kV;simp only[Bool.and_eq_true];exact⟨hx1,Nat.ble_eq_true_of_le (show i+1≤l.length by omega),Nat.ble_eq_true_of_le (show a+10+min 9000 c.length≤20000 by omega)⟩
   ·have hK:=out K hK;show pS ⟨k,g,y,l.length,strs l,f,u,ca⟩ (lgS (a+10+min 9000 c.length) ((strs l).drop (i+1))) K;rw[ha,e2];rw[hd,lgN,if_pos (by omega)]at hK;exact hK
  ·have h:=of_decide_eq_false h;exact fin (by rw[hd,lgN,if_neg (by omega)])
noncomputable def lk28:Nat→Trans→Trans:=aU 58 (bp 0 (szOf Tryd.prog 7) [1,2,3,4] lgDec kV lgV lgJ lgOut) (ac 9)
theorem lk28_ok:aE Tryd.prog 0 lk28 7:=by
 unfold lk28;exact bt (aR 9 0 7) (by kernel_rfl) fun f st Q h=>aW (P:=Tryd.prog) (T:=G0') (k:=0) (lim:=9) (n:=10) (g:=7) (p0:=58) (lk:=ac 9) ax G0'_ok (aQ 9 _ _) lgMu lg_roundOk h
noncomputable def G3:Tab:=⟨noT,noL,cG (aV 9) 7 0 lk28⟩
theorem G3_ok:TabOk3 Tryd.prog G3:=⟨aF,aG,bn (ap 9) lk28_ok⟩
theorem lg_tree(k g:List UInt8)(x:Value)(n:Nat)(cs:List V)(f u:Int)(ca:Bool)(R:V→Prop):runW Tryd.prog G3 9 10 7 [.agg [.str k,.str g,.lst x n cs,.int .i64 f,.int .i64 u,.bool ca]] R=
  (
 Fits 0 [.ptr 0 0,.bool false,.int i64 (↑(i64.wrap ((if(↑k.length:Int)<9000 then(↑k.length:Int)else 9000)+if(↑g.length:Int)<9000 then
 (↑g.length:Int)else 9000)).toNat:Int),.int i64 0] [.row [.str k,.str g,.lst x n cs,.int i64 f,.int i64 u,.bool ca] 24 6]
 [some (.ptr 0 0),some (.bool false),some (.int i64 (i64.wrap ((if(↑k.length:Int)<9000 then(↑k.length:Int)else 9000)+if(↑g.length:Int)<
 9000 then(↑g.length:Int)else 9000))),some (.int i64 0)] [.row [.str k,.str g,.lst x n cs,.int i64 f,.int i64 u,.bool ca] 24 6]
 ∧bif kV {c:={k:=k,g:=g,x:=x,n:=n,cs:=cs,f:=f,u:=u,ca:=ca},a:=(i64.wrap ((if(↑k.length:Int)<9000 then(↑k.length:Int)else 9000)+if(↑g.length:Int)<9000 then(↑g.length:Int)else 9000)).toNat,i:=0}
 then ∀(j:Nat),R (.bool (decide ((↑(lgS (i64.wrap ((if(↑k.length:Int)<9000 then(↑k.length:Int)else 9000)+if(↑g.length:Int)<9000 then
 (↑g.length:Int)else 9000)).toNat cs):Int)≥9000)))else False):=by kernel_rfl
theorem closed_sat{P:Program}(hm:P.follows .mixedOrders=true){g:FuncId}{lim n:Nat}(h:pW (E P jI lim n (.fn g) [] [])=true):FnSat P g [] [] (Is (.bool true,[])):=by
 obtain⟨s,hE⟩:=isTrue_spec h;exact FnSat.flatK rfl ((E_ok hm ja lim n (.fn g) [] [] _ hE).mono fun u s h=>by cases h;rfl)
theorem works_run:pW (E Tryd.prog jI 100000 30 (.fn 8) [] [])=true:=by kernel_rfl
theorem works_sat:FnSat Tryd.prog 8 [] [] (Is (.bool true,[])):=closed_sat ax works_run
def worksF:List V→Option V
 |[]=>some (.bool true)
 |_=>none
theorem worksF_ok(args:List V)(v:V)(h:worksF args=some v):FnSat Tryd.prog 8 args [] (Is (v,[])):=by
 unfold worksF at h;split at h
 ·cases h;exact works_sat
 ·cases h
noncomputable def lkCO:Nat→Trans→Trans:=aU 4090 (bp 0 (szOf Tryd.prog 3) [3,6,7,12,13] coDec hU coV coJ coOut) (ac 9)
theorem lkCO_ok:aE Tryd.prog 0 lkCO 3:=by
 unfold lkCO;exact bt (aR 9 0 3) (by kernel_rfl) fun f st Q h=>loopAT_ok (P:=Tryd.prog) (k:=0) (lim:=9) (n:=10) (g:=3) (p0:=4090) (lk:=lkCI) ax lkCI_ok coMu co_roundOk h
def gpOK(G:List V→St→Option (List (Bool×(V×St))))(args:List V)(st:St):Bool:=match G args st with
 |some [(c,(.tuple [.str _,.int .i64 _],_))]=>c
 |_=>false
def gpB(G:List V→St→Option (List (Bool×(V×St))))(args:List V)(st:St):List UInt8:=match G args st with
 |some [(_,(.tuple [.str b,.int .i64 _],_))]=>b
 |_=>[]
def gpE(G:List V→St→Option (List (Bool×(V×St))))(args:List V)(st:St):Int:=match G args st with
 |some [(_,(.tuple [.str _,.int .i64 e],_))]=>e
 |_=>0
def gpT(OK:List V→St→Bool)(EB:List V→St→List UInt8)(EE:List V→St→Int):List V→St→Option (List (Bool×(V×St))):=fun args st=>some [(OK args st,(.tuple [.str (EB args st),.int .i64 (EE args st)],st))]
theorem gp_ok{P:Program}{g:FuncId}{G:List V→St→Option (List (Bool×(V×St)))}(hs:∀args st l,G args st=some l→∀c v s',l=[(c,(v,s'))]→s'=st)
  (H:∀args s l o,G args s=some l→aC l=some o→FnSat P g args s (Is o))(args:List V)(s:St)(l:List (Bool×(V×St)))(o:V×St)(h:gpT (gpOK G) (gpB G) (gpE G) args s=some l)(ho:aC l=some o):FnSat P g args s (Is o):=by
 unfold gpT at h;cases h;obtain⟨hb,rfl⟩:=aX ho;unfold gpOK at hb;split at hb
 ·rename_i c b e s' hG;have e1:=hs args s _ hG c _ s' rfl;subst e1;have h1:gpB G args s'=b:=by unfold gpB;rw[hG]
  have h2:gpE G args s'=e:=by unfold gpE;rw[hG]
  rw[h1,h2];exact H args s' _ _ hG (by rw[hb];rfl)
 ·cases hb
theorem encG_st(args:List V)(st:St)(l:List (Bool×(V×St)))(h:encG args st=some l)(c:Bool)(v:V)(s':St)(hl:l=[(c,(v,s'))]):s'=st:=by
 unfold encG at h;split at h
 ·split at h<;>cases h<;>cases hl<;>rfl
 ·cases h
theorem rencG_st(args:List V)(st:St)(l:List (Bool×(V×St)))(h:ew args st=some l)(c:Bool)(v:V)(s':St)(hl:l=[(c,(v,s'))]):s'=st:=by
 unfold ew at h;split at h
 ·split at h<;>cases h<;>cases hl<;>rfl
 ·cases h
def lgB(k g:List UInt8)(l:List (List UInt8)):Bool:=decide ((lgN (min 9000 k.length+min 9000 g.length) l:Int)≥9000)
def lgP:List V→Option (List (Bool×(V×St)))
 |[.agg [.str k,.str g,.lst _ n cs,.int .i64 _,.int .i64 _,.bool _]]=>some [(okS n cs,(.bool (lgB k g (cs.map ak)),[]))]
 |_=>none
theorem lgP_ok(args:List V)(l:List (Bool×(V×St)))(o:V×St)(h:lgP args=some l)(ho:aC l=some o):FnSat Tryd.prog 7 args [] (Is o):=by
 unfold lgP at h;split at h
 ·rename_i k g x n cs f u ca;cases h;obtain⟨hb,rfl⟩:=aX ho;refine au (lim:=9) (n:=10) ax G3_ok rfl rfl ?_;rw[lg_tree];obtain⟨l,rfl,rfl,h1,h2⟩:=cJ hb;have m9:∀t:Nat,(if(t:Int)<9000 then(t:Int)else 9000)=((min 9000 t:Nat):Int):=fun t=>by split<;>omega
  have q3:i64.wrap (((min 9000 k.length:Nat):Int)+((min 9000 g.length:Nat):Int))=((min 9000 k.length+min 9000 g.length:Nat):Int):=by
   rw[IntWalk.i64_in _ ⟨by omega,by omega⟩];omega
  rw[m9,m9,q3,Int.toNat_natCast];refine⟨pR ⟨k,g,x,l.length,strs l,f,u,ca⟩ _ _,aa ?_ (fun j=>rfl)⟩;unfold kV;simp only[Bool.and_eq_true];exact⟨hb,Nat.ble_eq_true_of_le (Nat.zero_le _),Nat.ble_eq_true_of_le (show min 9000 k.length+min 9000 g.length≤20000 by omega)⟩
 ·cases h
noncomputable def CTL(LO LB EO:List V→St→Bool)(EB:List V→St→List UInt8)(EE:List V→St→Int)(RO:List V→St→Bool)(RB:List V→St→List UInt8)(RE:List V→St→Int)(MO MB NO NB SO SB UB:List V→St→Bool)(TK:V→St→Bool):Tab:=
 ⟨addT (addP (addP (addP (addP (addP noT 8 worksF) 14 iF) 15 iF) 16 digP) 17 digP) 7 lgP,
 addS (addS (addS (addS (addS (addS (addS noL 11 (tdG TK)) 9 (gpT EO EB EE)) 10 (gpT RO RB RE)) 12 (gvT MO MB)) 13 (gvT NO NB)) 18 (gvT SO SB)) 19 (gvT SO SB),
 cG (aV 9) 3 0 lkCO⟩
noncomputable def zL_5(k g:List UInt8)(x:Value)(n:Nat)(cs:List V)(f u:Int)(ca:Bool):=[V.str k,V.str g,V.lst x n cs,V.int i64 f,V.int i64 u,V.bool ca]
noncomputable def zL_8(k' g':List UInt8)(y:Value)(m:Nat)(ds:List V)(f' u':Int)(ca':Bool):=[V.str k',V.str g',V.lst y m ds,V.int i64 f',V.int i64 u',V.bool ca']
noncomputable def lJ(k g:List UInt8)(n:Nat)(f u:Int)(ca:Bool):=[V.str (k),V.str (g),V.slice 4 0 (0+n) false 0 0,V.int i64 f,V.int i64 u,V.bool ca]
noncomputable def zL_2(k g k' g':List UInt8)(x y:Value)(n m:Nat)(cs ds:List V)(f u f' u':Int)(ca ca':Bool):=[Blk.row (zL_5 k g x n cs f u ca) 24 6,Blk.row (zL_8 k' g' y m ds f' u' ca') 24 6,Blk.row (lJ k g n f u ca) 24 6,Blk.dead,Blk.row cs 9 1]
noncomputable def zL_6(k g:List UInt8)(n:Nat)(f u:Int)(ca:Bool):=[V.str ((k)),V.str ((g)),V.slice 4 0 (0+n) false 0 0,V.int i64 f,V.int i64 u,V.bool ca]
noncomputable def zL_0(EB:List V→St→List UInt8)(k g k' g' s:List UInt8)(x y:Value)(n m:Nat)(cs ds:List V)(f u f' u':Int)(ca ca':Bool):=[V.str s,V.str (EB [V.agg (zL_6 k g n f u ca)] (zL_2 k g k' g' x y n m cs ds f u f' u' ca ca')),V.str (EB [V.agg (zL_6 k g n f u ca)] (zL_2 k g k' g' x y n m cs ds f u f' u' ca ca')++s),V.str (s++EB [V.agg (zL_6 k g n f u ca)] (zL_2 k g k' g' x y n m cs ds f u f' u' ca ca'))]
noncomputable def lI(k g:List UInt8)(f u:Int)(ca:Bool):=[V.str (k),V.str (g),V.slice 3 0 0 false 0 0,V.int i64 f,V.int i64 u,V.bool ca]
noncomputable def zL_3(k g k' g':List UInt8)(x y:Value)(n m:Nat)(cs ds:List V)(f u f' u':Int)(ca ca':Bool):=[Blk.row (zL_5 k g x n cs f u ca) 24 6,Blk.row (zL_8 k' g' y m ds f' u' ca') 24 6,Blk.row (lI k g f u ca) 24 6,Blk.row [] 9 1]
noncomputable def zL_7(k g:List UInt8)(f u:Int)(ca:Bool):=[V.str ((k)),V.str ((g)),V.slice 3 0 0 false 0 0,V.int i64 f,V.int i64 u,V.bool ca]
noncomputable def zL_1(EB:List V→St→List UInt8)(k g k' g' s:List UInt8)(x y:Value)(n m:Nat)(cs ds:List V)(f u f' u':Int)(ca ca':Bool):=[V.str s,V.str (EB [V.agg (zL_7 k g f u ca)] (zL_3 k g k' g' x y n m cs ds f u f' u' ca ca')),V.str (EB [V.agg (zL_7 k g f u ca)] (zL_3 k g k' g' x y n m cs ds f u f' u' ca ca')++s),V.str (s++EB [V.agg (zL_7 k g f u ca)] (zL_3 k g k' g' x y n m cs ds f u f' u' ca ca'))]
noncomputable def zL_4(k g:List UInt8)(x:Value)(n:Nat)(cs:List V)(f u:Int)(ca:Bool):=[V.str (k),V.str (g),V.lst x n cs,V.int i64 f,V.int i64 u,V.bool ca]
noncomputable def zL_9(k g k' g':List UInt8)(x y:Value)(n m:Nat)(cs ds:List V)(f u f' u':Int)(ca ca':Bool):=[V.agg (zL_4 k g x n cs f u ca),V.agg [V.str (k'),V.str (g'),V.lst y m ds,V.int i64 f',V.int i64 u',V.bool ca']]
noncomputable def zL_12(k g:List UInt8)(f u:Int)(ca:Bool):=[V.str k,V.str g,V.slice 2 0 0 false 0 0,V.int i64 f,V.int i64 u,V.bool ca]
noncomputable def zL_13(k g:List UInt8)(n:Nat)(f u:Int)(ca:Bool):=[V.str k,V.str g,V.slice 2 0 (0+n) false 0 0,V.int i64 f,V.int i64 u,V.bool ca]
theorem ct_law(LO LB EO:List V→St→Bool)(EB:List V→St→List UInt8)(EE:List V→St→Int)(RO:List V→St→Bool)(RB:List V→St→List UInt8)(RE:List V→St→Int)(MO MB NO NB SO SB UB:List V→St→Bool)(TK:V→St→Bool)(k g:List UInt8)(x:Value)(n:Nat)(cs:List V)(f u:Int)(ca:Bool)(k' g':List UInt8)(y:Value)(m:Nat)(ds:List V)(f' u':Int)(ca':Bool)(s:List UInt8)(R:V→Prop):runW Tryd.prog (CTL LO LB EO EB EE RO RB RE MO MB NO NB SO SB UB TK) 9 10 3 [.agg [.str k,.str g,.lst x n cs,.int .i64 f,.int .i64 u,.bool ca],.agg [.str k',.str g',.lst y m ds,.int .i64 f',.int .i64 u',.bool ca'],.str s] R=
 (
 bif okS n cs then bif lgB (k) (g) (List.map ak cs)then R (.bool true)else bif okS m ds then bif lgB (k') (g') (List.map ak ds)then R (.bool true)
 else bif decide ((↑s.length:Int)>3000)then R (.bool true)else bif n.beq 0 then bif EO [.agg (zL_7 k g f u ca)] (zL_3 k g k' g' x y n m cs ds f u f' u' ca
 ca')then bif TK (.lst x n cs) []then bif RO [.agg (zL_4 k g x n cs f u ca)] []then bif !EB [.agg (zL_7 k g f u ca)] (zL_3 k g k' g' x y n m cs ds f u f' u'
 ca ca')==RB [.agg (zL_4 k g x n cs f u ca)] []then R (.bool false)else bif EE [.agg (zL_7 k g f u ca)] (zL_3 k g k' g' x y n m cs ds f u f' u' ca ca')!=
 RE [.agg (zL_4 k g x n cs f u ca)] []then R (.bool false)else bif MO [.agg (zL_7 k g f u ca)] [.ro false (zL_5 k g x n cs f u ca),.ro false (zL_8 k'
 g' y m ds f' u' ca'),.ro false (lI k g f u ca),.ro false []]then bif TK (.lst x n cs) []then bif NO [.agg (zL_4 k g x n cs f u ca)] []then bif
 !MB [.agg (zL_7 k g f u ca)] [.ro false (zL_5 k g x n cs f u ca),.ro false (zL_8 k' g' y m ds f' u' ca'),.ro false (lI k g f u ca),.ro false
 []]==NB [.agg (zL_4 k g x n cs f u ca)] []then R (.bool false)else bif !bF (k)==bF (k)then R (.bool false)else bif !digB (k)==digB (k)then R
 (.bool false)else bif SO (zL_9 k g k' g' x y n m cs ds f u f' u' ca ca') []then bif TK (.lst x n cs) []then bif TK (.lst y m ds) []then bif SO (zL_9 k g
 k' g' x y n m cs ds f u f' u' ca ca') []then bif !SB (zL_9 k g k' g' x y n m cs ds f u f' u' ca ca') []==SB (zL_9 k g k' g' x y n m cs ds f u f' u' ca ca') []
 then R (.bool false)else bif SO [.agg (zL_4 k g x n cs f u ca),.agg (zL_7 k g f u ca)] [.ro false (zL_5 k g x n cs f u ca),.ro false (zL_8 k' g' y m
 ds f' u' ca'),.ro false (lI k g f u ca),.ro false []]then bif !SB [.agg (zL_4 k g x n cs f u ca),.agg (zL_7 k g f u ca)] [.ro false (zL_5 k g x
 n cs f u ca),.ro false (zL_8 k' g' y m ds f' u' ca'),.ro false (lI k g f u ca),.ro false []]then R (.bool false)else bif ((EB [.agg (zL_7 k g
 f u ca)] (zL_3 k g k' g' x y n m cs ds f u f' u' ca ca')).length+s.length).ble 9223372036854775807 then bif (s.length+(EB [.agg (zL_7 k g f u ca)] (zL_3 k g
 k' g' x y n m cs ds f u f' u' ca ca')).length).ble 9223372036854775807 then Fits 0 [.ptr 0 0,.bool false,.ptr 1 0,.slice 3 0 4 false 0 0,.int
 i64 0] [.row (zL_5 k g x n cs f u ca) 24 6,.row (zL_12 k g f u ca) 24 6,.row [] 9 1,.row (zL_1 EB k g k' g' s x y n m cs ds f u f' u' ca
 ca') 9 1] [some (.ptr 0 0),some (.bool false),some (.ptr 2 0),some (.slice 4 0 4 false 0 0),some (.int i64 0)] [.row (zL_5 k g x n cs f u ca)
 24 6,.row (zL_8 k' g' y m ds f' u' ca') 24 6,.row (lI k g f u ca) 24 6,.row [] 9 1,.row (zL_1 EB k g k' g' s x y n m cs ds f u f' u' ca ca') 9
 1]∧bif hU
 {c:={k:=k,g:=g,x:=x,n:=n,cs:=cs,f:=f,u:=u,ca:=ca},m:=0,oc:=[],ws:=(zL_1 EB k g k' g' s x y n m cs ds f u f' u' ca ca'),w:=4,i:=0}
 then bif TK (.slice 2 0 0 false 0 0) [.ro false (zL_5 k g x n cs f u ca),.ro false (zL_12 k g f u ca),.ro false [],.ro false (zL_1 EB k g k' g' s
 x y n m cs ds f u f' u' ca ca')]then bif TK (.lst x n cs) []then bif SO [.agg [.str (k),.str (g),.slice 2 0 0 false 0 0,.int i64 f,.int
 i64 u,.bool ca],.agg (zL_4 k g x n cs f u ca)] [.ro false (zL_5 k g x n cs f u ca),.ro false (zL_12 k g f u ca),.ro false [],.ro false
 (zL_1 EB k g k' g' s x y n m cs ds f u f' u' ca ca')]then bif SB [.agg [.str (k),.str (g),.slice 2 0 0 false 0 0,.int i64 f,.int i64
 u,.bool ca],.agg (zL_4 k g x n cs f u ca)] [.ro false (zL_5 k g x n cs f u ca),.ro false (zL_12 k g f u ca),.ro false [],.ro false (zL_1 EB k
 g k' g' s x y n m cs ds f u f' u' ca ca')]then R (.bool true)else R (.bool false)else False else False else False else False else False else False else
 False else False else False else False else False else False else False else False else False else False else False else bif cs.length.beq (n*1)&&cs.all
 V.one then bif (0+n).ble 9223372036854775807&&((0+n)*16).ble 140737488355328 then bif EO [.agg (zL_6 k g n f u ca)] (zL_2 k g k' g' x y n m cs ds f u f'
 u' ca ca')then bif TK (.lst x n cs) []then bif RO [.agg (zL_4 k g x n cs f u ca)] []then bif !EB [.agg (zL_6 k g n f u ca)] (zL_2 k g k' g' x y n m cs ds f
 u f' u' ca ca')==RB [.agg (zL_4 k g x n cs f u ca)] []then R (.bool false)else bif EE [.agg (zL_6 k g n f u ca)] (zL_2 k g k' g' x y n m cs ds f u f' u'
 ca ca')!=RE [.agg (zL_4 k g x n cs f u ca)] []then R (.bool false)else bif MO [.agg (zL_6 k g n f u ca)] [.ro false (zL_5 k g x n cs f u ca),.ro
 false (zL_8 k' g' y m ds f' u' ca'),.ro false (lJ k g n f u ca),.dead,.ro false cs]then bif TK (.lst x n cs) []then bif NO [.agg (zL_4 k g x n
 cs f u ca)] []then bif !MB [.agg (zL_6 k g n f u ca)] [.ro false (zL_5 k g x n cs f u ca),.ro false (zL_8 k' g' y m ds f' u' ca'),.ro false (lJ k
 g n f u ca),.dead,.ro false cs]==NB [.agg (zL_4 k g x n cs f u ca)] []then R (.bool false)else bif !bF (k)==bF (k)then R (.bool false)
 else bif !digB (k)==digB (k)then R (.bool false)else bif SO (zL_9 k g k' g' x y n m cs ds f u f' u' ca ca') []then bif TK (.lst x n cs) []then bif TK
 (.lst y m ds) []then bif SO (zL_9 k g k' g' x y n m cs ds f u f' u' ca ca') []then bif !SB (zL_9 k g k' g' x y n m cs ds f u f' u' ca ca') []==SB (zL_9 k g
 k' g' x y n m cs ds f u f' u' ca ca') []then R (.bool false)else bif SO [.agg (zL_4 k g x n cs f u ca),.agg (zL_6 k g n f u ca)] [.ro false (zL_5 k g x
 n cs f u ca),.ro false (zL_8 k' g' y m ds f' u' ca'),.ro false (lJ k g n f u ca),.dead,.ro false cs]then bif !SB [.agg (zL_4 k g x n cs f u
 ca),.agg (zL_6 k g n f u ca)] [.ro false (zL_5 k g x n cs f u ca),.ro false (zL_8 k' g' y m ds f' u' ca'),.ro false (lJ k g n f u ca),.dead,
 .ro false cs]then R (.bool false)else bif ((EB [.agg (zL_6 k g n f u ca)] (zL_2 k g k' g' x y n m cs ds f u f' u' ca ca')).length+s.length).ble
 9223372036854775807 then bif (s.length+(EB [.agg (zL_6 k g n f u ca)] (zL_2 k g k' g' x y n m cs ds f u f' u' ca ca')).length).ble 9223372036854775807 then
 Fits 0 [.ptr 0 0,.bool false,.ptr 1 0,.slice 3 0 4 false 0 0,.int i64 0] [.row (zL_5 k g x n cs f u ca) 24 6,.row (zL_13 k g n f u ca) 24
 6,.row cs 9 1,.row (zL_0 EB k g k' g' s x y n m cs ds f u f' u' ca ca') 9 1] [some (.ptr 0 0),some (.bool false),some (.ptr 2 0),some (.slice 5 0
 4 false 0 0),some (.int i64 0)] [.row (zL_5 k g x n cs f u ca) 24 6,.row (zL_8 k' g' y m ds f' u' ca') 24 6,.row (lJ k g n f u ca) 24 6,
 .dead,.row cs 9 1,.row (zL_0 EB k g k' g' s x y n m cs ds f u f' u' ca ca') 9 1]∧bif hU
 {c:={k:=k,g:=g,x:=x,n:=n,cs:=cs,f:=f,u:=u,ca:=ca},m:=0+n,oc:=cs,ws:=(zL_0 EB k g k' g' s x y n m cs ds f u f' u' ca ca'),w:=4,i:=0}
 then bif TK (.slice 2 0 (0+n) false 0 0) [.ro false (zL_5 k g x n cs f u ca),.ro false (zL_13 k g n f u ca),.ro false cs,.ro false (zL_0 EB k g
 k' g' s x y n m cs ds f u f' u' ca ca')]then bif TK (.lst x n cs) []then bif SO [.agg [.str (k),.str (g),.slice 2 0 (0+n) false 0 0,.int i64
 f,.int i64 u,.bool ca],.agg (zL_4 k g x n cs f u ca)] [.ro false (zL_5 k g x n cs f u ca),.ro false (zL_13 k g n f u ca),.ro false cs,
 .ro false (zL_0 EB k g k' g' s x y n m cs ds f u f' u' ca ca')]then bif SB [.agg [.str (k),.str (g),.slice 2 0 (0+n) false 0 0,.int i64 f,
 .int i64 u,.bool ca],.agg (zL_4 k g x n cs f u ca)] [.ro false (zL_5 k g x n cs f u ca),.ro false (zL_13 k g n f u ca),.ro false cs,
 .ro false (zL_0 EB k g k' g' s x y n m cs ds f u f' u' ca ca')]then R (.bool true)else R (.bool false)else False else False else False else False else
 False else False else False else False else False else False else False else False else False else False else False else False else False else False else False
 else False else False):=by kernel_rfl
noncomputable def RS0:Tab:=⟨noT,noL,aV 18⟩
theorem qu:TabOk3 Tryd.prog RS0:=⟨aF,aG,ap 18⟩
theorem rrot_tree(x n:Int)(R:V→Prop):runW Tryd.prog RS0 9 10 87 [.int .u32 x,.int .u64 n] R=
  (
 bif decide (0≤n)then bif decide (0≤u64.wrap (32-n))then R (.int u32 (u32.wrap (↑(BitVec.ofInt 32 (x.fdiv (2^min n.toNat 32))|||
 BitVec.ofInt 32 (u32.wrap (x*2^min (u64.wrap (32-n)).toNat 32))).toNat:Int)))else False else False):=by kernel_rfl
noncomputable def lookR(g:Nat)(lk:Nat→Trans→Trans)(args:List V)(st:St)(R:V→St→Prop):Prop:=fnK Tryd.prog (cqT Tryd.prog RS0 9 10) (KG Tryd.prog RS0 9 10) lk g args st R
theorem lookR_ok{g:Nat}{lk:Nat→Trans→Trans}{args:List V}{st:St}{R:V→St→Prop}(hl:aE Tryd.prog st.length lk g)(h:lookR g lk args st R):FnSat Tryd.prog g args st R:=
 jQ ax (jm ax qu 9 10) (ll ax qu 10) hl h
theorem rwds_tree(la:List V)(off c z:Nat)(R:V→St→Prop):lookR 86 (ac 18) [.slice 0 off 64 false c z] [.ro false la] (fun u st=>R u (vis u st))=
  (
 bif (off+0).blt la.length then bif aq u8 (la.getD (off+0) (.bool false))then bif (off+1).blt la.length then bif aq u8 (la.getD (off+1)
 (.bool false))then bif (off+2).blt la.length then bif aq u8 (la.getD (off+2) (.bool false))then bif (off+3).blt la.length then bif aq u8
 (la.getD (off+3) (.bool false))then bif (off+4).blt la.length then bif aq u8 (la.getD (off+4) (.bool false))then bif (off+5).blt la.length then
 bif aq u8 (la.getD (off+5) (.bool false))then bif (off+6).blt la.length then bif aq u8 (la.getD (off+6) (.bool false))then bif (off+
 7).blt la.length then bif aq u8 (la.getD (off+7) (.bool false))then bif (off+8).blt la.length then bif aq u8 (la.getD (off+8) (.bool
 false))then bif (off+9).blt la.length then bif aq u8 (la.getD (off+9) (.bool false))then bif (off+10).blt la.length then bif aq u8
 (la.getD (off+10) (.bool false))then bif (off+11).blt la.length then bif aq u8 (la.getD (off+11) (.bool false))then bif (off+12).blt la.length
 then bif aq u8 (la.getD (off+12) (.bool false))then bif (off+13).blt la.length then bif aq u8 (la.getD (off+13) (.bool false))then bif
 (off+14).blt la.length then bif aq u8 (la.getD (off+14) (.bool false))then bif (off+15).blt la.length then bif aq u8 (la.getD (off+15)
 (.bool false))then bif (off+16).blt la.length then bif aq u8 (la.getD (off+16) (.bool false))then bif (off+17).blt la.length then bif aq
 u8 (la.getD (off+17) (.bool false))then bif (off+18).blt la.length then bif aq u8 (la.getD (off+18) (.bool false))then bif (off+19).blt
 la.length then bif aq u8 (la.getD (off+19) (.bool false))then bif (off+20).blt la.length then bif aq u8 (la.getD (off+20) (.bool false))
 then bif (off+21).blt la.length then bif aq u8 (la.getD (off+21) (.bool false))then bif (off+22).blt la.length then bif aq u8 (la.getD
 (off+22) (.bool false))then bif (off+23).blt la.length then bif aq u8 (la.getD (off+23) (.bool false))then bif (off+24).blt la.length then bif
 aq u8 (la.getD (off+24) (.bool false))then bif (off+25).blt la.length then bif aq u8 (la.getD (off+25) (.bool false))then bif (off+
 26).blt la.length then bif aq u8 (la.getD (off+26) (.bool false))then bif (off+27).blt la.length then bif aq u8 (la.getD (off+27) (.bool
 false))then bif (off+28).blt la.length then bif aq u8 (la.getD (off+28) (.bool false))then bif (off+29).blt la.length then bif aq u8
 (la.getD (off+29) (.bool false))then bif (off+30).blt la.length then bif aq u8 (la.getD (off+30) (.bool false))then bif (off+31).blt la.length
 then bif aq u8 (la.getD (off+31) (.bool false))then bif (off+32).blt la.length then bif aq u8 (la.getD (off+32) (.bool false))then bif
 (off+33).blt la.length then bif aq u8 (la.getD (off+33) (.bool false))then bif (off+34).blt la.length then bif aq u8 (la.getD (off+34)
 (.bool false))then bif (off+35).blt la.length then bif aq u8 (la.getD (off+35) (.bool false))then bif (off+36).blt la.length then bif aq
 u8 (la.getD (off+36) (.bool false))then bif (off+37).blt la.length then bif aq u8 (la.getD (off+37) (.bool false))then bif (off+38).blt
 la.length then bif aq u8 (la.getD (off+38) (.bool false))then bif (off+39).blt la.length then bif aq u8 (la.getD (off+39) (.bool false))
 then bif (off+40).blt la.length then bif aq u8 (la.getD (off+40) (.bool false))then bif (off+41).blt la.length then bif aq u8 (la.getD
 (off+41) (.bool false))then bif (off+42).blt la.length then bif aq u8 (la.getD (off+42) (.bool false))then bif (off+43).blt la.length then bif
 aq u8 (la.getD (off+43) (.bool false))then bif (off+44).blt la.length then bif aq u8 (la.getD (off+44) (.bool false))then bif (off+
 45).blt la.length then bif aq u8 (la.getD (off+45) (.bool false))then bif (off+46).blt la.length then bif aq u8 (la.getD (off+46) (.bool
 false))then bif (off+47).blt la.length then bif aq u8 (la.getD (off+47) (.bool false))then bif (off+48).blt la.length then bif aq u8
 (la.getD (off+48) (.bool false))then bif (off+49).blt la.length then bif aq u8 (la.getD (off+49) (.bool false))then bif (off+50).blt la.length
 then bif aq u8 (la.getD (off+50) (.bool false))then bif (off+51).blt la.length then bif aq u8 (la.getD (off+51) (.bool false))then bif
 (off+52).blt la.length then bif aq u8 (la.getD (off+52) (.bool false))then bif (off+53).blt la.length then bif aq u8 (la.getD (off+53)
 (.bool false))then bif (off+54).blt la.length then bif aq u8 (la.getD (off+54) (.bool false))then bif (off+55).blt la.length then bif aq
 u8 (la.getD (off+55) (.bool false))then bif (off+56).blt la.length then bif aq u8 (la.getD (off+56) (.bool false))then bif (off+57).blt
 la.length then bif aq u8 (la.getD (off+57) (.bool false))then bif (off+58).blt la.length then bif aq u8 (la.getD (off+58) (.bool false))
 then bif (off+59).blt la.length then bif aq u8 (la.getD (off+59) (.bool false))then bif (off+60).blt la.length then bif aq u8 (la.getD
 (off+60) (.bool false))then bif (off+61).blt la.length then bif aq u8 (la.getD (off+61) (.bool false))then bif (off+62).blt la.length then bif
 aq u8 (la.getD (off+62) (.bool false))then bif (off+63).blt la.length then bif aq u8 (la.getD (off+63) (.bool false))then R (.slice 32
 0 16 false 0 0) [.dead,.dead,.dead,.dead,.dead,.dead,.dead,.dead,.dead,.dead,.dead,.dead,.dead,.dead,.dead,
 .dead,.dead,.dead,.dead,.dead,.dead,.dead,.dead,.dead,.dead,.dead,.dead,.dead,.dead,.dead,.dead,.dead,
 .row [.int u32 (u32.wrap (↑(BitVec.ofInt 32 (u32.wrap (↑(BitVec.ofInt 32 (u32.wrap (↑(BitVec.ofInt 32 (u32.wrap
 (u32.wrap (af (la.getD (off+0) (.bool false)))*16777216))|||BitVec.ofInt 32 (u32.wrap (u32.wrap (af (la.getD (off+1) (.bool
 false)))*65536))).toNat:Int))|||BitVec.ofInt 32 (u32.wrap (u32.wrap (af (la.getD (off+2) (.bool false)))*256))).toNat:Int))|||
 BitVec.ofInt 32 (u32.wrap (af (la.getD (off+3) (.bool false))))).toNat:Int)),.int u32 (u32.wrap (↑(BitVec.ofInt 32 (u32.wrap
 (↑(BitVec.ofInt 32 (u32.wrap (↑(BitVec.ofInt 32 (u32.wrap (u32.wrap (af (la.getD (off+4) (.bool false)))*16777216))|||BitVec.ofInt 32
 (u32.wrap (u32.wrap (af (la.getD (off+5) (.bool false)))*65536))).toNat:Int))|||BitVec.ofInt 32 (u32.wrap (u32.wrap (af
 (la.getD (off+6) (.bool false)))*256))).toNat:Int))|||BitVec.ofInt 32 (u32.wrap (af (la.getD (off+7) (.bool false))))).toNat:Int)),.int
 u32 (u32.wrap (↑(BitVec.ofInt 32 (u32.wrap (↑(BitVec.ofInt 32 (u32.wrap (↑(BitVec.ofInt 32 (u32.wrap (u32.wrap (af
 (la.getD (off+8) (.bool false)))*16777216))|||BitVec.ofInt 32 (u32.wrap (u32.wrap (af (la.getD (off+9) (.bool false)))*65536))).toNat:
 Int))|||BitVec.ofInt 32 (u32.wrap (u32.wrap (af (la.getD (off+10) (.bool false)))*256))).toNat:Int))|||BitVec.ofInt 32 (u32.wrap
 (af (la.getD (off+11) (.bool false))))).toNat:Int)),.int u32 (u32.wrap (↑(BitVec.ofInt 32 (u32.wrap (↑(BitVec.ofInt 32
 (u32.wrap (↑(BitVec.ofInt 32 (u32.wrap (u32.wrap (af (la.getD (off+12) (.bool false)))*16777216))|||BitVec.ofInt 32 (u32.wrap
 (u32.wrap (af (la.getD (off+13) (.bool false)))*65536))).toNat:Int))|||BitVec.ofInt 32 (u32.wrap (u32.wrap (af (la.getD (off+
 14) (.bool false)))*256))).toNat:Int))|||BitVec.ofInt 32 (u32.wrap (af (la.getD (off+15) (.bool false))))).toNat:Int)),.int u32
 (u32.wrap (↑(BitVec.ofInt 32 (u32.wrap (↑(BitVec.ofInt 32 (u32.wrap (↑(BitVec.ofInt 32 (u32.wrap (u32.wrap (af (la.getD (off+
 16) (.bool false)))*16777216))|||BitVec.ofInt 32 (u32.wrap (u32.wrap (af (la.getD (off+17) (.bool false)))*65536))).toNat:Int))|||
 BitVec.ofInt 32 (u32.wrap (u32.wrap (af (la.getD (off+18) (.bool false)))*256))).toNat:Int))|||BitVec.ofInt 32 (u32.wrap (af
 (la.getD (off+19) (.bool false))))).toNat:Int)),.int u32 (u32.wrap (↑(BitVec.ofInt 32 (u32.wrap (↑(BitVec.ofInt 32 (u32.wrap
 (↑(BitVec.ofInt 32 (u32.wrap (u32.wrap (af (la.getD (off+20) (.bool false)))*16777216))|||BitVec.ofInt 32 (u32.wrap (u32.wrap
 (af (la.getD (off+21) (.bool false)))*65536))).toNat:Int))|||BitVec.ofInt 32 (u32.wrap (u32.wrap (af (la.getD (off+22) (.bool false)))
 *256))).toNat:Int))|||BitVec.ofInt 32 (u32.wrap (af (la.getD (off+23) (.bool false))))).toNat:Int)),.int u32 (u32.wrap
 (↑(BitVec.ofInt 32 (u32.wrap (↑(BitVec.ofInt 32 (u32.wrap (↑(BitVec.ofInt 32 (u32.wrap (u32.wrap (af (la.getD (off+24) (.bool
 false)))*16777216))|||BitVec.ofInt 32 (u32.wrap (u32.wrap (af (la.getD (off+25) (.bool false)))*65536))).toNat:Int))|||BitVec.ofInt 32
 (u32.wrap (u32.wrap (af (la.getD (off+26) (.bool false)))*256))).toNat:Int))|||BitVec.ofInt 32 (u32.wrap (af (la.getD (off+27)
 (.bool false))))).toNat:Int)),.int u32 (u32.wrap (↑(BitVec.ofInt 32 (u32.wrap (↑(BitVec.ofInt 32 (u32.wrap (↑(BitVec.ofInt 32
 (u32.wrap (u32.wrap (af (la.getD (off+28) (.bool false)))*16777216))|||BitVec.ofInt 32 (u32.wrap (u32.wrap (af (la.getD
 (off+29) (.bool false)))*65536))).toNat:Int))|||BitVec.ofInt 32 (u32.wrap (u32.wrap (af (la.getD (off+30) (.bool false)))*256))).toNat:
 Int))|||BitVec.ofInt 32 (u32.wrap (af (la.getD (off+31) (.bool false))))).toNat:Int)),.int u32 (u32.wrap (↑(BitVec.ofInt 32
 (u32.wrap (↑(BitVec.ofInt 32 (u32.wrap (↑(BitVec.ofInt 32 (u32.wrap (u32.wrap (af (la.getD (off+32) (.bool false)))*16777216))
 |||BitVec.ofInt 32 (u32.wrap (u32.wrap (af (la.getD (off+33) (.bool false)))*65536))).toNat:Int))|||BitVec.ofInt 32 (u32.wrap
 (u32.wrap (af (la.getD (off+34) (.bool false)))*256))).toNat:Int))|||BitVec.ofInt 32 (u32.wrap (af (la.getD (off+35) (.bool
 false))))).toNat:Int)),.int u32 (u32.wrap (↑(BitVec.ofInt 32 (u32.wrap (↑(BitVec.ofInt 32 (u32.wrap (↑(BitVec.ofInt 32
 (u32.wrap (u32.wrap (af (la.getD (off+36) (.bool false)))*16777216))|||BitVec.ofInt 32 (u32.wrap (u32.wrap (af (la.getD
 (off+37) (.bool false)))*65536))).toNat:Int))|||BitVec.ofInt 32 (u32.wrap (u32.wrap (af (la.getD (off+38) (.bool false)))*256))).toNat:
 Int))|||BitVec.ofInt 32 (u32.wrap (af (la.getD (off+39) (.bool false))))).toNat:Int)),.int u32 (u32.wrap (↑(BitVec.ofInt 32
 (u32.wrap (↑(BitVec.ofInt 32 (u32.wrap (↑(BitVec.ofInt 32 (u32.wrap (u32.wrap (af (la.getD (off+40) (.bool false)))*16777216))
 |||BitVec.ofInt 32 (u32.wrap (u32.wrap (af (la.getD (off+41) (.bool false)))*65536))).toNat:Int))|||BitVec.ofInt 32 (u32.wrap
 (u32.wrap (af (la.getD (off+42) (.bool false)))*256))).toNat:Int))|||BitVec.ofInt 32 (u32.wrap (af (la.getD (off+43) (.bool
 false))))).toNat:Int)),.int u32 (u32.wrap (↑(BitVec.ofInt 32 (u32.wrap (↑(BitVec.ofInt 32 (u32.wrap (↑(BitVec.ofInt 32
 (u32.wrap (u32.wrap (af (la.getD (off+44) (.bool false)))*16777216))|||BitVec.ofInt 32 (u32.wrap (u32.wrap (af (la.getD
 (off+45) (.bool false)))*65536))).toNat:Int))|||BitVec.ofInt 32 (u32.wrap (u32.wrap (af (la.getD (off+46) (.bool false)))*256))).toNat:
 Int))|||BitVec.ofInt 32 (u32.wrap (af (la.getD (off+47) (.bool false))))).toNat:Int)),.int u32 (u32.wrap (↑(BitVec.ofInt 32
 (u32.wrap (↑(BitVec.ofInt 32 (u32.wrap (↑(BitVec.ofInt 32 (u32.wrap (u32.wrap (af (la.getD (off+48) (.bool false)))*16777216))
 |||BitVec.ofInt 32 (u32.wrap (u32.wrap (af (la.getD (off+49) (.bool false)))*65536))).toNat:Int))|||BitVec.ofInt 32 (u32.wrap
 (u32.wrap (af (la.getD (off+50) (.bool false)))*256))).toNat:Int))|||BitVec.ofInt 32 (u32.wrap (af (la.getD (off+51) (.bool
 false))))).toNat:Int)),.int u32 (u32.wrap (↑(BitVec.ofInt 32 (u32.wrap (↑(BitVec.ofInt 32 (u32.wrap (↑(BitVec.ofInt 32
 (u32.wrap (u32.wrap (af (la.getD (off+52) (.bool false)))*16777216))|||BitVec.ofInt 32 (u32.wrap (u32.wrap (af (la.getD
 (off+53) (.bool false)))*65536))).toNat:Int))|||BitVec.ofInt 32 (u32.wrap (u32.wrap (af (la.getD (off+54) (.bool false)))*256))).toNat:
 Int))|||BitVec.ofInt 32 (u32.wrap (af (la.getD (off+55) (.bool false))))).toNat:Int)),.int u32 (u32.wrap (↑(BitVec.ofInt 32
 (u32.wrap (↑(BitVec.ofInt 32 (u32.wrap (↑(BitVec.ofInt 32 (u32.wrap (u32.wrap (af (la.getD (off+56) (.bool false)))*16777216))
 |||BitVec.ofInt 32 (u32.wrap (u32.wrap (af (la.getD (off+57) (.bool false)))*65536))).toNat:Int))|||BitVec.ofInt 32 (u32.wrap
 (u32.wrap (af (la.getD (off+58) (.bool false)))*256))).toNat:Int))|||BitVec.ofInt 32 (u32.wrap (af (la.getD (off+59) (.bool
 false))))).toNat:Int)),.int u32 (u32.wrap (↑(BitVec.ofInt 32 (u32.wrap (↑(BitVec.ofInt 32 (u32.wrap (↑(BitVec.ofInt 32
 (u32.wrap (u32.wrap (af (la.getD (off+60) (.bool false)))*16777216))|||BitVec.ofInt 32 (u32.wrap (u32.wrap (af (la.getD
 (off+61) (.bool false)))*65536))).toNat:Int))|||BitVec.ofInt 32 (u32.wrap (u32.wrap (af (la.getD (off+62) (.bool false)))*256))).toNat:
 Int))|||BitVec.ofInt 32 (u32.wrap (af (la.getD (off+63) (.bool false))))).toNat:Int))] 103 1]else False else False else False else False else False
 else False else False else False else False else False else False else False else False else False else False else False else False else False else False else False else
 False else False else False else False else False else False else False else False else False else False else False else False else False else False else False else False
 else False else False else False else False else False else False else False else False else False else False else False else False else False else False else False else
 False else False else False else False else False else False else False else False else False else False else False else False else False else False else False else False
 else False else False else False else False else False else False else False else False else False else False else False else False else False else False else False else
 False else False else False else False else False else False else False else False else False else False else False else False else False else False else False else False
 else False else False else False else False else False else False else False else False else False else False else False else False else False else False else False else
 False else False else False else False else False else False else False else False else False else False else False else False else False else False else False):=by kernel_rfl
theorem rot_u(x n:Int)(h0:0<n)(h1:n<32):rotI x n=u32.wrap (((BitVec.ofInt 32 (x.fdiv (2^min n.toNat 32))|||BitVec.ofInt 32 (u32.wrap (x*2^min (u64.wrap (32-n)).toNat 32))).toNat:Nat):Int):=by
 have hn:n=1∨n=2∨n=3∨n=4∨n=5∨n=6∨n=7∨n=8∨n=9∨n=10∨n=11∨n=12∨n=13∨n=14∨n=15∨n=16∨n=17∨n=18∨n=19∨n=20∨n=21∨n=22∨n=23∨n=24∨n=25∨n=26∨n=27∨n=28∨n=29∨n=30∨n=31:=by omega
 unfold rotI;rcases hn with h|h|h|h|h|h|h|h|h|h|h|h|h|h|h|h|h|h|h|h|h|h|h|h|h|h|h|h|h|h|h<;>(subst h;rw[BitVec.or_comm];rfl)
def rrotT(F:Int→Int→Int):List V→Option (List (Bool×(V×St)))
 |[.int .u32 x,.int .u64 n]=>some [(decide (0<n)&&decide (n<32),(.int .u32 (F x n),[]))]
 |_=>none
theorem rrot_ok(args:List V)(l:List (Bool×(V×St)))(o:V×St)(h:rrotT rotI args=some l)(ho:aC l=some o):FnSat Tryd.prog 87 args [] (Is o):=by
 unfold rrotT at h;split at h
 ·rename_i x n;cases h;cases hk:(decide (0<n)&&decide (n<32))with
  |false=>rw[hk]at ho;cases ho
  |true=>
  rw[hk]at ho;cases ho;rw[Bool.and_eq_true]at hk;have h0:=of_decide_eq_true hk.1;have h1:=of_decide_eq_true hk.2;refine au (lim:=9) (n:=10) ax qu rfl rfl ?_;rw[rrot_tree];have h2:=IntWalk.u64_in (32-n) ⟨by omega,by omega⟩;rw[decide_eq_true (by omega:(0:Int)≤n),decide_eq_true (by rw[h2];omega:(0:Int)≤u64.wrap (32-n))];rw[cond_true,cond_true,rot_u x n h0 h1]
 ·cases h
def lN(W:Nat→Int):List V:=[.int .u32 (W 0),.int .u32 (W 1),.int .u32 (W 2),.int .u32 (W 3),.int .u32 (W 4),.int .u32 (W 5),.int .u32 (W 6),.int .u32 (W 7),.int .u32 (W 8),.int .u32 (W 9),.int .u32 (W 10),.int .u32 (W 11),.int .u32 (W 12),.int .u32 (W 13),.int .u32 (W 14),.int .u32 (W 15)]
def wdsT(OB:List V→Nat→Bool)(WB:List V→Nat→Nat→Int):List V→St→Option (List (Bool×(V×St)))
 |[.slice 0 off n false c z],[.ro false la]=>some [(Nat.beq n 64&&OB la off,(.slice 0 0 16 false 0 0,[.row (lN (WB la off)) 103 1]))]
 |_,_=>none
theorem wds_ok(args:List V)(s:St)(l:List (Bool×(V×St)))(v:V)(n:St)(h:wdsT okB fB args s=some l)(ho:aC l=some (v,n)):(∀b∈s,am b.cs=true)∧FnSat Tryd.prog 86 args s (fun u st=>Fits 0 [v] n [some u] st):=by
 unfold wdsT at h;split at h
 ·rename_i off m c z la;cases h;cases hk2:(Nat.beq m 64&&okB la off)with
  |false=>rw[hk2]at ho;cases ho
  |true=>
   rw[hk2]at ho;cases ho;rw[Bool.and_eq_true]at hk2;have hm:=Nat.eq_of_beq_eq_true hk2.1;have hk:=hk2.2;subst hm;refine⟨by simp[Blk.cs,jH hk],(lookR_ok (R:=fun u st=>Fits 0 [.slice 0 0 16 false 0 0] [.row (lN (fB la off)) 103 1] [some u] (vis u st)) (lk:=ac 18) (aR 18 1 _) ?_).mono fun u st hq=>fits_vis hq⟩;rw[rwds_tree];refine aa (ad (i:=0) hk (by decide)).1 (aa (ad (i:=0) hk (by decide)).2 ?_);refine aa (ad (i:=1) hk (by decide)).1 (aa (ad (i:=1) hk (by decide)).2 ?_);refine aa (ad (i:=2) hk (by decide)).1 (aa (ad (i:=2) hk (by decide)).2 ?_);refine aa (ad (i:=3) hk (by decide)).1 (aa (ad (i:=3) hk (by decide)).2 ?_);refine aa (ad (i:=4) hk (by decide)).1 (aa (ad (i:=4) hk (by decide)).2 ?_);refine aa (ad (i:=5) hk (by decide)).1 (aa (ad (i:=5) hk (by decide)).2 ?_);refine aa (ad (i:=6) hk (by decide)).1 (aa (ad (i:=6) hk (by decide)).2 ?_);refine aa (ad (i:=7) hk (by decide)).1 (aa (ad (i:=7) hk (by decide)).2 ?_);refine aa (ad (i:=8) hk (by decide)).1 (aa (ad (i:=8) hk (by decide)).2 ?_);refine aa (ad (i:=9) hk (by decide)).1 (aa (ad (i:=9) hk (by decide)).2 ?_);refine aa (ad (i:=10) hk (by decide)).1 (aa (ad (i:=10) hk (by decide)).2 ?_);refine aa (ad (i:=11) hk (by decide)).1 (aa (ad (i:=11) hk (by decide)).2 ?_);refine aa (ad (i:=12) hk (by decide)).1 (aa (ad (i:=12) hk (by decide)).2 ?_);refine aa (ad (i:=13) hk (by decide)).1 (aa (ad (i:=13) hk (by decide)).2 ?_);refine aa (ad (i:=14) hk (by decide)).1 (aa (ad (i:=14) hk (by decide)).2 ?_);refine aa (ad (i:=15) hk (by decide)).1 (aa (ad (i:=15) hk (by decide)).2 ?_);refine aa (ad (i:=16) hk (by decide)).1 (aa (ad (i:=16) hk (by decide)).2 ?_);refine aa (ad (i:=17) hk (by decide)).1 (aa (ad (i:=17) hk (by decide)).2 ?_);refine aa (ad (i:=18) hk (by decide)).1 (aa (ad (i:=18) hk (by decide)).2 ?_);refine aa (ad (i:=19) hk (by decide)).1 (aa (ad (i:=19) hk (by decide)).2 ?_);refine aa (ad (i:=20) hk (by decide)).1 (aa (ad (i:=20) hk (by decide)).2 ?_);refine aa (ad (i:=21) hk (by decide)).1 (aa (ad (i:=21) hk (by decide)).2 ?_);refine aa (ad (i:=22) hk (by decide)).1 (aa (ad (i:=22) hk (by decide)).2 ?_);refine aa (ad (i:=23) hk (by decide)).1 (aa (ad (i:=23) hk (by decide)).2 ?_);refine aa (ad (i:=24) hk (by decide)).1 (aa (ad (i:=24) hk (by decide)).2 ?_);refine aa (ad (i:=25) hk (by decide)).1 (aa (ad (i:=25) hk (by decide)).2 ?_);refine aa (ad (i:=26) hk (by decide)).1 (aa (ad (i:=26) hk (by decide)).2 ?_);refine aa (ad (i:=27) hk (by decide)).1 (aa (ad (i:=27) hk (by decide)).2 ?_);refine aa (ad (i:=28) hk (by decide)).1 (aa (ad (i:=28) hk (by decide)).2 ?_);refine aa (ad (i:=29) hk (by decide)).1 (aa (ad (i:=29) hk (by decide)).2 ?_);refine aa (ad (i:=30) hk (by decide)).1 (aa (ad (i:=30) hk (by decide)).2 ?_);refine aa (ad (i:=31) hk (by decide)).1 (aa (ad (i:=31) hk (by decide)).2 ?_);refine aa (ad (i:=32) hk (by decide)).1 (aa (ad (i:=32) hk (by decide)).2 ?_);refine aa (ad (i:=33) hk (by decide)).1 (aa (ad (i:=33) hk (by decide)).2 ?_);refine aa (ad (i:=34) hk (by decide)).1 (aa (ad (i:=34) hk (by decide)).2 ?_);refine aa (ad (i:=35) hk (by decide)).1 (aa (ad (i:=35) hk (by decide)).2 ?_);refine aa (ad (i:=36) hk (by decide)).1 (aa (ad (i:=36) hk (by decide)).2 ?_);refine aa (ad (i:=37) hk (by decide)).1 (aa (ad (i:=37) hk (by decide)).2 ?_);refine aa (ad (i:=38) hk (by decide)).1 (aa (ad (i:=38) hk (by decide)).2 ?_);refine aa (ad (i:=39) hk (by decide)).1 (aa (ad (i:=39) hk (by decide)).2 ?_);refine aa (ad (i:=40) hk (by decide)).1 (aa (ad (i:=40) hk (by decide)).2 ?_);refine aa (ad (i:=41) hk (by decide)).1 (aa (ad (i:=41) hk (by decide)).2 ?_);refine aa (ad (i:=42) hk (by decide)).1 (aa (ad (i:=42) hk (by decide)).2 ?_);refine aa (ad (i:=43) hk (by decide)).1 (aa (ad (i:=43) hk (by decide)).2 ?_);refine aa (ad (i:=44) hk (by decide)).1 (aa (ad (i:=44) hk (by decide)).2 ?_);refine aa (ad (i:=45) hk (by decide)).1 (aa (ad (i:=45) hk (by decide)).2 ?_);refine aa (ad (i:=46) hk (by decide)).1 (aa (ad (i:=46) hk (by decide)).2 ?_);refine aa (ad (i:=47) hk (by decide)).1 (aa (ad (i:=47) hk (by decide)).2 ?_);refine aa (ad (i:=48) hk (by decide)).1 (aa (ad (i:=48) hk (by decide)).2 ?_);refine aa (ad (i:=49) hk (by decide)).1 (aa (ad (i:=49) hk (by decide)).2 ?_);refine aa (ad (i:=50) hk (by decide)).1 (aa (ad (i:=50) hk (by decide)).2 ?_);refine aa (ad (i:=51) hk (by decide)).1 (aa (ad (i:=51) hk (by decide)).2 ?_);refine aa (ad (i:=52) hk (by decide)).1 (aa (ad (i:=52) hk (by decide)).2 ?_);refine aa (ad (i:=53) hk (by decide)).1 (aa (ad (i:=53) hk (by decide)).2 ?_);refine aa (ad (i:=54) hk (by decide)).1 (aa (ad (i:=54) hk (by decide)).2 ?_);refine aa (ad (i:=55) hk (by decide)).1 (aa (ad (i:=55) hk (by decide)).2 ?_);refine aa (ad (i:=56) hk (by decide)).1 (aa (ad (i:=56) hk (by decide)).2 ?_);refine aa (ad (i:=57) hk (by decide)).1 (aa (ad (i:=57) hk (by decide)).2 ?_);refine aa (ad (i:=58) hk (by decide)).1 (aa (ad (i:=58) hk (by decide)).2 ?_);refine aa (ad (i:=59) hk (by decide)).1 (aa (ad (i:=59) hk (by decide)).2 ?_);refine aa (ad (i:=60) hk (by decide)).1 (aa (ad (i:=60) hk (by decide)).2 ?_);refine aa (ad (i:=61) hk (by decide)).1 (aa (ad (i:=61) hk (by decide)).2 ?_);refine aa (ad (i:=62) hk (by decide)).1 (aa (ad (i:=62) hk (by decide)).2 ?_);refine aa (ad (i:=63) hk (by decide)).1 (aa (ad (i:=63) hk (by decide)).2 ?_);exact⟨[32],[.slice 32 0 16 false 0 0],rfl,rfl,FitsM.of ⟨fb rfl rfl,trivial⟩,by decide,fun i hi=>by omega⟩
 ·cases h
noncomputable def RS1(F:Int→Int→Int):Tab:=⟨addT noT 87 (rrotT F),noL,aV 9⟩
theorem RS1_ok:TabOk3 Tryd.prog (RS1 rotI):=⟨bm aF rrot_ok,aG,ap 9⟩
noncomputable def zN_1(ws:List V)(i:Int):=ws.getD (0+(i64.wrap (i-15)).toNat*1) (V.bool false)
noncomputable def zN_2(ws:List V)(i:Int):=ws.getD (0+(i64.wrap (i-2)).toNat*1) (V.bool false)
noncomputable def zN_0(F:Int→Int→Int)(ws:List V)(i:Int):=[V.int u32 (u32.wrap (u32.wrap (u32.wrap (af (ws.getD (0+(i64.wrap (i-16)).toNat*1) (V.bool false))+af (ws.getD (0+(i64.wrap (i-7)).toNat*1) (V.bool false)))+u32.wrap (↑(BitVec.ofInt 32 (u32.wrap (↑(BitVec.ofInt 32 (F (af (zN_1 ws i)) 7)^^^BitVec.ofInt 32 (F (af (zN_1 ws i)) 18)).toNat:Int))^^^BitVec.ofInt 32 ((af (zN_1 ws i)).fdiv 8)).toNat:Int))+u32.wrap (↑(BitVec.ofInt 32 (u32.wrap (↑(BitVec.ofInt 32 (F (af (zN_2 ws i)) 17)^^^BitVec.ofInt 32 (F (af (zN_2 ws i)) 19)).toNat:Int))^^^BitVec.ofInt 32 ((af (zN_2 ws i)).fdiv 1024)).toNat:Int)))]
theorem rsch_round(F:Int→Int→Int)(hs key p ws:List V)(pl nw:Nat)(from' i:Int)(R:Exit→List (Option V)→St→Prop):ah Tryd.prog (RS1 F) 9 10 (ac 9) 41 129610 [3,4,5,7,8,9] [.slice 0 0 8 false 0 0,.slice 1 0 64 false 0 0,.slice 2 0 pl false 0 0,.int .i64 from',.slice 3 0 nw false 0 0,.int .i64 i] [.row hs 103 1,.row key 103 1,.row p 5 1,.row ws 103 1] R=
 (
 bif decide (i<64)then bif decide (0≤i64.wrap (i-15))&&decide (i64.wrap (i-15)<(↑nw:Int))then bif (0+(i64.wrap (i-
 15)).toNat*1).blt ws.length then bif aq u32 (zN_1 ws i)then bif decide (0≤i64.wrap (i-2))&&decide (i64.wrap (i-2)<(↑nw:
 Int))then bif (0+(i64.wrap (i-2)).toNat*1).blt ws.length then bif aq u32 (zN_2 ws i)then bif decide (0≤i64.wrap (i-16))
 &&decide (i64.wrap (i-16)<(↑nw:Int))then bif (0+(i64.wrap (i-16)).toNat*1).blt ws.length then bif aq u32 (ws.getD (0+
 (i64.wrap (i-16)).toNat*1) (.bool false))then bif decide (0≤i64.wrap (i-7))&&decide (i64.wrap (i-7)<(↑nw:Int))then bif
 (0+(i64.wrap (i-7)).toNat*1).blt ws.length then bif aq u32 (ws.getD (0+(i64.wrap (i-7)).toNat*1) (.bool false))then bif
 ws.length.beq (nw*1)then bif (nw+1).ble 9223372036854775807&&((nw+1)*4).ble 140737488355328 then R .normal [some (.slice 0 0 8 false 0 0),some
 (.slice 1 0 64 false 0 0),some (.slice 2 0 pl false 0 0),some (.int i64 from'),some (.slice 5 0 (nw+1) false 0 0),some (.int i64
 (i64.wrap (i+1)))] [.row hs 103 1,.row key 103 1,.row p 5 1,.dead,.row (zN_0 F ws i) 103 1,.row (ws++(zN_0 F ws i)) 103 1]
 else False else False else False else False else False else False else False else False else False else False else False else False else False else False else R
 (.exit 6) [some (.slice 0 0 8 false 0 0),some (.slice 1 0 64 false 0 0),some (.slice 2 0 pl false 0 0),some (.int i64 from'),some (.slice 3
 0 nw false 0 0),some (.int i64 i)] [.row hs 103 1,.row key 103 1,.row p 5 1,.row ws 103 1]):=by kernel_rfl
theorem jq:∀{ws:List V},cg ws=true→am ws=true
 |[],_=>rfl
 |v::r,h=>by
  unfold cg at h;rw[List.all_cons,Bool.and_eq_true]at h;have ih:am r=true:=jq (ws:=r) h.2;rw[am,ih,Bool.and_true];cases v<;>simp[aq]at h;rfl
theorem oZ{a b:List V}(h1:cg a=true)(h2:cg b=true):cg (a++b)=true:=by
 unfold cg at*
 rw[List.all_append,h1,h2];rfl
def schL:Nat→List V→List V
 |0,g=>g
 |n+1,g=>schL n (g++[.int .u32 (fR g g.length)])
theorem iW:∀(n:Nat) (g:List V),cg g=true→cg (schL n g)=true
 |0,_,h=>h
 |n+1,g,h=>iW n _ (oZ h rfl)
theorem lW:∀(n:Nat) (g:List V),(schL n g).length=g.length+n
 |0,_=>rfl
 |n+1,g=>by rw[schL,lW n,List.length_append];simp;omega
theorem lr{ws:List V}{j k:Nat}(h:k<j):wI (ws.take j) k=wI ws k:=by
 unfold wI;rw[List.getD_eq_getElem?_getD,List.getD_eq_getElem?_getD,List.getElem?_take,if_pos h]
theorem sch_blk(la:List V)(off:Nat):∀(n j:Nat) (ws:List V),ws.length=64→j+n=64→16≤j→blkL la off n j ws=schL n (ws.take j)
 |0,j,ws,hl,hj,h16=>by
  rw[blkL,schL,List.take_of_length_le (by omega)]
 |n+1,j,ws,hl,hj,h16=>by
  have h2:(cz j [V.int .u32 (iE la off ws j)] ws).length=ws.length:=by
   unfold cz;simp only[List.length_append,List.length_take,List.length_drop,List.length_cons,List.length_nil];omega
  rw[blkL,schL,sch_blk la off n (j+1) _ (by omega) (by omega) (by omega)];have hlt:(ws.take j).length=j:=by rw[List.length_take];omega
  have h3:fR (ws.take j) (ws.take j).length=iE la off ws j:=by
   rw[hlt];unfold iE fR;rw[if_neg (by omega),lr (by omega),lr (by omega),lr (by omega),lr (by omega)]
  rw[h3];congr 1;unfold cz;rw[List.take_append_of_le_length (by simp;omega),List.take_of_length_le (by simp;omega)]
theorem blkL_add(la:List V)(off m:Nat):∀(n j:Nat) (ws:List V),blkL la off (n+m) j ws=blkL la off m (j+n) (blkL la off n j ws)
 |0,j,ws=>by rw[Nat.zero_add];rfl
 |n+1,j,ws=>by
  have e:n+1+m=(n+m)+1:=by omega
  have e2:j+(n+1)=j+1+n:=by omega
  rw[e,e2,blkL,blkL,blkL_add la off m n]
theorem blk_len(la:List V)(off:Nat):∀(n j:Nat) (ws:List V),ws.length=64→j+n≤64→(blkL la off n j ws).length=64
 |0,j,ws,hl,_=>hl
 |n+1,j,ws,hl,hj=>by
  rw[blkL];refine blk_len la off n (j+1) _ ?_ (by omega);unfold cz;simp only[List.length_append,List.length_take,List.length_drop,List.length_cons,List.length_nil];omega
theorem blk_take(la:List V)(off:Nat):∀(n j:Nat) (ws:List V),ws.length=64→j+n≤16→(blkL la off n j ws).take (j+n)=ws.take j++(List.range' j n).map (fun i=>V.int .u32 (fB la off i))
 |0,j,ws,hl,_=>by rw[blkL,Nat.add_zero];simp
 |n+1,j,ws,hl,hj=>by
  have h2:(cz j [V.int .u32 (iE la off ws j)] ws).length=64:=by
   unfold cz;simp only[List.length_append,List.length_take,List.length_drop,List.length_cons,List.length_nil];omega
  have e:j+(n+1)=j+1+n:=by omega
  rw[blkL,e,blk_take la off n (j+1) _ h2 (by omega)];have h3:iE la off ws j=fB la off j:=by unfold iE;rw[if_pos (by omega)]
  rw[h3,List.range'_succ,List.map_cons];unfold cz;rw[List.take_append_of_le_length (by simp;omega),List.take_of_length_le (by simp;omega)];simp
theorem blk_first(la:List V)(off:Nat):(blkL la off 16 0 cZ).take 16=lN (fB la off):=by
 have h:=blk_take la off 16 0 cZ rfl (Nat.le_refl _);rw[Nat.zero_add]at h;rw[h];rfl
theorem nr(la:List V)(off:Nat):(blkL la off 16 0 cZ).length=64:=blk_len la off 16 0 cZ rfl (by decide)
theorem blk_sch(la:List V)(off:Nat):blkL la off 64 0 cZ=schL 48 (lN (fB la off)):=by
 rw[blkL_add la off 48 16 0,sch_blk la off 48 (0+16) _ (nr la off) rfl (Nat.le_refl _),Nat.zero_add,blk_first]
theorem cells_sch{la:List V}{off:Nat}:cn (blkA la off)=schL 48 (lN (fB la off)):=by
 unfold blkA blkF;rw[blk_sch];exact m4 (iW 48 _ rfl) (lW 48 _)
structure SC where
 hs:List V
 key:List V
 p:List V
 pl:Nat
 fr:Int
 ws:List V
def scV(y:SC):List V:=[.slice 0 0 8 false 0 0,.slice 1 0 64 false 0 0,.slice 2 0 y.pl false 0 0,.int .i64 y.fr,.slice 3 0 y.ws.length false 0 0,.int .i64 y.ws.length]
def scJ(y:SC):St:=[.row y.hs 103 1,.row y.key 103 1,.row y.p 5 1,.row y.ws 103 1]
def kI(y:SC):Bool:=(am y.hs&&am y.key&&am y.p)&&(cg y.ws&&(Nat.ble 16 y.ws.length&&Nat.ble y.ws.length 64))
def scMu(y:SC):Nat:=64-y.ws.length
def scOutG(SL:Nat→List V→List V):Asks SC:=fun y K=>∀g:List V,g=SL (64-y.ws.length) y.ws→K (.exit 6) [.slice 0 0 8 false 0 0,.slice 1 0 64 false 0 0,.slice 2 0 y.pl false 0 0,.int .i64 y.fr,.slice 3 0 64 false 0 0,.int .i64 64] [.row y.hs 103 1,.row y.key 103 1,.row y.p 5 1,.row g 103 1]
theorem pi{hs key p ws:List V}(h1:am hs=true)(h2:am key=true)(h3:am p=true)(h4:cg ws=true){a b c d:Nat}{st:St}(g1:st[a]?=some (.row hs 103 1))(g2:st[b]?=some (.row key 103 1))(g3:st[c]?=some (.row p 5 1))(g4:st[d]?=some (.row ws 103 1))(hd:[a,b,c,d].Nodup)(pl nw:Nat)(fr i:Int):
  Fits 0 [.slice 0 0 8 false 0 0,.slice 1 0 64 false 0 0,.slice 2 0 pl false 0 0,.int .i64 fr,.slice 3 0 nw false 0 0,.int .i64 i] [.row hs 103 1,.row key 103 1,.row p 5 1,.row ws 103 1]
   [some (.slice a 0 8 false 0 0),some (.slice b 0 64 false 0 0),some (.slice c 0 pl false 0 0),some (.int .i64 fr),some (.slice d 0 nw false 0 0),some (.int .i64 i)] st:=
 ⟨[a,b,c,d],[.slice a 0 8 false 0 0,.slice b 0 64 false 0 0,.slice c 0 pl false 0 0,.int .i64 fr,.slice d 0 nw false 0 0,.int .i64 i],rfl,rfl,FitsM.of ⟨fb h1 g1,fb h2 g2,fb h3 g3,fb (jq h4) g4,trivial⟩,hd,fun i hi=>by omega⟩
theorem sc_roundOk(y:SC)(hy:kI y=true):ah Tryd.prog (RS1 rotI) 9 10 (ac 9) 41 129610 [3,4,5,7,8,9] (scV y) (scJ y) (av 0 kI scV scJ scMu (scOutG schL) y):=by
 obtain⟨hs,key,p,pl,fr,ws⟩:=y;unfold kI at hy;rw[Bool.and_eq_true,Bool.and_eq_true,Bool.and_eq_true,Bool.and_eq_true,Bool.and_eq_true]at hy;have h1:am hs=true:=hy.1.1.1;have h2:am key=true:=hy.1.1.2;have h3:am p=true:=hy.1.2;have h4:cg ws=true:=hy.2.1;have h5:16≤ws.length:=Nat.le_of_ble_eq_true hy.2.2.1;have h6:ws.length≤64:=Nat.le_of_ble_eq_true hy.2.2.2;clear hy;show ah Tryd.prog (RS1 rotI) 9 10 (ac 9) 41 129610 [3,4,5,7,8,9] [.slice 0 0 8 false 0 0,.slice 1 0 64 false 0 0,.slice 2 0 pl false 0 0,.int .i64 fr,.slice 3 0 ws.length false 0 0,.int .i64 ws.length] [.row hs 103 1,.row key 103 1,.row p 5 1,.row ws 103 1] _;rw[rsch_round];unfold zN_0 zN_2 zN_1;cases hb:decide ((ws.length:Int)<64)with
 |true=>
  have hj:ws.length<64:=by have:=of_decide_eq_true hb;omega
  have w15:i64.wrap ((ws.length:Int)-15)=((ws.length-15:Nat):Int):=by rw[IntWalk.i64_in _ ⟨by omega,by omega⟩];omega
  have w2:i64.wrap ((ws.length:Int)-2)=((ws.length-2:Nat):Int):=by rw[IntWalk.i64_in _ ⟨by omega,by omega⟩];omega
  have w16:i64.wrap ((ws.length:Int)-16)=((ws.length-16:Nat):Int):=by rw[IntWalk.i64_in _ ⟨by omega,by omega⟩];omega
  have w7:i64.wrap ((ws.length:Int)-7)=((ws.length-7:Nat):Int):=by rw[IntWalk.i64_in _ ⟨by omega,by omega⟩];omega
  have e1:i64.wrap ((ws.length:Int)+1)=((ws.length+1:Nat):Int):=by rw[IntWalk.i64_in _ ⟨by omega,by omega⟩];omega
  rw[w15,w2,w16,w7,e1];simp only[Int.toNat_natCast];have s0:∀i:Nat,0+i*1=i:=fun i=>by omega
  simp only[s0];rw[cond_true];have k:∀i:Nat,i<ws.length→(decide ((0:Int)≤(i:Int))&&decide ((i:Int)<(ws.length:Int)))=true:=fun i hi=>by
   rw[Bool.and_eq_true];exact⟨decide_eq_true (by omega),decide_eq_true (by omega)⟩
  have q:∀i:Nat,i<ws.length→i.blt ws.length=true:=fun i hi=>Nat.ble_eq_true_of_le (by omega);refine aa (k _ (by omega)) (aa (q _ (by omega)) (aa (cM h4 (by omega)) ?_));refine aa (k _ (by omega)) (aa (q _ (by omega)) (aa (cM h4 (by omega)) ?_));refine aa (k _ (by omega)) (aa (q _ (by omega)) (aa (cM h4 (by omega)) ?_));refine aa (k _ (by omega)) (aa (q _ (by omega)) (aa (cM h4 (by omega)) ?_));refine aa (by rw[Nat.mul_one];exact Nat.beq_refl _) (aa (by rw[Bool.and_eq_true];exact⟨Nat.ble_eq_true_of_le (by omega),Nat.ble_eq_true_of_le (by omega)⟩) ?_);have fin:∀x:V,x=.int .u32 (fR ws ws.length)→av 0 kI scV scJ scMu (scOutG schL) ⟨hs,key,p,pl,fr,ws⟩ .normal [some (.slice 0 0 8 false 0 0),some (.slice 1 0 64 false 0 0),some (.slice 2 0 pl false 0 0),some (.int .i64 fr),some (.slice 5 0 (ws.length+1) false 0 0),some (.int .i64 ((ws.length+1:Nat):Int))] [.row hs 103 1,.row key 103 1,.row p 5 1,.dead,.row [x] 103 1,.row (ws++[x]) 103 1]:=by
   intro x hx;subst hx;have ha:cg (ws++[V.int .u32 (fR ws ws.length)])=true:=oZ h4 rfl;have hl:(ws++[V.int .u32 (fR ws ws.length)]).length=ws.length+1:=by rw[List.length_append];rfl
   refine⟨⟨hs,key,p,pl,fr,ws++[.int .u32 (fR ws ws.length)]⟩,?_,?_,?_,fun K hK g hg=>hK g ?_⟩
   ·unfold kI;rw[Bool.and_eq_true,Bool.and_eq_true,Bool.and_eq_true,Bool.and_eq_true,Bool.and_eq_true];exact⟨⟨⟨h1,h2⟩,h3⟩,ha,Nat.ble_eq_true_of_le (by rw[hl];omega),Nat.ble_eq_true_of_le (by rw[hl];omega)⟩
   ·show Fits 0 [.slice 0 0 8 false 0 0,.slice 1 0 64 false 0 0,.slice 2 0 pl false 0 0,.int .i64 fr,.slice 3 0 (ws++[V.int .u32 (fR ws ws.length)]).length false 0 0,.int .i64 ((ws++[V.int .u32 (fR ws ws.length)]).length:Nat)] _ _ _;rw[hl];exact pi h1 h2 h3 ha rfl rfl rfl rfl (by decide) _ _ _ _
   ·show 64-(ws++[V.int .u32 (fR ws ws.length)]).length<64-ws.length;rw[hl];omega
   ·have hg:g=schL (64-(ws++[V.int .u32 (fR ws ws.length)]).length) (ws++[V.int .u32 (fR ws ws.length)]):=hg;rw[hl]at hg;show g=schL (64-ws.length) ws;have e:64-ws.length=(64-(ws.length+1))+1:=by omega
    rw[e,hg];rfl
  exact fin _ rfl
 |false=>
  have hj:ws.length=64:=by have:=of_decide_eq_false hb;omega
  refine⟨[.slice 0 0 8 false 0 0,.slice 1 0 64 false 0 0,.slice 2 0 pl false 0 0,.int .i64 fr,.slice 3 0 64 false 0 0,.int .i64 64],[.row hs 103 1,.row key 103 1,.row p 5 1,.row ws 103 1],fun K hK=>hK ws ?_,?_⟩
  ·show ws=schL (64-ws.length) ws;rw[hj];rfl
  ·rw[hj];exact pi h1 h2 h3 h4 rfl rfl rfl rfl (by decide) _ _ _ _
def scDec:List (Option V)→St→Option SC
 |[some (.slice a 0 8 false 0 0),some (.slice b 0 64 false 0 0),some (.slice c 0 pl false 0 0),some (.int .i64 fr),some (.slice d 0 16 false 0 0),some (.int .i64 16)],st=>
  match st[a]?,st[b]?,st[c]?,st[d]? with
  |some (.row hs _ _),some (.row key _ _),some (.row p _ _),some (.row ws _ _)=>some ⟨hs,key,p,pl,fr,ws⟩
  |_,_,_,_=>none
 |_,_=>none
noncomputable def zO_0:=[V.int u32 1116352408,V.int u32 1899447441,V.int u32 3049323471,V.int u32 3921009573,V.int u32 961987163,V.int u32 1508970993,V.int u32 2453635748,V.int u32 2870763221,V.int u32 3624381080,V.int u32 310598401,V.int u32 607225278,V.int u32 1426881987,V.int u32 1925078388,V.int u32 2162078206,V.int u32 2614888103,V.int u32 3248222580,V.int u32 3835390401,V.int u32 4022224774,V.int u32 264347078,V.int u32 604807628,V.int u32 770255983,V.int u32 1249150122,V.int u32 1555081692,V.int u32 1996064986,V.int u32 2554220882,V.int u32 2821834349,V.int u32 2952996808,V.int u32 3210313671,V.int u32 3336571891,V.int u32 3584528711,V.int u32 113926993,V.int u32 338241895,V.int u32 666307205,V.int u32 773529912,V.int u32 1294757372,V.int u32 1396182291,V.int u32 1695183700,V.int u32 1986661051,V.int u32 2177026350,V.int u32 2456956037,V.int u32 2730485921,V.int u32 2820302411,V.int u32 3259730800,V.int u32 3345764771,V.int u32 3516065817,V.int u32 3600352804,V.int u32 4094571909,V.int u32 275423344,V.int u32 430227734,V.int u32 506948616,V.int u32 659060556,V.int u32 883997877,V.int u32 958139571,V.int u32 1322822218,V.int u32 1537002063,V.int u32 1747873779,V.int u32 1955562222,V.int u32 2024104815,V.int u32 2227730452,V.int u32 2361852424,V.int u32 2428436474,V.int u32 2756734187,V.int u32 3204031479,V.int u32 3329325298]
noncomputable def zO_1(F:Int→Int→Int)(ws:List V)(i v4 v5 v6 v7:Int):=(u32.wrap (u32.wrap (u32.wrap (v7+u32.wrap (↑(BitVec.ofInt 32 (u32.wrap (↑(BitVec.ofInt 32 (F (v4) 6)^^^BitVec.ofInt 32 (F (v4) 11)).toNat:Int))^^^BitVec.ofInt 32 (F (v4) 25)).toNat:Int))+u32.wrap (↑(BitVec.ofInt 32 (u32.wrap (↑(BitVec.ofInt 32 (v4)&&&BitVec.ofInt 32 (v5)).toNat:Int))|||BitVec.ofInt 32 (u32.wrap (↑(BitVec.ofInt 32 (u32.wrap (↑(BitVec.ofInt 32 4294967295^^^BitVec.ofInt 32 (v4)).toNat:Int))&&&BitVec.ofInt 32 (v6)).toNat:Int))).toNat:Int))+af (zO_0.getD (0+i.toNat*1) (V.bool false)))+af (ws.getD (0+i.toNat*1) (V.bool false)))
theorem rmix_round(F:Int→Int→Int)(hs p ws:List V)(pl nw:Nat)(from' i:Int)(v0 v1 v2 v3 v4 v5 v6 v7:Int)(R:Exit→List (Option V)→St→Prop):ah Tryd.prog (RS1 F) 9 10 (ac 9) 41 518458 [3,4,5,7,8,12,13] [.slice 0 0 8 false 0 0,.slice 1 0 64 false 0 0,.slice 2 0 pl false 0 0,.int .i64 from',.slice 3 0 nw false 0 0,.slice 4 0 8 false 0 0,.int .i64 i] [.row hs 103 1,.row keyC 103 1,.row p 5 1,.row ws 103 1,.row [.int .u32 v0,.int .u32 v1,.int .u32 v2,.int .u32 v3,.int .u32 v4,.int .u32 v5,.int .u32 v6,.int .u32 v7] 103 1] R=
 (
 bif decide (i<64)then bif decide (0≤i)&&decide (i<64)then bif (0+i.toNat*1).blt 64 then bif aq u32 (zO_0.getD (0+i.toNat*1) (.bool
 false))then bif decide (0≤i)&&decide (i<(↑nw:Int))then bif (0+i.toNat*1).blt ws.length then bif aq u32 (ws.getD (0+i.toNat*1)
 (.bool false))then R .normal [some (.slice 0 0 8 false 0 0),some (.slice 1 0 64 false 0 0),some (.slice 2 0 pl false 0 0),some (.int i64
 from'),some (.slice 3 0 nw false 0 0),some (.slice 6 0 8 false 0 0),some (.int i64 (i64.wrap (i+1)))] [.row hs 103 1,.row zO_0 103
 1,.row p 5 1,.row ws 103 1,.row [.int u32 v0,.int u32 v1,.int u32 v2,.int u32 v3,.int u32 v4,.int
 u32 v5,.int u32 v6,.int u32 v7] 103 1,.dead,.row [.int u32 (u32.wrap (u32.wrap (zO_1 F ws i v4 v5 v6
 v7)+u32.wrap (u32.wrap (↑(BitVec.ofInt 32 (u32.wrap (↑(BitVec.ofInt 32 (F (v0) 2)^^^BitVec.ofInt 32 (F (v0) 13)).toNat:Int))^^^
 BitVec.ofInt 32 (F (v0) 22)).toNat:Int)+u32.wrap (↑(BitVec.ofInt 32 (u32.wrap (↑(BitVec.ofInt 32 (u32.wrap (↑(BitVec.ofInt 32 (v0)
 &&&BitVec.ofInt 32 (v1)).toNat:Int))|||BitVec.ofInt 32 (u32.wrap (↑(BitVec.ofInt 32 (v0)&&&BitVec.ofInt 32 (v2)).toNat:Int))).toNat:Int))|||
 BitVec.ofInt 32 (u32.wrap (↑(BitVec.ofInt 32 (v1)&&&BitVec.ofInt 32 (v2)).toNat:Int))).toNat:Int)))),.int u32 v0,.int u32 v1,
 .int u32 v2,.int u32 (u32.wrap (v3+u32.wrap (zO_1 F ws i v4 v5 v6 v7))),.int u32 v4,.int u32 v5,.int
 u32 v6] 103 1]else False else False else False else False else False else False else R (.exit 8) [some (.slice 0 0 8 false 0 0),some (.slice 1 0
 64 false 0 0),some (.slice 2 0 pl false 0 0),some (.int i64 from'),some (.slice 3 0 nw false 0 0),some (.slice 4 0 8 false 0 0),some (.int
 i64 i)] [.row hs 103 1,.row zO_0 103 1,.row p 5 1,.row ws 103 1,.row [.int u32 v0,.int u32 v1,.int u32
 v2,.int u32 v3,.int u32 v4,.int u32 v5,.int u32 v6,.int u32 v7] 103 1]):=by kernel_rfl
theorem fK(z:BitVec 32):BitVec.ofInt 32 (u32.wrap ((z.toNat:Nat):Int))=z:=by
 have h:=z.isLt;rw[IntWalk.u32_in _ ⟨by omega,by omega⟩,BitVec.ofInt_natCast,BitVec.ofNat_toNat,BitVec.setWidth_eq]
theorem ch_bv(E F G:BitVec 32):(E&&&F)|||((BitVec.allOnes 32^^^E)&&&G)=(E&&&F)^^^((BitVec.allOnes 32^^^E)&&&G):=by
 apply BitVec.eq_of_getLsbD_eq;intro i hi;simp only[BitVec.getLsbD_or,BitVec.getLsbD_and,BitVec.getLsbD_xor,BitVec.getLsbD_allOnes,hi,decide_true];cases E.getLsbD i<;>cases F.getLsbD i<;>cases G.getLsbD i<;>rfl
theorem maj_bv(A B C:BitVec 32):((A&&&B)|||(A&&&C))|||(B&&&C)=((A&&&B)^^^(A&&&C))^^^(B&&&C):=by
 apply BitVec.eq_of_getLsbD_eq;intro i hi;simp only[BitVec.getLsbD_or,BitVec.getLsbD_and,BitVec.getLsbD_xor];cases A.getLsbD i<;>cases B.getLsbD i<;>cases C.getLsbD i<;>rfl
theorem ch_or(e f g:Int):orI (andI e f) (andI (xorI 4294967295 e) g)=xorI (andI e f) (andI (xorI 4294967295 e) g):=by
 have h:BitVec.ofInt 32 4294967295=BitVec.allOnes 32:=by decide
 unfold orI xorI andI;rw[fK,fK,fK,h,ch_bv]
theorem maj_or(a b c:Int):orI (orI (andI a b) (andI a c)) (andI b c)=xorI (xorI (andI a b) (andI a c)) (andI b c):=by
 unfold orI xorI andI;rw[fK,fK,fK,fK,fK,maj_bv]
def tO(e f g h k w:Int):Int:=addI (addI (addI (addI h (xorI (xorI (rotI e 6) (rotI e 11)) (rotI e 25))) (orI (andI e f) (andI (xorI 4294967295 e) g))) k) w
def uO(a b c:Int):Int:=addI (xorI (xorI (rotI a 2) (rotI a 13)) (rotI a 22)) (orI (orI (andI a b) (andI a c)) (andI b c))
theorem tO_eq(e f g h k w:Int):tO e f g h k w=tI e f g h k w:=by unfold tO tI;rw[ch_or]
theorem uO_eq(a b c:Int):uO a b c=uI a b c:=by unfold uO uI;rw[maj_or]
def mixO(x:W8)(k w:Int):W8:=⟨addI (tO x.e x.f x.g x.h k w) (uO x.a x.b x.c),x.a,x.b,x.c,addI x.d (tO x.e x.f x.g x.h k w),x.e,x.f,x.g⟩
theorem mixO_eq(x:W8)(k w:Int):mixO x k w=mixR x k w:=by unfold mixO mixR;rw[tO_eq,uO_eq]
structure MD where
 hs:List V
 p:List V
 pl:Nat
 fr:Int
 ws:List V
 x:W8
 i:Nat
def mdV(y:MD):List V:=[.slice 0 0 8 false 0 0,.slice 1 0 64 false 0 0,.slice 2 0 y.pl false 0 0,.int .i64 y.fr,.slice 3 0 64 false 0 0,.slice 4 0 8 false 0 0,.int .i64 y.i]
def mdJ(y:MD):St:=[.row y.hs 103 1,.row keyC 103 1,.row y.p 5 1,.row y.ws 103 1,.row y.x.cells 103 1]
def kT(y:MD):Bool:=(am y.hs&&am y.p)&&(cg y.ws&&(Nat.beq y.ws.length 64&&Nat.ble y.i 64))
def mdMu(y:MD):Nat:=64-y.i
def mdOutG(ML:Nat→Nat→List V→W8→W8):Asks MD:=fun y K=>∀x:W8,x=ML (64-y.i) y.i y.ws y.x→K (.exit 8) [.slice 0 0 8 false 0 0,.slice 1 0 64 false 0 0,.slice 2 0 y.pl false 0 0,.int .i64 y.fr,.slice 3 0 64 false 0 0,.slice 4 0 8 false 0 0,.int .i64 64] [.row y.hs 103 1,.row keyC 103 1,.row y.p 5 1,.row y.ws 103 1,.row x.cells 103 1]
theorem fa:am keyC=true:=by decide+kernel
theorem pL{hs p ws:List V}{x:W8}(h1:am hs=true)(h3:am p=true)(h4:cg ws=true){a b c d e:Nat}{st:St}(g1:st[a]?=some (.row hs 103 1))(g2:st[b]?=some (.row keyC 103 1))(g3:st[c]?=some (.row p 5 1))(g4:st[d]?=some (.row ws 103 1))(g5:st[e]?=some (.row x.cells 103 1))(hd:[a,b,c,d,e].Nodup)(pl nw:Nat)(fr i:Int):
  Fits 0 [.slice 0 0 8 false 0 0,.slice 1 0 64 false 0 0,.slice 2 0 pl false 0 0,.int .i64 fr,.slice 3 0 nw false 0 0,.slice 4 0 8 false 0 0,.int .i64 i] [.row hs 103 1,.row keyC 103 1,.row p 5 1,.row ws 103 1,.row x.cells 103 1]
   [some (.slice a 0 8 false 0 0),some (.slice b 0 64 false 0 0),some (.slice c 0 pl false 0 0),some (.int .i64 fr),some (.slice d 0 nw false 0 0),some (.slice e 0 8 false 0 0),some (.int .i64 i)] st:=
 ⟨[a,b,c,d,e],[.slice a 0 8 false 0 0,.slice b 0 64 false 0 0,.slice c 0 pl false 0 0,.int .i64 fr,.slice d 0 nw false 0 0,.slice e 0 8 false 0 0,.int .i64 i],rfl,rfl,FitsM.of ⟨fb h1 g1,fb fa g2,fb h3 g3,fb (jq h4) g4,fb rfl g5,trivial⟩,hd,fun i hi=>by omega⟩
theorem md_roundOk(y:MD)(hy:kT y=true):ah Tryd.prog (RS1 rotI) 9 10 (ac 9) 41 518458 [3,4,5,7,8,12,13] (mdV y) (mdJ y) (av 0 kT mdV mdJ mdMu (mdOutG mixL) y):=by
 obtain⟨hs,p,pl,fr,ws,x,i⟩:=y;unfold kT at hy;rw[Bool.and_eq_true,Bool.and_eq_true,Bool.and_eq_true,Bool.and_eq_true]at hy;have h1:am hs=true:=hy.1.1;have h3:am p=true:=hy.1.2;have h4:cg ws=true:=hy.2.1;have h5:ws.length=64:=Nat.eq_of_beq_eq_true hy.2.2.1;have h6:i≤64:=Nat.le_of_ble_eq_true hy.2.2.2;clear hy;show ah Tryd.prog (RS1 rotI) 9 10 (ac 9) 41 518458 [3,4,5,7,8,12,13] [.slice 0 0 8 false 0 0,.slice 1 0 64 false 0 0,.slice 2 0 pl false 0 0,.int .i64 fr,.slice 3 0 64 false 0 0,.slice 4 0 8 false 0 0,.int .i64 i] [.row hs 103 1,.row keyC 103 1,.row p 5 1,.row ws 103 1,.row [.int .u32 x.a,.int .u32 x.b,.int .u32 x.c,.int .u32 x.d,.int .u32 x.e,.int .u32 x.f,.int .u32 x.g,.int .u32 x.h] 103 1] _;rw[rmix_round];unfold zO_1 zO_0;cases hb:decide ((i:Int)<64)with
 |true=>
  have hj:i<64:=by have:=of_decide_eq_true hb;omega
  have e1:i64.wrap ((i:Int)+1)=((i+1:Nat):Int):=by rw[IntWalk.i64_in _ ⟨by omega,by omega⟩];omega
  have c1:(decide ((0:Int)≤(i:Int))&&true)=true:=by rw[Bool.and_true];exact decide_eq_true (by omega)
  have c4:∀i:Fin 64,aq .u32 (keyC.getD i.val (.bool false))=true:=by decide+kernel
  have c5:=c4 ⟨i,hj⟩;have e0:0+i*1=i:=by omega
  have c6:i.blt keyC.length=true:=Nat.ble_eq_true_of_le (by show i+1≤64;omega);have c7:(decide ((0:Int)≤(i:Int))&&decide ((i:Int)<((64:Nat):Int)))=true:=by rw[Bool.and_eq_true];exact⟨decide_eq_true (by omega),decide_eq_true (by omega)⟩
  rw[Int.toNat_natCast,e1,e0,cond_true];refine aa c1 (aa c6 (aa c5 (aa c1 (aa (Nat.ble_eq_true_of_le (by omega)) (aa (cM h4 (by omega)) ?_)))));have fin:∀cs:List V,cs=(mixO x (keyI i) (wI ws i)).cells→av 0 kT mdV mdJ mdMu (mdOutG mixL) ⟨hs,p,pl,fr,ws,x,i⟩ .normal [some (.slice 0 0 8 false 0 0),some (.slice 1 0 64 false 0 0),some (.slice 2 0 pl false 0 0),some (.int .i64 fr),some (.slice 3 0 64 false 0 0),some (.slice 6 0 8 false 0 0),some (.int .i64 ((i+1:Nat):Int))] [.row hs 103 1,.row keyC 103 1,.row p 5 1,.row ws 103 1,.row x.cells 103 1,.dead,.row cs 103 1]:=by
   intro cs hx;rw[mixO_eq]at hx;subst hx;refine⟨⟨hs,p,pl,fr,ws,mixR x (keyI i) (wI ws i),i+1⟩,?_,?_,?_,fun K hK g hg=>hK g ?_⟩
   ·unfold kT;rw[Bool.and_eq_true,Bool.and_eq_true,Bool.and_eq_true,Bool.and_eq_true];exact⟨⟨h1,h3⟩,h4,by rw[h5];rfl,Nat.ble_eq_true_of_le hj⟩
   ·exact pL h1 h3 h4 rfl rfl rfl rfl rfl (by decide) _ _ _ _
   ·simp only[mdMu];omega
   ·have hg:g=mixL (64-(i+1)) (i+1) ws (mixR x (keyI i) (wI ws i)):=hg;show g=mixL (64-i) i ws x;have e:64-i=(64-(i+1))+1:=by omega
    rw[e,hg];rfl
  exact fin _ rfl
 |false=>
  have hj:i=64:=by have:=of_decide_eq_false hb;omega
  subst hj;refine⟨[.slice 0 0 8 false 0 0,.slice 1 0 64 false 0 0,.slice 2 0 pl false 0 0,.int .i64 fr,.slice 3 0 64 false 0 0,.slice 4 0 8 false 0 0,.int .i64 64],[.row hs 103 1,.row keyC 103 1,.row p 5 1,.row ws 103 1,.row x.cells 103 1],fun K hK=>hK x rfl,?_⟩;exact pL h1 h3 h4 rfl rfl rfl rfl rfl (by decide) _ _ _ _
def mdDec:List (Option V)→St→Option MD
 |[some (.slice a 0 8 false 0 0),some (.slice b 0 64 false 0 0),some (.slice c 0 pl false 0 0),some (.int .i64 fr),some (.slice d 0 64 false 0 0),some (.slice e 0 8 false 0 0),some (.int .i64 0)],st=>
  match st[a]?,st[c]?,st[d]?,st[e]? with
  |some (.row hs _ _),some (.row p _ _),some (.row ws _ _),some (.row [.int .u32 a1,.int .u32 a2,.int .u32 a3,.int .u32 a4,.int .u32 a5,.int .u32 a6,.int .u32 a7,.int .u32 a8] _ _)=>some ⟨hs,p,pl,fr,ws,⟨a1,a2,a3,a4,a5,a6,a7,a8⟩,0⟩
  |_,_,_,_=>none
 |_,_=>none
noncomputable def RS2(OB:List V→Nat→Bool)(WB:List V→Nat→Nat→Int):Tab:=⟨noT,addM noL 86 (wdsT OB WB),aV 9⟩
theorem RS2_ok:TabOk3 Tryd.prog (RS2 okB fB):=⟨aF,qt aG wds_ok,ap 9⟩
noncomputable def lkIn(SL:Nat→List V→List V)(ML:Nat→Nat→List V→W8→W8):Nat→Trans→Trans:=aU 129610 (bp 0 (szOf Tryd.prog 41) [3,4,5,7,8,9] scDec kI scV scJ (scOutG SL)) (aU 518458 (bp 0 (szOf Tryd.prog 41) [3,4,5,7,8,12,13] mdDec kT mdV mdJ (mdOutG ML)) (ac 9))
theorem rpad_round(s:List UInt8)(hs key cs:List V)(k:Nat)(R:Exit→List (Option V)→St→Prop):ah Tryd.prog RS0 9 10 (ac 9) 41 60 [0,3,4,5] [.str s,.slice 0 0 8 false 0 0,.slice 1 0 64 false 0 0,.slice 2 0 k false 0 0] [.row hs 103 1,.row key 103 1,.row cs 5 1] R=
  (
 bif (↑k:Int).tmod 64!=56 then bif cs.length.beq (k*1)then bif (k+1).ble 9223372036854775807&&((k+1)*1).ble 140737488355328 then R .normal [some (.str
 s),some (.slice 0 0 8 false 0 0),some (.slice 1 0 64 false 0 0),some (.slice 4 0 (k+1) false 0 0)] [.row hs 103 1,.row key 103 1,.dead,.row [.int
 u8 0] 5 1,.row (cs++[V.int u8 0]) 5 1]else False else False else R (.exit 0) [some (.str s),some (.slice 0 0 8 false 0 0),some (.slice 1 0
 64 false 0 0),some (.slice 2 0 k false 0 0)] [.row hs 103 1,.row key 103 1,.row cs 5 1]):=by kernel_rfl
noncomputable def zP_2(fr:Nat):=(0+(↑fr:Int).toNat*1)
noncomputable def zP_0(WB:List V→Nat→Nat→Int)(la:List V)(fr:Nat):=[V.int u32 (WB la (zP_2 fr) 0),V.int u32 (WB la (zP_2 fr) 1),V.int u32 (WB la (zP_2 fr) 2),V.int u32 (WB la (zP_2 fr) 3),V.int u32 (WB la (zP_2 fr) 4),V.int u32 (WB la (zP_2 fr) 5),V.int u32 (WB la (zP_2 fr) 6),V.int u32 (WB la (zP_2 fr) 7),V.int u32 (WB la (zP_2 fr) 8),V.int u32 (WB la (zP_2 fr) 9),V.int u32 (WB la (zP_2 fr) 10),V.int u32 (WB la (zP_2 fr) 11),V.int u32 (WB la (zP_2 fr) 12),V.int u32 (WB la (zP_2 fr) 13),V.int u32 (WB la (zP_2 fr) 14),V.int u32 (WB la (zP_2 fr) 15)]
noncomputable def zP_1(a b c d e f g h:Int):=[V.int u32 a,V.int u32 b,V.int u32 c,V.int u32 d,V.int u32 e,V.int u32 f,V.int u32 g,V.int u32 h]
theorem rblk_round(OB:List V→Nat→Bool)(WB:List V→Nat→Nat→Int)(SL:Nat→List V→List V)(ML:Nat→Nat→List V→W8→W8)(a b c d e f g h:Int)(key la:List V)(pl fr:Nat)(R:Exit→List (Option V)→St→Prop):ah Tryd.prog (RS2 OB WB) 9 10 (lkIn SL ML) 41 506 [3,4,5,7] [.slice 0 0 8 false 0 0,.slice 1 0 64 false 0 0,.slice 2 0 pl false 0 0,.int .i64 fr] [.row [.int .u32 a,.int .u32 b,.int .u32 c,.int .u32 d,.int .u32 e,.int .u32 f,.int .u32 g,.int .u32 h] 103 1,.row key 103 1,.row la 5 1] R=
 (
 bif decide ((↑fr:Int)<(↑pl:Int))then bif decide (0≤i64.wrap ((↑fr:Int)+64))then bif (↑fr:Int).toNat.ble (i64.wrap ((↑fr:Int)+
 64)).toNat&&(i64.wrap ((↑fr:Int)+64)).toNat.ble pl then bif ((i64.wrap ((↑fr:Int)+64)).toNat-(↑fr:Int).toNat).beq 64&&OB la (zP_2
 fr)then Fits 0 [.slice 0 0 8 false 0 0,.slice 1 0 64 false 0 0,.slice 2 0 pl false 0 0,.int i64 (↑fr:Int),.slice 3 0 16 false 0 0,.int
 i64 16] [.row (zP_1 a b c d e f g h) 103 1,.row key 103 1,.row la 5 1,.row (zP_0 WB la fr) 103 1] [some (.slice 0 0 8 false 0 0),some
 (.slice 1 0 64 false 0 0),some (.slice 2 0 pl false 0 0),some (.int i64 (↑fr:Int)),some (.slice 3 0 16 false 0 0),some (.int i64 16)]
 [.row (zP_1 a b c d e f g h) 103 1,.row key 103 1,.row la 5 1,.row (zP_0 WB la fr) 103 1]∧bif kI
 {hs:=(zP_1 a b c d e f g h),key:=key,p:=la,pl:=pl,fr:=(↑fr:Int),ws:=(zP_0 WB la fr)}then ∀(g_1:List V),g_1=SL 48 (zP_0 WB la fr)→
 Fits 0 [.slice 0 0 8 false 0 0,.slice 1 0 64 false 0 0,.slice 2 0 pl false 0 0,.int i64 (↑fr:Int),.slice 3 0 64 false 0 0,.slice 4 0 8 false
 0 0,.int i64 0] [.row (zP_1 a b c d e f g h) 103 1,.row keyC 103 1,.row la 5 1,.row g_1 103 1,.row (zP_1 a b c d e f g h) 103 1]
 [some (.slice 0 0 8 false 0 0),some (.slice 1 0 64 false 0 0),some (.slice 2 0 pl false 0 0),some (.int i64 (↑fr:Int)),some (.slice 3 0 64
 false 0 0),some (.slice 5 0 8 false 0 0),some (.int i64 0)] [.row (zP_1 a b c d e f g h) 103 1,.row key 103 1,.row la 5 1,.row g_1 103
 1,.dead,.row (zP_1 a b c d e f g h) 103 1]∧bif kT
 {hs:=(zP_1 a b c d e f g h),p:=la,pl:=pl,fr:=(↑fr:Int),ws:=g_1,x:={a:=a,b:=b,c:=c,d:=d,e:=e,f:=f,g:=g,h:=h},i:=0}
 then ∀(x:W8),x=ML 64 0 g_1 {a:=a,b:=b,c:=c,d:=d,e:=e,f:=f,g:=g,h:=h}→R .normal [some (.slice 0 0 8 false 0 0),some
 (.slice 1 0 64 false 0 0),some (.slice 2 0 pl false 0 0),some (.int i64 (i64.wrap ((↑fr:Int)+64)))] [.row [.int u32
 (u32.wrap (a+x.a)),.int u32 (u32.wrap (b+x.b)),.int u32 (u32.wrap (c+x.c)),.int u32 (u32.wrap
 (d+x.d)),.int u32 (u32.wrap (e+x.e)),.int u32 (u32.wrap (f+x.f)),.int u32 (u32.wrap (g+x.g)),.int
 u32 (u32.wrap (h+x.h))] 103 1,.row keyC 103 1,.row la 5 1,.row g_1 103 1,.row [.int u32 x.a,.int u32 x.b,
 .int u32 x.c,.int u32 x.d,.int u32 x.e,.int u32 x.f,.int u32 x.g,.int u32 x.h] 103 1]else False else
 False else False else False else False else R (.exit 4) [some (.slice 0 0 8 false 0 0),some (.slice 1 0 64 false 0 0),some (.slice 2 0 pl false 0 0),
 some (.int i64 (↑fr:Int))] [.row (zP_1 a b c d e f g h) 103 1,.row key 103 1,.row la 5 1]):=by kernel_rfl
theorem dZ(a b:Int):addI a b=addI b a:=by unfold addI;rw[Int.add_comm]
theorem lkIn_ok:cp Tryd.prog none 0 (lkIn schL mixL) (2*506) (bH Tryd.prog 41 506):=by
 unfold lkIn;refine bU _ _ (bU _ _ (aQ 9 _ _) fun c' hc f st Q h=>?_) fun c' hc f st Q h=>?_
 ·rw[show aT 518458 (2*506) (bH Tryd.prog 41 506)=[bH Tryd.prog 41 518458] by kernel_rfl]at hc;obtain rfl:=List.mem_singleton.1 hc;exact aW (P:=Tryd.prog) (T:=RS1 rotI) (k:=0) (lim:=9) (n:=10) (g:=41) (p0:=518458) (lk:=ac 9) ax RS1_ok (aQ 9 _ _) mdMu md_roundOk h
 ·rw[show aT 129610 (2*506) (bH Tryd.prog 41 506)=[bH Tryd.prog 41 129610] by kernel_rfl]at hc;obtain rfl:=List.mem_singleton.1 hc;exact aW (P:=Tryd.prog) (T:=RS1 rotI) (k:=0) (lim:=9) (n:=10) (g:=41) (p0:=129610) (lk:=ac 9) ax RS1_ok (aQ 9 _ _) scMu sc_roundOk h
structure PD where
 s:List UInt8
 hs:List V
 key:List V
 cs:List V
def pdV(x:PD):List V:=[.str x.s,.slice 0 0 8 false 0 0,.slice 1 0 64 false 0 0,.slice 2 0 x.cs.length false 0 0]
def pdJ(x:PD):St:=[.row x.hs 103 1,.row x.key 103 1,.row x.cs 5 1]
def kP(x:PD):Bool:=(am x.hs&&am x.key)&&(am x.cs&&Nat.ble (x.cs.length+dxN x.cs.length) 1000000)
def pdMu(x:PD):Nat:=dxN x.cs.length
def pdOutG(FP:List V→List V):Asks PD:=fun x K=>∀p:List V,p=FP x.cs→K (.exit 0) [.str x.s,.slice 0 0 8 false 0 0,.slice 1 0 64 false 0 0,.slice 2 0 p.length false 0 0] [.row x.hs 103 1,.row x.key 103 1,.row p 5 1]
def pdDec:List (Option V)→St→Option PD
 |[some (.str s),some (.slice a 0 8 false 0 0),some (.slice b 0 64 false 0 0),some (.slice c 0 _ false 0 0)],st=>
  match st[a]?,st[b]?,st[c]? with
  |some (.row hs _ _),some (.row key _ _),some (.row cs _ _)=>some ⟨s,hs,key,cs⟩
  |_,_,_=>none
 |_,_=>none
theorem pA(s:List UInt8){hs key cs:List V}(h1:am hs=true)(h2:am key=true)(h3:am cs=true)(k:Nat){a b c:Nat}{st:St}(g1:st[a]?=some (.row hs 103 1))(g2:st[b]?=some (.row key 103 1))(g3:st[c]?=some (.row cs 5 1))(hd:[a,b,c].Nodup):Fits 0 [.str s,.slice 0 0 8 false 0 0,.slice 1 0 64 false 0 0,.slice 2 0 k false 0 0] [.row hs 103 1,.row key 103 1,.row cs 5 1] [some (.str s),some (.slice a 0 8 false 0 0),some (.slice b 0 64 false 0 0),some (.slice c 0 k false 0 0)] st:=
 ⟨[a,b,c],[.str s,.slice a 0 8 false 0 0,.slice b 0 64 false 0 0,.slice c 0 k false 0 0],rfl,rfl,FitsM.of ⟨fb h1 g1,fb h2 g2,fb h3 g3,trivial⟩,hd,fun i hi=>by omega⟩
theorem pd_roundOk(x:PD)(hx:kP x=true):ah Tryd.prog RS0 9 10 (ac 9) 41 60 [0,3,4,5] (pdV x) (pdJ x) (av 0 kP pdV pdJ pdMu (pdOutG dxP) x):=by
 obtain⟨s,hs,key,cs⟩:=x;unfold kP at hx;rw[Bool.and_eq_true,Bool.and_eq_true,Bool.and_eq_true]at hx;have h1:am hs=true:=hx.1.1;have h2:am key=true:=hx.1.2;have p1:am cs=true:=hx.2.1;have p2:cs.length+dxN cs.length≤1000000:=Nat.le_of_ble_eq_true hx.2.2;clear hx;show ah Tryd.prog RS0 9 10 (ac 9) 41 60 [0,3,4,5] [.str s,.slice 0 0 8 false 0 0,.slice 1 0 64 false 0 0,.slice 2 0 cs.length false 0 0] [.row hs 103 1,.row key 103 1,.row cs 5 1] _;generalize hn:cs.length=n at*
 rw[rpad_round];have hm:(n:Int).tmod 64=((n%64:Nat):Int):=by rw[Int.tmod_eq_emod_of_nonneg (by omega)];omega
 rw[hm];refine ab (fun h=>?_) (fun h=>?_)
 ·have h:n%64≠56:=by
   intro h0;rw[h0]at h;simp at h
  have p3:dxN n=dxN (n+1)+1:=by unfold dxN;omega
  refine aa (by rw[Nat.mul_one,hn];exact Nat.beq_refl _) (aa (by rw[Bool.and_eq_true];exact⟨Nat.ble_eq_true_of_le (by omega),Nat.ble_eq_true_of_le (by omega)⟩) ?_);have hl:(cs++[V.int .u8 0]).length=n+1:=by rw[List.length_append,hn];rfl
  have hf:am (cs++[V.int .u8 0])=true:=iw p1 rfl;refine⟨⟨s,hs,key,cs++[.int .u8 0]⟩,?_,?_,?_,fun K hK=>?_⟩
  ·unfold kP;rw[Bool.and_eq_true,Bool.and_eq_true,Bool.and_eq_true];refine⟨⟨h1,h2⟩,hf,Nat.ble_eq_true_of_le ?_⟩;show(cs++[V.int .u8 0]).length+dxN (cs++[V.int .u8 0]).length≤1000000;rw[hl];omega
  ·show Fits 0 [.str s,.slice 0 0 8 false 0 0,.slice 1 0 64 false 0 0,.slice 2 0 (cs++[V.int .u8 0]).length false 0 0] _ _ _;rw[hl];exact pA s h1 h2 hf _ rfl rfl rfl (by decide)
  ·show dxN (cs++[V.int .u8 0]).length<dxN cs.length;rw[hl,hn];omega
  ·have:dxP (cs++[.int .u8 0])=dxP cs:=by
    unfold dxP;rw[hl,hn,List.append_assoc];rw[p3,List.replicate_succ];rfl
   exact fun p hp=>hK p (hp.trans this)
 ·have h:n%64=56:=by
   have:((n%64:Nat):Int)=56:=by simpa using h
   omega
  refine⟨[.str s,.slice 0 0 8 false 0 0,.slice 1 0 64 false 0 0,.slice 2 0 n false 0 0],[.row hs 103 1,.row key 103 1,.row cs 5 1],fun K hK=>?_,pA s h1 h2 p1 _ rfl rfl rfl (by decide)⟩;have:dxP cs=cs:=by
   unfold dxP;have:dxN cs.length=0:=by rw[hn];unfold dxN;omega
   rw[this,List.replicate_zero,List.append_nil]
  have hK:=hK cs this.symm;rw[hn]at hK;exact hK
theorem pd_loop{f:Fr}{st:St}{Q:Exit→Fr→St→Prop}(h:bp 0 (szOf Tryd.prog 41) [0,3,4,5] pdDec kP pdV pdJ (pdOutG dxP) f st Q):CodeSatW Tryd.prog none 0 (.loop (bH Tryd.prog 41 60)) f st Q:=
 aW (P:=Tryd.prog) (T:=RS0) (k:=0) (lim:=9) (n:=10) (g:=41) (p0:=60) (lk:=ac 9) ax qu (aQ 9 _ _) pdMu pd_roundOk h
structure BD where
 la:List V
 x:W8
 fr:Nat
def bdV(y:BD):List V:=[.slice 0 0 8 false 0 0,.slice 1 0 64 false 0 0,.slice 2 0 y.la.length false 0 0,.int .i64 y.fr]
def bdJ(y:BD):St:=[.row y.x.cells 103 1,.row keyC 103 1,.row y.la 5 1]
def j0(y:BD):Bool:=okA y.la&&(Nat.ble y.la.length 1000000&&(Nat.ble y.fr y.la.length&&(Nat.beq (y.la.length%64) 0&&Nat.beq (y.fr%64) 0)))
def bdMu(y:BD):Nat:=y.la.length-y.fr
def qj(SL:Nat→Nat→List V→W8→W8):Asks BD:=fun y K=>∀x:W8,x=SL ((y.la.length-y.fr)/64) y.fr y.la y.x→∀fr:Int,K (.exit 4) [.slice 0 0 8 false 0 0,.slice 1 0 64 false 0 0,.slice 2 0 y.la.length false 0 0,.int .i64 fr] [.row x.cells 103 1,.dead,.dead]
theorem bd_fits(x:W8){la:List V}(h3:am la=true){a b c:Nat}{st:St}(g1:st[a]?=some (.row x.cells 103 1))(g2:st[b]?=some (.row keyC 103 1))(g3:st[c]?=some (.row la 5 1))(hd:[a,b,c].Nodup)(k:Nat)(fr:Int):Fits 0 [.slice 0 0 8 false 0 0,.slice 1 0 64 false 0 0,.slice 2 0 k false 0 0,.int .i64 fr] [.row x.cells 103 1,.row keyC 103 1,.row la 5 1] [some (.slice a 0 8 false 0 0),some (.slice b 0 64 false 0 0),some (.slice c 0 k false 0 0),some (.int .i64 fr)] st:=
 ⟨[a,b,c],[.slice a 0 8 false 0 0,.slice b 0 64 false 0 0,.slice c 0 k false 0 0,.int .i64 fr],rfl,rfl,FitsM.of ⟨fb rfl g1,fb fa g2,fb h3 g3,trivial⟩,hd,fun i hi=>by omega⟩
theorem bd_out(x:W8)(la:List V)(k:Nat)(fr:Int):Fits 0 [.slice 0 0 8 false 0 0,.slice 1 0 64 false 0 0,.slice 2 0 k false 0 0,.int .i64 fr] [.row x.cells 103 1,.dead,.dead] [some (.slice 0 0 8 false 0 0),some (.slice 1 0 64 false 0 0),some (.slice 2 0 k false 0 0),some (.int .i64 fr)] [.row x.cells 103 1,.row keyC 103 1,.row la 5 1]:=
 ⟨[0,1,2],[.slice 0 0 8 false 0 0,.slice 1 0 64 false 0 0,.slice 2 0 k false 0 0,.int .i64 fr],rfl,rfl,FitsM.of ⟨fb rfl rfl,.inl rfl,.inl rfl,trivial⟩,by decide,fun i hi=>by omega⟩
theorem bd_roundOk(y:BD)(hy:j0 y=true):ah Tryd.prog (RS2 okB fB) 9 10 (lkIn schL mixL) 41 506 [3,4,5,7] (bdV y) (bdJ y) (av 0 j0 bdV bdJ bdMu (qj sumL) y):=by
 obtain⟨la,x,fr⟩:=y;unfold j0 at hy;rw[Bool.and_eq_true,Bool.and_eq_true,Bool.and_eq_true,Bool.and_eq_true]at hy;have p1:okA la=true:=hy.1;have p2:la.length≤1000000:=Nat.le_of_ble_eq_true hy.2.1;have p3:fr≤la.length:=Nat.le_of_ble_eq_true hy.2.2.1;have p4:la.length%64=0:=Nat.eq_of_beq_eq_true hy.2.2.2.1;have p5:fr%64=0:=Nat.eq_of_beq_eq_true hy.2.2.2.2;clear hy;have hf:am la=true:=by have h:=p1;unfold okA at h;rw[Bool.and_eq_true]at h;exact h.1
 show ah Tryd.prog (RS2 okB fB) 9 10 (lkIn schL mixL) 41 506 [3,4,5,7] [.slice 0 0 8 false 0 0,.slice 1 0 64 false 0 0,.slice 2 0 la.length false 0 0,.int .i64 fr] [.row [.int .u32 x.a,.int .u32 x.b,.int .u32 x.c,.int .u32 x.d,.int .u32 x.e,.int .u32 x.f,.int .u32 x.g,.int .u32 x.h] 103 1,.row keyC 103 1,.row la 5 1] _;rw[rblk_round];unfold zP_1 zP_0 zP_2;refine ab (fun hb=>?_) (fun hb=>?_)
 ·have hb:=of_decide_eq_true hb;have hl:fr+64≤la.length:=by omega
  have e1:i64.wrap ((fr:Int)+64)=((fr+64:Nat):Int):=by rw[IntWalk.i64_in _ ⟨by omega,by omega⟩];omega
  have e0:0+fr*1=fr:=by omega
  rw[e1];simp only[Int.toNat_natCast,e0];refine aa (decide_eq_true (by omega)) (aa (by rw[Bool.and_eq_true];exact⟨Nat.ble_eq_true_of_le (by omega),Nat.ble_eq_true_of_le (by omega)⟩) (aa ?_ ?_))
  ·rw[Bool.and_eq_true];refine⟨?_,okA_B p1 hl⟩;have:fr+64-fr=64:=by omega
   rw[this];rfl
  refine⟨pi (ws:=lN (fB la fr)) rfl fa hf rfl rfl rfl rfl rfl (by decide) _ _ _ _,aa ?_ fun g hg=>?_⟩
  ·unfold kI;rw[Bool.and_eq_true,Bool.and_eq_true,Bool.and_eq_true];exact⟨⟨⟨rfl,fa⟩,hf⟩,rfl⟩
  have hg:g=schL 48 (lN (fB la fr)):=hg;have g1:cg g=true:=by rw[hg];exact iW 48 _ rfl
  have g2:g.length=64:=by rw[hg];exact lW 48 _
  refine⟨pL (x:=x) rfl hf g1 rfl rfl rfl rfl rfl (by decide) _ _ _ _,aa ?_ fun x' hx=>?_⟩
  ·unfold kT;rw[Bool.and_eq_true,Bool.and_eq_true,Bool.and_eq_true,Bool.and_eq_true];exact⟨⟨rfl,hf⟩,g1,by rw[g2];rfl,rfl⟩
  have hx:x'=mixL 64 0 (cn (blkA la fr)) x:=by rw[hx,hg,cells_sch]
  have fin:∀cs:List V,cs=(mixE x (cn (blkA la fr))).cells→∀r:St,av 0 j0 bdV bdJ bdMu (qj sumL) ⟨la,x,fr⟩ .normal [some (.slice 0 0 8 false 0 0),some (.slice 1 0 64 false 0 0),some (.slice 2 0 la.length false 0 0),some (.int .i64 ((fr+64:Nat):Int))] (.row cs 103 1::.row keyC 103 1::.row la 5 1::r):=by
   intro cs hcs r;subst hcs;refine⟨⟨la,mixE x (cn (blkA la fr)),fr+64⟩,?_,?_,?_,fun K hK z hz=>hK z ?_⟩
   ·unfold j0;rw[Bool.and_eq_true,Bool.and_eq_true,Bool.and_eq_true,Bool.and_eq_true];refine⟨p1,Nat.ble_eq_true_of_le p2,Nat.ble_eq_true_of_le hl,?_,?_⟩
    ·show Nat.beq (la.length%64) 0=true;rw[p4];rfl
    ·show Nat.beq ((fr+64)%64) 0=true;have:(fr+64)%64=0:=by omega
     rw[this];rfl
   ·exact bd_fits _ hf rfl rfl rfl (by decide) _ _
   ·simp only[bdMu];omega
   ·have hz:z=sumL ((la.length-(fr+64))/64) (fr+64) la (mixE x (cn (blkA la fr))):=hz;show z=sumL ((la.length-fr)/64) fr la x;have e:(la.length-fr)/64=(la.length-(fr+64))/64+1:=by omega
    rw[e,hz];rfl
  refine fin _ ?_ _;unfold mixE;rw[←hx];rw[dZ x'.a,dZ x'.b,dZ x'.c,dZ x'.d,dZ x'.e,dZ x'.f,dZ x'.g,dZ x'.h];rfl
 ·have hb:=of_decide_eq_false hb;have hl:fr=la.length:=by omega
  refine⟨[.slice 0 0 8 false 0 0,.slice 1 0 64 false 0 0,.slice 2 0 la.length false 0 0,.int .i64 fr],[.row x.cells 103 1,.dead,.dead],fun K hK=>?_,bd_out x la _ _⟩;refine hK x ?_ fr;show x=sumL ((la.length-fr)/64) fr la x;rw[hl,Nat.sub_self,Nat.zero_div];rfl
def bdDec:List (Option V)→St→Option BD
 |[some (.slice a 0 8 false 0 0),some (.slice b 0 64 false 0 0),some (.slice c 0 _ false 0 0),some (.int .i64 0)],st=>
  match st[a]?,st[c]? with
  |some (.row [.int .u32 a1,.int .u32 a2,.int .u32 a3,.int .u32 a4,.int .u32 a5,.int .u32 a6,.int .u32 a7,.int .u32 a8] _ _),some (.row la _ _)=>some ⟨la,⟨a1,a2,a3,a4,a5,a6,a7,a8⟩,0⟩
  |_,_=>none
 |_,_=>none
theorem bd_loop{f:Fr}{st:St}{Q:Exit→Fr→St→Prop}(h:bp 0 (szOf Tryd.prog 41) [3,4,5,7] bdDec j0 bdV bdJ (qj sumL) f st Q):CodeSatW Tryd.prog none 0 (.loop (bH Tryd.prog 41 506)) f st Q:=
 aW (P:=Tryd.prog) (T:=RS2 okB fB) (k:=0) (lim:=9) (n:=10) (g:=41) (p0:=506) (lk:=lkIn schL mixL) ax RS2_ok lkIn_ok bdMu bd_roundOk h
noncomputable def lkRS(FP:List V→List V)(SL:Nat→Nat→List V→W8→W8):Nat→Trans→Trans:=aU 506 (bp 0 (szOf Tryd.prog 41) [3,4,5,7] bdDec j0 bdV bdJ (qj SL)) (aU 60 (bp 0 (szOf Tryd.prog 41) [0,3,4,5] pdDec kP pdV pdJ (pdOutG FP)) (ac 10))
theorem lkRS_ok:aE Tryd.prog 0 (lkRS dxP sumL) 41:=by
 unfold lkRS;exact bt (bt (aR 10 0 41) (by kernel_rfl) fun f st Q h=>pd_loop h) (by kernel_rfl) fun f st Q h=>bd_loop h
noncomputable def RS3(FP:List V→List V)(SL:Nat→Nat→List V→W8→W8):Tab:=⟨noT,noL,cG (aV 10) 41 0 (lkRS FP SL)⟩
theorem RS3_ok:TabOk3 Tryd.prog (RS3 dxP sumL):=⟨aF,aG,bn (ap 10) lkRS_ok⟩
noncomputable def zQ_0(s:List UInt8):=(u64.wrap (u64.wrap (↑s.length:Int)*8))
noncomputable def zQ_1:=[V.int u32 1779033703,V.int u32 3144134277,V.int u32 1013904242,V.int u32 2773480762,V.int u32 1359893119,V.int u32 2600822924,V.int u32 528734635,V.int u32 1541459225]
noncomputable def zQ_2(s:List UInt8):=[V.int u8 (u8.wrap ((zQ_0 s).fdiv 72057594037927936))]
noncomputable def zQ_3(s:List UInt8):=[V.int u8 (u8.wrap ((zQ_0 s).fdiv 281474976710656))]
noncomputable def zQ_4(s:List UInt8):=[V.int u8 (u8.wrap ((zQ_0 s).fdiv 1099511627776))]
noncomputable def zQ_5(s:List UInt8):=[V.int u8 (u8.wrap ((zQ_0 s).fdiv 4294967296))]
noncomputable def zQ_6(s:List UInt8):=[V.int u8 (u8.wrap ((zQ_0 s).fdiv 16777216))]
noncomputable def zQ_7(s:List UInt8):=[V.int u8 (u8.wrap ((zQ_0 s).fdiv 65536))]
noncomputable def zQ_8(s:List UInt8):=[V.int u8 (u8.wrap ((zQ_0 s).fdiv 256))]
noncomputable def zQ_9(s:List UInt8):=[V.int u8 (u8.wrap ((zQ_0 s).fdiv 1))]
theorem rsum_tree(FP:List V→List V)(SL:Nat→Nat→List V→W8→W8)(s:List UInt8)(R:V→Prop):runW Tryd.prog (RS3 FP SL) 10 10 41 [.str s] R=
 (
 bif s.length.ble 281474976710656 then bif (List.map (fun b=>V.int u8 (↑b.toNat:Int)) s).length.beq (s.length*1)then bif (s.length+1).ble
 9223372036854775807&&((s.length+1)*1).ble 140737488355328 then Fits 0 [.str s,.slice 0 0 8 false 0 0,.slice 1 0 64 false 0 0,.slice 2 0 (List.map
 (fun b=>V.int u8 (↑b.toNat:Int)) s++[V.int u8 128]).length false 0 0] [.row zQ_1 103 1,.row keyC 103 1,.row (List.map (fun b=>
 .int u8 (↑b.toNat:Int)) s++[V.int u8 128]) 5 1] [some (.str s),some (.slice 0 0 8 false 0 0),some (.slice 1 0 64 false 0 0),some
 (.slice 4 0 (s.length+1) false 0 0)] [.row zQ_1 103 1,.row keyC 103 1,.dead,.row [.int u8 128] 5 1,.row (List.map (fun b=>V.int
 u8 (↑b.toNat:Int)) s++[V.int u8 128]) 5 1]∧bif kP
 {s:=s,hs:=zQ_1,key:=keyC,cs:=List.map (fun b=>V.int u8 (↑b.toNat:Int)) s++[V.int u8 128]}then ∀(p:List V),p=FP
 (List.map (fun b=>V.int u8 (↑b.toNat:Int)) s++[V.int u8 128])→bif p.length.beq (p.length*1)then bif (p.length+1).ble
 9223372036854775807&&((p.length+1)*1).ble 140737488355328 then bif (p++(zQ_2 s)).length.beq ((p.length+1)*1)then bif (p.length+1+1).ble
 9223372036854775807&&((p.length+1+1)*1).ble 140737488355328 then bif (p++(zQ_2 s)++(zQ_3 s)).length.beq ((p.length+1+1)*1)then bif (p.length+
 1+1+1).ble 9223372036854775807&&((p.length+1+1+1)*1).ble 140737488355328 then bif (p++(zQ_2 s)++(zQ_3 s)++(zQ_4 s)).length.beq ((p.length+1
 +1+1)*1)then bif (p.length+1+1+1+1).ble 9223372036854775807&&((p.length+1+1+1+1)*1).ble 140737488355328 then bif (p++(zQ_2 s)++
 (zQ_3 s)++(zQ_4 s)++(zQ_5 s)).length.beq ((p.length+1+1+1+1)*1)then bif (p.length+1+1+1+1+1).ble 9223372036854775807&&((p.length+1+
 1+1+1+1)*1).ble 140737488355328 then bif (p++(zQ_2 s)++(zQ_3 s)++(zQ_4 s)++(zQ_5 s)++(zQ_6 s)).length.beq ((p.length+1+1+1+1+1)*1)
 then bif (p.length+1+1+1+1+1+1).ble 9223372036854775807&&((p.length+1+1+1+1+1+1)*1).ble 140737488355328 then bif (p++(zQ_2 s)++
 (zQ_3 s)++(zQ_4 s)++(zQ_5 s)++(zQ_6 s)++(zQ_7 s)).length.beq ((p.length+1+1+1+1+1+1)*1)then bif (p.length+1+1+1+1+1+1+1).ble
 9223372036854775807&&((p.length+1+1+1+1+1+1+1)*1).ble 140737488355328 then bif (p++(zQ_2 s)++(zQ_3 s)++(zQ_4 s)++(zQ_5 s)++(zQ_6 s)
 ++(zQ_7 s)++(zQ_8 s)).length.beq ((p.length+1+1+1+1+1+1+1)*1)then bif (p.length+1+1+1+1+1+1+1+1).ble 9223372036854775807&&
 ((p.length+1+1+1+1+1+1+1+1)*1).ble 140737488355328 then Fits 0 [.slice 0 0 8 false 0 0,.slice 1 0 64 false 0 0,.slice 2 0 (p++(zQ_2 s)
 ++(zQ_3 s)++(zQ_4 s)++(zQ_5 s)++(zQ_6 s)++(zQ_7 s)++(zQ_8 s)++(zQ_9 s)).length false 0 0,.int i64 0] [.row zQ_1 103 1,.row keyC 103
 1,.row (p++(zQ_2 s)++(zQ_3 s)++(zQ_4 s)++(zQ_5 s)++(zQ_6 s)++(zQ_7 s)++(zQ_8 s)++(zQ_9 s)) 5 1] [some (.slice 0 0 8 false 0 0),some
 (.slice 1 0 64 false 0 0),some (.slice 18 0 (p.length+1+1+1+1+1+1+1+1) false 0 0),some (.int i64 0)] [.row zQ_1 103 1,.row
 keyC 103 1,.dead,.row (zQ_2 s) 5 1,.dead,.row (zQ_3 s) 5 1,.dead,.row (zQ_4 s) 5 1,.dead,.row (zQ_5 s) 5 1,.dead,.row
 (zQ_6 s) 5 1,.dead,.row (zQ_7 s) 5 1,.dead,.row (zQ_8 s) 5 1,.dead,.row (zQ_9 s) 5 1,.row (p++(zQ_2 s)++(zQ_3 s)++(zQ_4 s)++
 (zQ_5 s)++(zQ_6 s)++(zQ_7 s)++(zQ_8 s)++(zQ_9 s)) 5 1]∧bif j0
 {la:=p++(zQ_2 s)++(zQ_3 s)++(zQ_4 s)++(zQ_5 s)++(zQ_6 s)++(zQ_7 s)++(zQ_8 s)++(zQ_9 s),x:={a:=1779033703,b:=3144134277,c:=1013904242,d:=2773480762,e:=1359893119,f:=2600822924,g:=528734635,h:=1541459225},fr:=0}
 then ∀(x:W8),x=SL (((p++(zQ_2 s)++(zQ_3 s)++(zQ_4 s)++(zQ_5 s)++(zQ_6 s)++(zQ_7 s)++(zQ_8 s)++(zQ_9 s)).length-0)/64) 0 (p++(zQ_2 s)
 ++(zQ_3 s)++(zQ_4 s)++(zQ_5 s)++(zQ_6 s)++(zQ_7 s)++(zQ_8 s)++(zQ_9 s))
 {a:=1779033703,b:=3144134277,c:=1013904242,d:=2773480762,e:=1359893119,f:=2600822924,g:=528734635,h:=1541459225}→∀(fr:Int),R
 (.str (List.map Vm.byteOf [.int u8 (u8.wrap (x.a.fdiv 16777216)),.int u8 (u8.wrap (x.a.fdiv 65536)),.int u8
 (u8.wrap (x.a.fdiv 256)),.int u8 (u8.wrap x.a),.int u8 (u8.wrap (x.b.fdiv 16777216)),.int u8
 (u8.wrap (x.b.fdiv 65536)),.int u8 (u8.wrap (x.b.fdiv 256)),.int u8 (u8.wrap x.b),.int u8 (u8.wrap
 (x.c.fdiv 16777216)),.int u8 (u8.wrap (x.c.fdiv 65536)),.int u8 (u8.wrap (x.c.fdiv 256)),.int u8 (u8.wrap
 x.c),.int u8 (u8.wrap (x.d.fdiv 16777216)),.int u8 (u8.wrap (x.d.fdiv 65536)),.int u8 (u8.wrap (x.d.fdiv
 256)),.int u8 (u8.wrap x.d),.int u8 (u8.wrap (x.e.fdiv 16777216)),.int u8 (u8.wrap (x.e.fdiv 65536)),.int
 u8 (u8.wrap (x.e.fdiv 256)),.int u8 (u8.wrap x.e),.int u8 (u8.wrap (x.f.fdiv 16777216)),.int u8
 (u8.wrap (x.f.fdiv 65536)),.int u8 (u8.wrap (x.f.fdiv 256)),.int u8 (u8.wrap x.f),.int u8 (u8.wrap
 (x.g.fdiv 16777216)),.int u8 (u8.wrap (x.g.fdiv 65536)),.int u8 (u8.wrap (x.g.fdiv 256)),.int u8 (u8.wrap
 x.g),.int u8 (u8.wrap (x.h.fdiv 16777216)),.int u8 (u8.wrap (x.h.fdiv 65536)),.int u8 (u8.wrap (x.h.fdiv
 256)),.int u8 (u8.wrap x.h)]))else False else False else False else False else False else False else False else False else False else False
 else False else False else False else False else False else False else False else False else False else False else False):=by kernel_rfl
theorem rsum_ok(args:List V)(l:List (Bool×(V×St)))(o:V×St)(h:sumT args=some l)(ho:aC l=some o):FnSat Tryd.prog 41 args [] (Is o):=by
 unfold sumT at h;split at h
 ·rename_i s;cases h;cases hk:okL s with
  |false=>rw[hk]at ho;cases ho
  |true=>
  rw[hk]at ho;cases ho;have p1:=okL_le hk;have hc:okA (bys s++[V.int .u8 128])=true:=bW (okA_bys s) rfl;have hcl:(bys s++[V.int .u8 128]).length=s.length+1:=al (bys_len s);have hP:okA (padP s)=true:=bW hc (okA_rep _);have hPl:(padP s).length=s.length+1+dxN (s.length+1):=by unfold padP dxP;rw[List.length_append,List.length_replicate,hcl]
  have hN:dxN (s.length+1)<64:=by unfold dxN;omega
  have hM:(padP s).length%64=56:=by rw[hPl];unfold dxN;omega
  have hcf:am (bys s++[V.int .u8 128])=true:=by have h:=hc;unfold okA at h;rw[Bool.and_eq_true]at h;exact h.1
  refine au (lim:=10) (n:=10) ax RS3_ok rfl rfl ?_;rw[rsum_tree];unfold zQ_9 zQ_8 zQ_7 zQ_6 zQ_5 zQ_4 zQ_3 zQ_2 zQ_1 zQ_0;refine aa (Nat.ble_eq_true_of_le (by omega)) (bQ (bys_ln s) (by omega) ⟨?_,aa ?_ (fun p hp=>?_)⟩)
  ·have:=pA s (hs:=ivW.cells) (key:=keyC) (cs:=bys s++[V.int .u8 128]) rfl fa hcf (bys s++[V.int .u8 128]).length (a:=0) (b:=1) (c:=4) (st:=[.row ivW.cells 103 1,.row keyC 103 1,.dead,.row [.int .u8 128] 5 1,.row (bys s++[V.int .u8 128]) 5 1]) rfl rfl rfl (by decide);have hcl2:(List.map (fun b:UInt8=>V.int .u8 (b.toNat:Int)) s++[V.int .u8 128]).length=s.length+1:=hcl;rw[hcl2];rw[hcl]at this;exact this
  ·unfold kP;rw[Bool.and_eq_true,Bool.and_eq_true,Bool.and_eq_true];refine⟨⟨rfl,fa⟩,hcf,Nat.ble_eq_true_of_le ?_⟩;show(bys s++[V.int .u8 128]).length+dxN (bys s++[V.int .u8 128]).length≤1000000;rw[hcl];omega
  ·have hp:p=padP s:=hp;have hl:p.length≤200000:=by rw[hp];omega
   have hA:okA (la8 p s.length)=true:=by
    rw[hp];unfold la8;exact bW (bW (bW (bW (bW (bW (bW (bW hP rfl) rfl) rfl) rfl) rfl) rfl) rfl) rfl
   have hF:am (la8 p s.length)=true:=by have h:=hA;unfold okA at h;rw[Bool.and_eq_true]at h;exact h.1
   have hL:(la8 p s.length).length=p.length+1+1+1+1+1+1+1+1:=al (al (al (al (al (al (al (al rfl)))))));refine bQ rfl (by omega) (bQ (al rfl) (by omega) (bQ (al (al rfl)) (by omega) (bQ (al (al (al rfl))) (by omega) (bQ (al (al (al (al rfl)))) (by omega) (bQ (al (al (al (al (al rfl))))) (by omega) (bQ (al (al (al (al (al (al rfl)))))) (by omega) (bQ (al (al (al (al (al (al (al rfl))))))) (by omega) (?_))))))));refine⟨?_,aa ?_ (fun x hx fr=>?_)⟩
   ·have:=fun st g1 g2 g3=>bd_fits ivW (la:=la8 p s.length) hF (a:=0) (b:=1) (c:=18) (st:=st) g1 g2 g3 (by decide) (la8 p s.length).length 0;rw[hL]at this;have h2:(p++[lenD s.length 72057594037927936]++[lenD s.length 281474976710656]++[lenD s.length 1099511627776]++[lenD s.length 4294967296]++[lenD s.length 16777216]++[lenD s.length 65536]++[lenD s.length 256]++[lenD s.length 1]).length=p.length+1+1+1+1+1+1+1+1:=hL;unfold lenD at h2;rw[h2];exact this _ rfl rfl rfl
   ·unfold j0;rw[Bool.and_eq_true,Bool.and_eq_true,Bool.and_eq_true,Bool.and_eq_true];refine⟨hA,Nat.ble_eq_true_of_le ?_,Nat.ble_eq_true_of_le (Nat.zero_le _),?_,rfl⟩
    ·show(la8 p s.length).length≤1000000;rw[hL];omega
    ·show Nat.beq ((la8 p s.length).length%64) 0=true;have:(la8 p s.length).length%64=0:=by rw[hL,hp];omega
     rw[this];rfl
   ·have hx:x=sumL (((la8 p s.length).length-0)/64) 0 (la8 p s.length) ivW:=hx;have hx:x=sumW s:=by rw[hx,Nat.sub_zero,hL,hp];rfl
    rw[hx];rfl
 ·cases h
noncomputable def RG0:Tab:=⟨addT (addP noT 15 iF) 41 sumT,noL,aV 9⟩
theorem RG0_ok:TabOk3 Tryd.prog RG0:=⟨bm (aS aF l7) rsum_ok,aG,ap 9⟩
theorem rdg_tree(k:List UInt8)(R:V→Prop):runW Tryd.prog RG0 9 10 17 [.str k] R=
  (
 bif bF k==[]then R (.str [])else bif okL (bF k)then R (.str (sumF (bF k)))else False):=by kernel_rfl
theorem rdg_ok(args:List V)(v:V)(h:digP args=some v):FnSat Tryd.prog 17 args [] (Is (v,[])):=by
 unfold digP at h;split at h
 ·rename_i k;cases h;refine au (lim:=9) (n:=10) ax RG0_ok rfl rfl ?_;rw[rdg_tree];unfold digB;refine ab (fun h=>?_) (fun h=>?_)
  ·rw[h];rfl
  ·rw[h];have hk:okL (bF k)=true:=by
    refine decide_eq_true ?_;unfold bF;split
    ·simp
    ·split
     ·simp
     ·have h1:=bi 4 k;have h2:=bi 48 (putB 4 k);omega
   rw[hk];rfl
 ·cases h
structure RH where
 k:List UInt8
 g:List UInt8
 x:Value
 n:Nat
 cs:List V
 f:Int
 u:Int
 ca:Bool
 h:List UInt8
 i:Nat
end Go.Proofs.YtnenadbbhdcaoaaDoor
namespace Go.Proofs.YtnenadbbhdcaoaaDoor
open Go Go.Vm Go.RowKit
set_option linter.unusedVariables false
set_option maxRecDepth 100000
set_option linter.unusedSectionVars false
variable [Φ:Frz]
noncomputable def CTn:Tab:=CTL (gvOK cf) (gvB cf) (gpOK encG) (gpB encG) (gpE encG) (gpOK ew) (gpB ew) (gpE ew) (gvOK mayG) (gvB mayG) (gvOK ei) (gvB ei) (gvOK cf) (gvB cf) (gvB cf) tdOK
theorem CTn_ok:TabOk3 Tryd.prog CTn:=
 ⟨bm (aS (aS (aS (aS (aS aF worksF_ok) pc) l7) dig_ok) rdg_ok) lgP_ok,
 cH (cH (cH (cH (cH (cH (cH aG tdG_ok) (gp_ok encG_st encG_ok)) (gp_ok rencG_st rencG_ok)) (gv_ok mayG_st pM)) (gv_ok rcmayG_st nS)) (gv_ok l6 sameG_ok)) (gv_ok l6 nK),
 bn (ap 9) lkCO_ok⟩
section
variable {k g:List UInt8} {f u:Int} {ca:Bool} {p:V} {l:List (List UInt8)} {st:St}
theorem en_ok(h1:bq st p=some (true,l))(h3:l.length≤9223372036854775807):gpOK encG [.agg [.str k,.str g,p,.int .i64 f,.int .i64 u,.bool ca]] st=true:=by
 simp only[gpOK,encG,h1,Nat.ble_eq_true_of_le h3,Bool.and_self]
theorem en_b(h1:bq st p=some (true,l)):gpB encG [.agg [.str k,.str g,p,.int .i64 f,.int .i64 u,.bool ca]] st=encB k g l f u ca:=by
 simp only[gpB,encG,h1]
theorem en_e(h1:bq st p=some (true,l)):gpE encG [.agg [.str k,.str g,p,.int .i64 f,.int .i64 u,.bool ca]] st=encE k g l f u ca:=by
 simp only[gpE,encG,h1]
theorem rn_ok(h1:bq st p=some (true,l))(h3:l.length≤9223372036854775807)(h4:l.all aN=true):gpOK ew [.agg [.str k,.str g,p,.int .i64 f,.int .i64 u,.bool ca]] st=true:=by
 simp only[gpOK,ew,h1,h4,Nat.ble_eq_true_of_le h3,Bool.and_self]
theorem rn_b(h1:bq st p=some (true,l)):gpB ew [.agg [.str k,.str g,p,.int .i64 f,.int .i64 u,.bool ca]] st=encB k g l f u ca:=by
 simp only[gpB,ew,h1]
theorem rn_e(h1:bq st p=some (true,l)):gpE ew [.agg [.str k,.str g,p,.int .i64 f,.int .i64 u,.bool ca]] st=encE k g l f u ca:=by
 simp only[gpE,ew,h1]
theorem ma_ok(h1:bq st p=some (true,l))(h3:l.length≤9223372036854775807):gvOK mayG [.agg [.str k,.str g,p,.int .i64 f,.int .i64 u,.bool ca]] st=true:=by
 simp only[gvOK,mayG,h1,Nat.ble_eq_true_of_le h3,Bool.and_self]
theorem ma_b(h1:bq st p=some (true,l)):gvB mayG [.agg [.str k,.str g,p,.int .i64 f,.int .i64 u,.bool ca]] st=(mayC k g f u&&l.all patN):=by
 simp only[gvB,mayG,h1]
theorem rm_ok(h1:bq st p=some (true,l))(h3:l.length≤9223372036854775807)(h4:l.all aN=true):gvOK ei [.agg [.str k,.str g,p,.int .i64 f,.int .i64 u,.bool ca]] st=true:=by
 simp only[gvOK,ei,h1,h4,Nat.ble_eq_true_of_le h3,Bool.and_self]
theorem rm_b(h1:bq st p=some (true,l)):gvB ei [.agg [.str k,.str g,p,.int .i64 f,.int .i64 u,.bool ca]] st=(mayC k g f u&&l.all patN):=by
 simp only[gvB,ei,h1]
end
theorem sm_ok{k g k' g':List UInt8}{f u f' u':Int}{ca ca':Bool}{p q:V}{l l':List (List UInt8)}{st:St}(h1:bq st p=some (true,l))(h2:bq st q=some (true,l'))(h3:l.length≤9223372036854775807)(h4:l'.length≤9223372036854775807):gvOK cf [.agg [.str k,.str g,p,.int .i64 f,.int .i64 u,.bool ca],.agg [.str k',.str g',q,.int .i64 f',.int .i64 u',.bool ca']] st=true:=by
 simp only[gvOK,cf,h1,h2,Nat.ble_eq_true_of_le h3,Nat.ble_eq_true_of_le h4,Bool.and_self]
theorem encB_le(k g:List UInt8)(l:List (List UInt8))(f u:Int)(ca:Bool):(encB k g l f u ca).length≤512:=by
 unfold encB;cases dv k g l f u with
 |false=>exact Nat.zero_le _
 |true=>
  rw[cond_true];cases h:decide (((putB 48 (dk k g l f u ca)).length:Int)>512)with
  |true=>exact Nat.zero_le _
  |false=>rw[cond_false];have:=of_decide_eq_false h;omega
theorem lgN_ge:∀(l:List (List UInt8)) (n:Nat),n≤lgN n l
 |[],n=>Nat.le_refl _
 |s::r,n=>by
  unfold lgN;split
  ·have:=lgN_ge r (n+10+min 9000 s.length);omega
  ·exact Nat.le_refl _
theorem lgN_all:∀(l:List (List UInt8)) (n:Nat),lgN n l<9000→(∀s∈l,s.length<9000)∧n+10*l.length≤lgN n l
 |[],n,_=>⟨fun s hs=>(by cases hs),Nat.le_refl _⟩
 |a::r,n,h=>by
  unfold lgN at h ⊢;split at h
  ·rename_i hn;rw[if_pos hn];have h1:=lgN_ge r (n+10+min 9000 a.length);obtain⟨h2,h3⟩:=lgN_all r _ h;refine⟨fun s hs=>?_,by simp only[List.length_cons];omega⟩;rcases List.mem_cons.1 hs with rfl|hs
   ·omega
   ·exact h2 s hs
  ·omega
theorem lgB_small{k g:List UInt8}{l:List (List UInt8)}(h:lgB k g l=false):l.all aN=true∧l.length≤900:=by
 unfold lgB at h;have h:=of_decide_eq_false h;obtain⟨h1,h2⟩:=lgN_all l (min 9000 k.length+min 9000 g.length) (by omega);refine⟨?_,by omega⟩;rw[List.all_eq_true];intro s hs;have:=h1 s hs;exact decide_eq_true (by omega)
theorem ct_core(k g:List UInt8)(x:Value)(l:List (List UInt8))(f u:Int)(ca:Bool)(k' g':List UInt8)(y:Value)(l':List (List UInt8))(f' u':Int)(ca':Bool)(s:List UInt8)(hl:l.length≤9223372036854775807)(hl':l'.length≤9223372036854775807):
  FnSat Tryd.prog 3 [.agg [.str k,.str g,.lst x l.length (strs l),.int .i64 f,.int .i64 u,.bool ca],.agg [.str k',.str g',.lst y l'.length (strs l'),.int .i64 f',.int .i64 u',.bool ca'],.str s] [] (fun v _=>v=.bool true):=by
 refine runW_ok (lim:=9) (n:=10) ax CTn_ok ?_;unfold CTn;refine cast (ct_law (gvOK cf) (gvB cf) (gpOK encG) (gpB encG) (gpE encG) (gpOK ew) (gpB ew) (gpE ew) (gvOK mayG) (gvB mayG) (gvOK ei) (gvB ei) (gvOK cf) (gvB cf) (gvB cf) tdOK k g x l.length (strs l) f u ca k' g' y l'.length (strs l') f' u' ca' s (fun v=>v=.bool true)).symm ?_;unfold zL_13 zL_12 zL_9 zL_4 zL_1 zL_7 zL_3 lI zL_0 zL_6 zL_2 lJ zL_8 zL_5;refine aa (fj hl) ?_;rw[ar,ar];refine ab (fun _=>rfl) (fun h1=>aa (fj hl') (ab (fun _=>rfl) (fun h2=>ab (fun _=>rfl) (fun h3=>?_))));obtain⟨hok,hn⟩:=lgB_small h1;have h3:=of_decide_eq_false h3;have hb:=encB_le k g l f u ca;have k1:aN s=true:=decide_eq_true (by omega);have k2:aN (encB k g l f u ca)=true:=decide_eq_true (by omega);have k3:aN (encB k g l f u ca++s)=true:=decide_eq_true (by rw[List.length_append];omega);have k4:aN (s++encB k g l f u ca)=true:=decide_eq_true (by rw[List.length_append];omega);cases hz:Nat.beq l.length 0 with
 |true=>
   have he:l=[]:=List.eq_nil_of_length_eq_zero (Nat.eq_of_beq_eq_true hz);subst he;rw[cond_true];refine aa (en_ok (jl (l:=[]) rfl rfl) hl) ?_;refine aa (eP (bw _ x [])) ?_;refine aa (rn_ok (bw _ x []) hl hok) ?_;rw[en_b (l:=[]),rn_b (l:=[]),en_e (l:=[]),rn_e (l:=[]),beq_self_eq_true,Bool.not_true,cond_false,bne_self_eq_false,cond_false]
   ·refine aa (ma_ok (dJ (l:=[]) rfl _ _ _) hl) ?_;refine aa (eP (bw _ x [])) ?_;refine aa (rm_ok (bw _ x []) hl hok) ?_;rw[ma_b (l:=[]),rm_b (l:=[]),beq_self_eq_true,Bool.not_true,cond_false,beq_self_eq_true,Bool.not_true,cond_false,beq_self_eq_true,Bool.not_true,cond_false]
    ·refine aa (sm_ok (bw _ x []) (bw _ y l') hl hl') ?_;refine aa (eP (bw _ x [])) (aa (eP (bw _ y l')) ?_);refine aa (sm_ok (bw _ x []) (bw _ y l') hl hl') ?_;rw[beq_self_eq_true,Bool.not_true,cond_false];refine aa (eS (bw _ x []) (dJ (l:=[]) rfl _ _ _) hl) ?_;refine ab (fun h=>absurd h (n7 (gb (bw _ x []) (dJ (l:=[]) rfl _ _ _)))) (fun _=>?_);refine aa (Nat.ble_eq_true_of_le (by omega)) (aa (Nat.ble_eq_true_of_le (by omega)) ⟨?_,aa ?_ ?_⟩)
     ·exact lF ⟨k,g,x,_,_,f,u,ca⟩ _ (strs []) [.str s,.str (encB k g [] f u ca),.str (encB k g [] f u ca++s),.str (s++encB k g [] f u ca)] 4 0 (bS []) rfl 0 2 3 4 (by decide) rfl rfl rfl rfl
     ·unfold hU;simp only[Bool.and_eq_true];exact⟨bS [],rfl,rfl,rfl,rfl,by simp only[List.map_cons,List.map_nil,ak,List.all_cons,List.all_nil,k1,k2,k3,k4,Bool.and_self],rfl⟩
     ·refine aa (eP (dJ (l:=[]) rfl _ _ _)) (aa (eP (bw _ x [])) (aa (eS (dJ (l:=[]) rfl _ _ _) (bw _ x []) hl) ?_));rw[gb (l:=[])]
      ·rfl
      all_goals first|exact(dJ (l:=[]) rfl _ _ _)|exact(bw _ x [])
    all_goals first|exact(dJ (l:=[]) rfl _ _ _)|exact(bw _ x [])
   all_goals first|exact(jl (l:=[]) rfl rfl)|exact(bw _ x [])
 |false=>
   have s1:(strs l).length.beq (l.length*1)=true:=by rw[aL,Nat.mul_one];exact Nat.beq_refl _
   have s2:(0+l.length).ble 9223372036854775807=true:=Nat.ble_eq_true_of_le (by omega);have s3:((0+l.length)*16).ble 140737488355328=true:=Nat.ble_eq_true_of_le (by omega);rw[cond_false,s1,strs_one,s2,s3,Bool.and_self,cond_true,cond_true,Nat.zero_add];refine aa (en_ok (jl (l:=l) rfl rfl) hl) ?_;refine aa (eP (bw _ x l)) ?_;refine aa (rn_ok (bw _ x l) hl hok) ?_;rw[en_b (l:=l),rn_b (l:=l),en_e (l:=l),rn_e (l:=l),beq_self_eq_true,Bool.not_true,cond_false,bne_self_eq_false,cond_false]
   ·refine aa (ma_ok (dJ (l:=l) rfl _ _ _) hl) ?_;refine aa (eP (bw _ x l)) ?_;refine aa (rm_ok (bw _ x l) hl hok) ?_;rw[ma_b (l:=l),rm_b (l:=l),beq_self_eq_true,Bool.not_true,cond_false,beq_self_eq_true,Bool.not_true,cond_false,beq_self_eq_true,Bool.not_true,cond_false]
    ·refine aa (sm_ok (bw _ x l) (bw _ y l') hl hl') ?_;refine aa (eP (bw _ x l)) (aa (eP (bw _ y l')) ?_);refine aa (sm_ok (bw _ x l) (bw _ y l') hl hl') ?_;rw[beq_self_eq_true,Bool.not_true,cond_false];refine aa (eS (bw _ x l) (dJ (l:=l) rfl _ _ _) hl) ?_;refine ab (fun h=>absurd h (n7 (gb (bw _ x l) (dJ (l:=l) rfl _ _ _)))) (fun _=>?_);refine aa (Nat.ble_eq_true_of_le (by omega)) (aa (Nat.ble_eq_true_of_le (by omega)) ⟨?_,aa ?_ ?_⟩)
     ·exact lF ⟨k,g,x,_,_,f,u,ca⟩ _ (strs l) [.str s,.str (encB k g l f u ca),.str (encB k g l f u ca++s),.str (s++encB k g l f u ca)] 4 0 (bS l) rfl 0 2 4 5 (by decide) rfl rfl rfl rfl
     ·unfold hU;simp only[Bool.and_eq_true];exact⟨bS l,rfl,rfl,rfl,rfl,by simp only[List.map_cons,List.map_nil,ak,List.all_cons,List.all_nil,k1,k2,k3,k4,Bool.and_self],rfl⟩
     ·refine aa (eP (dJ (l:=l) rfl _ _ _)) (aa (eP (bw _ x l)) (aa (eS (dJ (l:=l) rfl _ _ _) (bw _ x l) hl) ?_));rw[gb (l:=l)]
      ·rfl
      all_goals first|exact(dJ (l:=l) rfl _ _ _)|exact(bw _ x l)
    all_goals first|exact(dJ (l:=l) rfl _ _ _)|exact(bw _ x l)
   all_goals first|exact(jl (l:=l) rfl rfl)|exact(bw _ x l)
theorem ct_close(k g:List UInt8)(x:Value)(l:List (List UInt8))(f u:Int)(ca:Bool)(k' g':List UInt8)(y:Value)(l':List (List UInt8))(f' u':Int)(ca':Bool)(s:List UInt8)(hl:l.length≤9223372036854775807)(hl':l'.length≤9223372036854775807):
 FnSat Tryd.prog 3 [.agg [.str k,.str g,lstS x l,.int .i64 f,.int .i64 u,.bool ca],.agg [.str k',.str g',lstS y l',.int .i64 f',.int .i64 u',.bool ca'],.str s] [] (fun v _=>v=.bool true):=ct_core k g x l f u ca k' g' y l' f' u' ca' s hl hl'
end Go.Proofs.YtnenadbbhdcaoaaDoor
namespace Go.Proofs.YtnenadbbhdcaoaaDoor
open Go Go.Vm Go.RowKit
open Go.ChangeShapes Go.WideShapes Go.ChangeAt
set_option linter.unusedVariables false
set_option linter.unusedSectionVars false
set_option maxRecDepth 100000
def certSh:Sh:=.agg [.str,.str,.lst .str,.int .i64,.int .i64,.bool]
theorem certSh_ok:shOk Tryd.prog 9 certSh 24=true:=by kernel_rfl
def nh(w:World)(v:Value):Prop:=∃k g xl l f u ca,@real gl (Frz.of w) [] (.agg [.str k,.str g,lstS xl l,.int .i64 f,.int .i64 u,.bool ca])=some v∧l.length≤maxLen
theorem n5{H:Type}{enc:TypeId×Value→H}{W:World}{b0:Nat}{r:Reach}{v:Value}{d:DataW H}{ps:List MemPlace}
  (hval:Value.okWide Tryd.prog W r b0 24 v)(hd:DataW.Trod enc Tryd.prog W 0 (fun _=>true) true 24 v d ps):nh W v:=by
 obtain⟨cs,rfl,_⟩:=okWide_struct Tryd.underlying24 hval;obtain⟨fuel,hf⟩:=hd;obtain⟨dd,h1,h2⟩:=@pE gl _ _ _ _ _ _ _ 9 certSh 24 fuel _ _ certSh_ok hf;obtain⟨l0_0,e0,g0_0⟩:=ofAgg h1;obtain⟨d0_0,l0_1,e0_0,a0_0,g0_1⟩:=fd g0_0;obtain⟨d0_1,l0_2,e0_1,a0_1,g0_2⟩:=fd g0_1;obtain⟨d0_2,l0_3,e0_2,a0_2,g0_3⟩:=fd g0_2;obtain⟨d0_3,l0_4,e0_3,a0_3,g0_4⟩:=fd g0_3;obtain⟨d0_4,l0_5,e0_4,a0_4,g0_5⟩:=fd g0_4;obtain⟨d0_5,l0_6,e0_5,a0_5,g0_6⟩:=fd g0_5;have z0:=all2_nil g0_6;subst e0 e0_0 e0_1 e0_2 e0_3 e0_4 e0_5 z0;obtain⟨k,q_k,w_k⟩:=ofStr a0_0;subst q_k;obtain⟨g,q_g,w_g⟩:=ofStr a0_1;subst q_g;obtain⟨xl,ds_l,q_l,w_l,y_l⟩:=ofLst a0_2;subst q_l;obtain⟨l,c_l,m_l⟩:=strsD _ ds_l y_l;have n_l:ds_l.length=l.length:=by rw[c_l,List.length_map]
 obtain⟨f,q_f,w_f⟩:=ofInt a0_3;subst q_f;obtain⟨u,q_u,w_u⟩:=ofInt a0_4;subst q_u;obtain⟨ca,q_ca⟩:=ofBool a0_5;subst q_ca;simp only[hZ,cU,m_l,n_l,List.append_nil,List.cons_append,List.nil_append]at h2;have h3:=@io gl (Frz.of W) [] _ _ h2;refine⟨k,g,xl,l,f,u,ca,?_,by rw[←n_l];exact w_l⟩;have h4:=@Go.Vm.real_agg_mk gl (Frz.of W) [] _ _ h3;rw[show(Value.agg cs).cells=cs from rfl,Array.toArray_toList]at h4;exact h4
theorem oa:maxLen=9223372036854775807:=by decide
theorem bytes_str{w:World}(s:ByteArray):@real gl (Frz.of w) [] (.str s.data.toList)=some (.string s):=by simp[real]
theorem mZ(v0:Value)(v1:Value)(a2:ByteArray)(w:World)(x0:nh w v0)(x1:nh w v1)(w2:a2.size≤maxLen)(hg:@GOk gl (Frz.of w) w.heap.size w):
  Calls Tryd.prog 3 #[v0,v1,.string a2] w (fun e w'=>e=.returned (.bool true)∧Below w.heap.size w w'):=by
 obtain⟨k_0,g_0,xl_0,l_0,f_0,u_0,ca_0,re0,hy_l_0⟩:=x0;obtain⟨k_1,g_1,xl_1,l_1,f_1,u_1,ca_1,re1,hy_l_1⟩:=x1;refine @frz_law gl Tryd.prog 3 [.agg [.str k_0,.str g_0,lstS xl_0 l_0,.int .i64 f_0,.int .i64 u_0,.bool ca_0],.agg [.str k_1,.str g_1,lstS xl_1 l_1,.int .i64 f_1,.int .i64 u_1,.bool ca_1],.str a2.data.toList] [v0,v1,.string a2] w (@ct_close (Frz.of w) k_0 g_0 xl_0 l_0 f_0 u_0 ca_0 k_1 g_1 xl_1 l_1 f_1 u_1 ca_1 a2.data.toList (by rw[oa]at hy_l_0;exact hy_l_0) (by rw[oa]at hy_l_1;exact hy_l_1)) ?_ hg;simp only[ae,bytes_str,re0,re1]
end Go.Proofs.YtnenadbbhdcaoaaDoor
namespace Go.Proofs.YtnenadbbhdcaoaaDoor
open Go Go.Vm Go.RowKit
open Go.ChangeShapes Go.WideShapes Go.ChangeAt Go.WideMaps Go.WideElems
set_option linter.unusedVariables false
set_option linter.unusedSectionVars false
variable [Φ:Frz]
def partsD:DataW Unit→List (DataW Unit)
 |.agg l=>l
 |_=>[]
def ofD:DataW Unit→V
 |.lit (.int k n)=>.int k n
 |_=>.bool false
theorem var_heap{P:Program}{w:World}{n:String}{g:Nat}{cs:Array Value}(hg:P.globalNamed n=some g)(h:w.var? P n=some cs):∃t fz,w.heap[g]?=some (.cells cs t fz):=by
 simp only[World.var?,hg,Option.bind_some]at h;split at h
 ·rename_i c t fz hb;cases h;exact⟨t,fz,hb⟩
 ·cases h
def Cells(W:World)(g:Nat)(C:List V):Prop:=∃arr t fz,W.heap[g]?=some (.cells arr t fz)∧∀i v,C[i]?=some v→∃x,real [] v=some x∧arr[0+i]?=some x
theorem int_cells{W:World}{n:String}{g t0 t e N f0:Nat}{k:IntKind}{C:List V}{d:DataW Unit}{cs0:Array Value}{p0:List MemPlace}{sp:Nat→Bool}{held:Bool}{enc:TypeId×Value→Unit}(hg:Tryd.prog.globalNamed n=some g)(hu:Tryd.prog.underlying t=some (.array N e))(hk:Tryd.prog.underlying e=some (.int k))(hw:Tryd.prog.cellsOf e=1)
  (hd:d=.agg (partsD d))(hC:C=(partsD d).map ofD)(ht0:t0=t)(hv0:W.var? Tryd.prog n=some cs0)(hd0:DataW.trod enc Tryd.prog W 0 sp held f0 t0 cs0.toList=some (d,p0)):Cells W g C:=by
 subst ht0;obtain⟨ty,fz,hheap⟩:=var_heap hg hv0;refine⟨cs0,ty,fz,hheap,fun i v hv=>?_⟩;obtain⟨xs,m1,rfl,hx1,hlen,hn,hel⟩:=DataW.trod_array hu hd0;rw[hd]at hx1;simp only[Prod.mk.injEq,DataW.agg.injEq]at hx1;have hD:=hx1.1;rw[hC,hD,List.getElem?_map,List.getElem?_map]at hv;cases hxi:xs[i]? with
 |none=>rw[hxi]at hv;cases hv
 |some x=>
  rw[hxi]at hv;simp only[Option.map_some,Option.some.injEq]at hv;have hi:i<N:=by rw[←hn];exact(List.getElem?_eq_some_iff.1 hxi).1
  have h1:=hel i hi;rw[hxi,hw,Nat.mul_one]at h1;obtain⟨a,e0,e1,wa⟩:=DataW.trod_int hk h1;subst e1;simp only[ofD]at hv;subst hv;refine⟨.int k a,rfl,?_⟩;rw[Nat.zero_add];have e2:((cs0.toList.drop i).take 1)[0]?=some (Value.int k a):=by rw[e0];rfl
  rw[List.getElem?_take,if_pos (by omega),List.getElem?_drop,Nat.add_zero]at e2;simpa using e2
theorem plain_part{P:Program}{l:List (String×DataW Unit)}{w:World}(h:laidMetH P l w):laidMet P (l.filter fun x=>x.2.handleName?.isNone) w:=by
 unfold laidMetH at h;generalize hfl:(l.filter fun x=>x.2.handleName?.isSome)=fl at h;cases fl with
 |nil=>
  have e:(l.filter fun x=>x.2.handleName?.isNone)=l:=by
   rw[List.filter_eq_self];intro x hx;have:=(List.filter_eq_nil_iff.1 hfl) x hx;cases hn:x.2.handleName? with
   |none=>rfl
   |some s=>rw[hn]at this;exact absurd rfl this
  rw[e];exact h
 |cons a b=>exact h.1
theorem laid_var{P:Program}{w:World}{n:String}{d:DataW Unit}:∀{l:List (String×DataW Unit)} {ps:List MemPlace},DataW.LaidVars P w l ps→(n,d)∈l→∃g t cs fuel p,P.globalNamed n=some g∧(P.globals[g]?).map (·.type)=some t∧w.var? P n=some cs∧DataW.trod (fun _=>()) P w 0 (fun _=>true) false fuel t cs.toList=some (d,p)
 |[],_,_,h=>by cases h
 |(n',d')::r,ps,h,hm=>by
  obtain⟨g,t,cs,fuel,p,q,h1,h2,h3,h4,h5,_⟩:=h;rcases List.mem_cons.1 hm with e|hm
  ·cases e;exact⟨g,t,cs,fuel,p,h1,h2,h3,h4⟩
  ·exact laid_var h5 hm
theorem plain_var{P:Program}{l:List (String×DataW Unit)}{w:World}(h:laidMetH P l w){n:String}{d:DataW Unit}(hm:(n,d)∈l)(hn:d.handleName?.isNone=true):∃g t cs fuel p,P.globalNamed n=some g∧(P.globals[g]?).map (·.type)=some t∧w.var? P n=some cs∧DataW.trod (fun _=>()) P w 0 (fun _=>true) false fuel t cs.toList=some (d,p):=by
 obtain⟨ps,hl,_,_⟩:=plain_part h;exact laid_var hl (List.mem_filter.2 ⟨hm,hn⟩)
theorem own:ownKnob Tryd.prog.godebug=none:=by kernel_rfl
theorem cells_0{W:World}(h:laidMetH Tryd.prog Rows.certTellsRow.laid W):Cells W 0 keyC:=by
 have hm:("mailroom/code.key",(Rows.laid_mailroom_code_key:DataW Unit))∈Rows.certTellsRow.laid:=List.mem_of_getElem? (i:=0) rfl;obtain⟨g,t,cs,fuel,p,h1,h2,h3,h4⟩:=plain_var h hm rfl;have e1:Tryd.prog.globalNamed "mailroom/code.key"=some 0:=by kernel_rfl
 obtain rfl:=Option.some.inj (e1.symm.trans h1);have e2:(Tryd.prog.globals[0]?).map (·.type)=some 108:=by kernel_rfl
 exact int_cells (n:= "mailroom/code.key") (t:=108) (e:=103) (N:=64) (k:=.u32) e1 (by kernel_rfl) (by kernel_rfl) (by kernel_rfl) rfl (by kernel_rfl) (Option.some.inj (e2.symm.trans h2)).symm h3 h4
theorem laid_gok{W:World}(hΦ:∀k o,Φ.φ k=some o→W.heap[k]?=some o)(h:laidMetH Tryd.prog Rows.certTellsRow.laid W):GOk W.heap.size W:=by
 have low:∀{g:Nat} {C:List V},Cells W g C→g<W.heap.size:=fun⟨_,_,_,hh,_⟩=>(Array.getElem?_eq_some_iff.1 hh).1;refine⟨fun k cs hk=>?_,fun k hk=>?_,fun k o hk=>⟨(Array.getElem?_eq_some_iff.1 (hΦ k o hk)).1,hΦ k o hk⟩⟩
 ·have fin:∀{g:Nat} {C:List V},Cells W g C→g<W.heap.size∧∃arr t fz,W.heap[g]?=some (.cells arr t fz)∧(∀i v,C[i]?=some v→∃x,real [] v=some x∧arr[0+i]?=some x):=fun hc=>⟨low hc,hc⟩
  match k,hk with
  |0,hk=>cases hk;obtain⟨a,arr,t,fz,h1,h2⟩:=fin (cells_0 h);exact⟨a,arr,t,fz,h1,h2,fun hf=>by cases hf⟩
  |k+1,hk=>cases hk
 ·cases hk
end Go.Proofs.YtnenadbbhdcaoaaDoor
