/- Certificates: which may be; one's bytes; a key's form: what they come to. -/
import Derived.Test.YtebkeppoicllmaaDoorMay
namespace Go.Proofs.YtebkeppoicllmaaDoor
open Go.IntKind (u8 u16 u32 u64 i8 i16 i32 i64)
open Go Go.Vm Go.RowKit
set_option linter.unusedVariables false
set_option maxRecDepth 100000
set_option linter.unusedSectionVars false
variable [Φ:Frz]
def npatP:List V→Option V
 |[.str s]=>some (.bool !patN s)
 |_=>none
noncomputable def C0:Tab:=⟨addP (addT (addP noT 35 patP) 40 putF) 47 npatP,noL,bf 9⟩
theorem np_tree(s:List UInt8)(R:V→Prop):runW Tryd.prog ⟨addP noT 35 patP,noL,bf 9⟩ 9 10 47 [.str s] R=
  (
 R (.bool !patN s)):=by kernel_rfl
theorem np_ok(args:List V)(v:V)(h:npatP args=some v):FnSat Tryd.prog 47 args [] (Is (v,[])):=by
 unfold npatP at h;split at h
 ·rename_i s;cases h;refine aJ (T:=⟨addP noT 35 patP,noL,bf 9⟩) (lim:=9) (n:=10) aH ⟨aQ aL pat_ok,aM,au 9⟩ rfl rfl ?_;rw[np_tree]
 ·cases h
theorem C0_ok:TabOk3 Tryd.prog C0:=⟨aQ (b8 (aQ aL pat_ok) put_ok) np_ok,aM,au 9⟩
theorem ix_round(x:Value)(n:Nat)(cs:List V)(i:Int)(R:Exit→List (Option V)→St→Prop):ao Tryd.prog C0 9 10 (ah 9) 33 26 [0,1,4,7,8] [.lst x n cs,.func (.func 47) [] [],.int .i64 0,.int .i64 n,.int .i64 i] [] R=
  (
 bif decide (i<(↑n:Int))then bif decide (0≤i)&&decide (i<(↑n:Int))then bif (i.toNat*1).blt cs.length then bif aw (cs.getD (i.toNat*1) (.bool false))
 then bif !patN (aa (cs.getD (i.toNat*1) (.bool false)))then R .ret [some (.lst x n cs),some (V.func (Fn.func 47) [] []),some (.int i64 i),some
 (.int i64 (↑n:Int)),some (.int i64 i)] []else R .normal [some (.lst x n cs),some (V.func (Fn.func 47) [] []),some (.int i64 0),some
 (.int i64 (↑n:Int)),some (.int i64 (i64.wrap (i+1)))] []else False else False else False else R (.exit 0) [some (.lst x n cs),some
 (V.func (Fn.func 47) [] []),some (.int i64 0),some (.int i64 (↑n:Int)),some (.int i64 i)] []):=by kernel_rfl
theorem th_round(t:Int)(x:Value)(n:Nat)(cs:List V)(o:List UInt8)(i:Int)(R:Exit→List (Option V)→St→Prop):ao Tryd.prog C0 9 10 (ah 9) 24 58 [0,5,10,11,12] [.int .u8 t,.str o,.lst x n cs,.int .i64 n,.int .i64 i] [] R=
  (
 bif decide (i<(↑n:Int))then bif decide (0≤i)&&decide (i<(↑n:Int))then bif (i.toNat*1).blt cs.length then bif aw (cs.getD (i.toNat*1) (.bool false))
 then bif (o.length+(aa (cs.getD (i.toNat*1) (.bool false))).length).ble 9223372036854775807 then R .normal [some (.int u8 t),some (.str (o++
 aa (cs.getD (i.toNat*1) (.bool false)))),some (.lst x n cs),some (.int i64 (↑n:Int)),some (.int i64 (i64.wrap (i+1)))] []else
 False else False else False else False else R (.exit 0) [some (.int u8 t),some (.str o),some (.lst x n cs),some (.int i64 (↑n:Int)),some
 (.int i64 i)] []):=by kernel_rfl
structure IX where
 x:Value
 n:Nat
 cs:List V
 i:Nat
def ixV(x:IX):List V:=[.lst x.x x.n x.cs,.func (.func 47) [] [],.int .i64 0,.int .i64 x.n,.int .i64 x.i]
def ixJ(_:IX):St:=[]
def lT(x:IX):Bool:=okS x.n x.cs&&Nat.ble x.i x.n
def ixMu(x:IX):Nat:=x.n-x.i
def ixDec:List (Option V)→St→Option IX
 |[some (.lst x n cs),some (.func (.func 47) [] []),some (.int .i64 0),some (.int .i64 _),some (.int .i64 0)],_=>some ⟨x,n,cs,0⟩
 |_,_=>none
def allP(cs:List V):Bool:=(cs.map aa).all patN
def oH(x:Value)(n:Nat)(cs:List V)(b:Bool)(K:Exit→List V→St→Prop):Prop:=
 bif b then K (.exit 0) [.lst x n cs,.func (.func 47) [] [],.int .i64 0,.int .i64 n,.int .i64 n] []else ∀i:Nat,K .ret [.lst x n cs,.func (.func 47) [] [],.int .i64 i,.int .i64 n,.int .i64 i] []
def ixOut:Asks IX:=fun x K=>oH x.x x.n x.cs (allP (x.cs.drop x.i)) K
theorem ix_roundOk(x:IX)(hx:lT x=true):ao Tryd.prog C0 9 10 (ah 9) 33 26 [0,1,4,7,8] (ixV x) (ixJ x) (aR 0 lT ixV ixJ ixMu ixOut x):=by
 obtain⟨x,n,cs,i⟩:=x;unfold lT at hx;rw[Bool.and_eq_true]at hx;have p1:i≤n:=Nat.le_of_ble_eq_true hx.2;have hx1:okS n cs=true:=hx.1;obtain⟨l,rfl,rfl,p2,p3⟩:=fa hx1;show ao Tryd.prog C0 9 10 (ah 9) 33 26 [0,1,4,7,8] [.lst x l.length (strs l),.func (.func 47) [] [],.int .i64 0,.int .i64 l.length,.int .i64 i] [] _;rw[ix_round];have ha:∀j,allP ((strs l).drop j)=(l.drop j).all patN:=fun j=>by
  unfold allP;rw[List.map_drop,aA]
 have out:∀K,ixOut ⟨x,l.length,strs l,i⟩ K→oH x l.length (strs l) ((l.drop i).all patN) K:=fun K hK=>by
  have hK:oH x l.length (strs l) (allP ((strs l).drop i)) K:=hK;rw[ha]at hK;exact hK
 cases hd:l.drop i with
 |nil=>
  have hi:=dc hd p1;rw[decide_eq_false (show ¬((i:Int)<(l.length:Int)) by omega),cond_false];refine⟨[.lst x l.length (strs l),.func (.func 47) [] [],.int .i64 0,.int .i64 l.length,.int .i64 i],[],fun K hK=>?_,bD _ rfl _ rfl _⟩;have hK:=out K hK;rw[hd]at hK;rw[hi];exact hK
 |cons c r=>
  obtain⟨e1,e2,e3⟩:=bF hd;obtain⟨e4,e5⟩:=i4 hd;have q1:decide ((i:Int)<(l.length:Int))=true:=decide_eq_true (by omega);have q2:decide ((0:Int)≤(i:Int))=true:=decide_eq_true (by omega);rw[q1,q2];simp only[Int.toNat_natCast,e4,e5,aw,aa,cond_true,Bool.and_true,show i64.wrap ((i:Int)+1)=((i+1:Nat):Int) by rw[IntWalk.i64_in _ ⟨by omega,by omega⟩];omega];cases hc:patN c with
  |false=>
   refine⟨[.lst x l.length (strs l),.func (.func 47) [] [],.int .i64 i,.int .i64 l.length,.int .i64 i],[],fun K hK=>?_,bD _ rfl _ rfl _⟩;have hK:=out K hK;rw[hd,List.all_cons,hc]at hK;exact hK i
  |true=>
   refine⟨⟨x,l.length,strs l,i+1⟩,?_,bD _ rfl _ rfl _,by simp only[ixMu];omega,fun K hK=>?_⟩
   ·unfold lT;rw[Bool.and_eq_true];exact⟨hx1,Nat.ble_eq_true_of_le (show i+1≤l.length by omega)⟩
   ·have hK:=out K hK;show oH x l.length (strs l) (allP ((strs l).drop (i+1))) K;rw[ha,e2];rw[hd,List.all_cons,hc,Bool.true_and]at hK;exact hK
noncomputable def lk49:Nat→Trans→Trans:=bA 26 (cx 0 (szOf Tryd.prog 33) [0,1,4,7,8] ixDec lT ixV ixJ ixOut) (ah 9)
theorem lk49_ok:aC Tryd.prog 0 lk49 33:=by
 unfold lk49;exact cm (bj 9 0 33) (by kernel_rfl) fun f st Q h=>bN (P:=Tryd.prog) (T:=C0) (k:=0) (lim:=9) (n:=10) (g:=33) (p0:=26) (lk:=ah 9) aH C0_ok (bn 9 _ _) ixMu ix_roundOk h
noncomputable def C1:Tab:=⟨noT,noL,dS (bf 9) 33 0 lk49⟩
theorem C1_ok:TabOk3 Tryd.prog C1:=⟨aL,aM,bT (au 9) lk49_ok⟩
theorem cf_tree(x:Value)(n:Nat)(cs:List V)(R:V→Prop):runW Tryd.prog C1 9 10 19 [.lst x n cs,.func (.func 47) [] []] R=
  (
 Fits 0 [.lst x n cs,V.func (Fn.func 47) [] [],.int i64 0,.int i64 (↑n:Int),.int i64 0] [] [some (.lst x n cs),some (V.func (Fn.func
 47) [] []),some (.int i64 0),some (.int i64 (↑n:Int)),some (.int i64 0)] []∧bif lT {x:=x,n:=n,cs:=cs,i:=0}then bif allP
 cs then R (.bool false)else ∀(i:Nat),R (.bool true)else False):=by kernel_rfl
def cfP:List V→Option (List (Bool×(V×St)))
 |[.lst _ n cs,.func (.func 47) [] []]=>some [(okS n cs,(.bool (!allP cs),[]))]
 |_=>none
theorem cf_ok(args:List V)(l:List (Bool×(V×St)))(o:V×St)(h:cfP args=some l)(ho:aP l=some o):FnSat Tryd.prog 19 args [] (Is o):=by
 unfold cfP at h;split at h
 ·rename_i x n cs;cases h;cases hk:okS n cs with
  |false=>rw[hk]at ho;cases ho
  |true=>
   rw[hk]at ho;cases ho;refine aJ (lim:=9) (n:=10) aH C1_ok rfl rfl ?_;rw[cf_tree];refine⟨bD _ rfl _ rfl _,ae (by unfold lT;rw[hk];rfl) ?_⟩;refine ab (fun h=>?_) (fun h=>?_)
   ·rw[h];rfl
   ·intro i;rw[h];rfl
 ·cases h
structure TH where
 t:Int
 o:List UInt8
 x:Value
 n:Nat
 cs:List V
 i:Nat
def thV(x:TH):List V:=[.int .u8 x.t,.str x.o,.lst x.x x.n x.cs,.int .i64 x.n,.int .i64 x.i]
def thJ(_:TH):St:=[]
def catS(cs:List V):List UInt8:=(cs.map aa).flatten
def lh(x:TH):Bool:=okS x.n x.cs&&(Nat.ble x.i x.n&&Nat.ble (x.o.length+(catS (x.cs.drop x.i)).length) 1099511627776)
def thMu(x:TH):Nat:=x.n-x.i
def thDec:List (Option V)→St→Option TH
 |[some (.int .u8 t),some (.str o),some (.lst x n cs),some (.int .i64 _),some (.int .i64 0)],_=>some ⟨t,o,x,n,cs,0⟩
 |_,_=>none
def nW(t:Int)(o:List UInt8)(x:Value)(n:Nat)(cs:List V)(K:Exit→List V→St→Prop):Prop:=
 K (.exit 0) [.int .u8 t,.str o,.lst x n cs,.int .i64 n,.int .i64 n] []
def thOut:Asks TH:=fun x K=>nW x.t (x.o++catS (x.cs.drop x.i)) x.x x.n x.cs K
theorem th_roundOk(x:TH)(hx:lh x=true):ao Tryd.prog C0 9 10 (ah 9) 24 58 [0,5,10,11,12] (thV x) (thJ x) (aR 0 lh thV thJ thMu thOut x):=by
 obtain⟨t,o,x,n,cs,i⟩:=x;unfold lh at hx;simp only[Bool.and_eq_true]at hx;have p1:i≤n:=Nat.le_of_ble_eq_true hx.2.1;have p4:o.length+(catS (cs.drop i)).length≤1099511627776:=Nat.le_of_ble_eq_true hx.2.2;have hx1:okS n cs=true:=hx.1;obtain⟨l,rfl,rfl,p2,p3⟩:=fa hx1;show ao Tryd.prog C0 9 10 (ah 9) 24 58 [0,5,10,11,12] [.int .u8 t,.str o,.lst x l.length (strs l),.int .i64 l.length,.int .i64 i] [] _;rw[th_round];have ha:∀j,catS ((strs l).drop j)=(l.drop j).flatten:=fun j=>by
  unfold catS;rw[List.map_drop,aA]
 rw[ha]at p4;have out:∀K,thOut ⟨t,o,x,l.length,strs l,i⟩ K→nW t (o++(l.drop i).flatten) x l.length (strs l) K:=fun K hK=>by
  have hK:nW t (o++catS ((strs l).drop i)) x l.length (strs l) K:=hK;rw[ha]at hK;exact hK
 cases hd:l.drop i with
 |nil=>
  have hi:=dc hd p1;rw[decide_eq_false (show ¬((i:Int)<(l.length:Int)) by omega),cond_false];refine⟨[.int .u8 t,.str o,.lst x l.length (strs l),.int .i64 l.length,.int .i64 i],[],fun K hK=>?_,bD _ rfl _ rfl _⟩;have hK:=out K hK;rw[hd,List.flatten_nil,List.append_nil]at hK;rw[hi];exact hK
 |cons c r=>
  obtain⟨e1,e2,e3⟩:=bF hd;obtain⟨e4,e5⟩:=i4 hd;rw[hd,List.flatten_cons,List.length_append]at p4;have q1:decide ((i:Int)<(l.length:Int))=true:=decide_eq_true (by omega);have q2:decide ((0:Int)≤(i:Int))=true:=decide_eq_true (by omega);have q3:(o.length+c.length).ble 9223372036854775807=true:=Nat.ble_eq_true_of_le (by omega);rw[q1,q2];simp only[Int.toNat_natCast,e4,e5,aw,aa,q3,cond_true,Bool.and_true,show i64.wrap ((i:Int)+1)=((i+1:Nat):Int) by rw[IntWalk.i64_in _ ⟨by omega,by omega⟩];omega];refine⟨⟨t,o++c,x,l.length,strs l,i+1⟩,?_,bD _ rfl _ rfl _,by simp only[thMu];omega,fun K hK=>?_⟩
  ·unfold lh;simp only[Bool.and_eq_true];refine⟨hx1,Nat.ble_eq_true_of_le (show i+1≤l.length by omega),Nat.ble_eq_true_of_le ?_⟩;simp only[ha,e2,List.length_append];omega
  ·have hK:=out K hK;show nW t ((o++c)++catS ((strs l).drop (i+1))) x l.length (strs l) K;rw[ha,e2];rw[hd,List.flatten_cons,←List.append_assoc]at hK;exact hK
noncomputable def lk41:Nat→Trans→Trans:=bA 58 (cx 0 (szOf Tryd.prog 24) [0,5,10,11,12] thDec lh thV thJ thOut) (ah 9)
theorem lk41_ok:aC Tryd.prog 0 lk41 24:=by
 unfold lk41;exact cm (bj 9 0 24) (by kernel_rfl) fun f st Q h=>bN (P:=Tryd.prog) (T:=C0) (k:=0) (lim:=9) (n:=10) (g:=24) (p0:=58) (lk:=ah 9) aH C0_ok (bn 9 _ _) thMu th_roundOk h
noncomputable def C2:Tab:=⟨addT noT 40 putF,noL,dS (bf 9) 24 0 lk41⟩
theorem C2_ok:TabOk3 Tryd.prog C2:=⟨b8 aL put_ok,aM,bT (au 9) lk41_ok⟩
theorem th_tree(t:Int)(x:Value)(n:Nat)(cs:List V)(R:V→Prop):runW Tryd.prog C2 9 10 24 [.int .u8 t,.lst x n cs] R=
  (
 Fits 0 [.int u8 t,.str [],.lst x n cs,.int i64 (↑n:Int),.int i64 0] [] [some (.int u8 t),some (.str []),some (.lst x n
 cs),some (.int i64 (↑n:Int)),some (.int i64 0)] []∧bif lh {t:=t,o:=[],x:=x,n:=n,cs:=cs,i:=0}then bif el t then R (.str
 (putB t ([]++catS cs)))else False else False):=by kernel_rfl
theorem th_sat(t:Int)(x:Value)(l:List (List UInt8))(ht:el t=true)(hl:l.length≤9223372036854775807)(hf:l.flatten.length≤1099511627776):FnSat Tryd.prog 24 [.int .u8 t,lstS x l] [] (Is (.str (putB t l.flatten),[])):=by
 have hk:=iL hl;have hc:catS (strs l)=l.flatten:=by unfold catS;rw[aA]
 refine aJ (lim:=9) (n:=10) aH C2_ok rfl rfl ?_;unfold lstS;rw[th_tree];refine⟨bD _ rfl _ rfl _,ae ?_ ?_⟩
 ·unfold lh;simp only[hk,List.drop_zero,hc,List.length_nil,Nat.zero_add,Bool.true_and,Bool.and_eq_true];exact⟨Nat.ble_eq_true_of_le (Nat.zero_le _),Nat.ble_eq_true_of_le hf⟩
 ·rw[ht,cond_true,hc];rfl
def thG:List V→St→Option (List (Bool×(V×St)))
 |[.int .u8 t,p],st=>match cC st p with
  |some (b,l)=>some [(b&&(el t&&(Nat.ble l.length 9223372036854775807&&Nat.ble l.flatten.length 1099511627776)),(.str (putB t l.flatten),st))]
  |none=>none
 |_,_=>none
theorem thG_ok(args:List V)(s:St)(l:List (Bool×(V×St)))(o:V×St)(h:thG args s=some l)(ho:aP l=some o):FnSat Tryd.prog 24 args s (Is o):=by
 unfold thG at h;split at h
 ·rename_i t p;split at h
  ·rename_i b ls hv;cases h;obtain⟨hb,rfl⟩:=cM ho;simp only[Bool.and_eq_true]at hb;obtain⟨rfl,h1,h2,h3⟩:=hb;refine eN rfl fun B W0 w m rargs hr ha=>?_;obtain⟨a,r,q1,q2,rfl⟩:=ai ha;obtain⟨c,r',q3,q4,rfl⟩:=ai q2;simp only[af,Option.some.injEq]at q4;subst q4;have:=ed hr hv q3;refine⟨[.int .u8 t,lstS c ls],?_,@th_sat (Frz.of w) t c ls h1 (Nat.le_of_ble_eq_true h2) (Nat.le_of_ble_eq_true h3)⟩;simp only[af,this];rw[bE (Ψ:=Frz.of w) (m':=[]) (.int .u8 t) a rfl q1]
  ·cases h
 ·cases h
end Go.Proofs.YtebkeppoicllmaaDoor
