/- Parts of this work: what the functions come to. -/
import Derived.Test.YtnenadbbhdcaoaaDoorP1
import Derived.Test.YtnenadbbhdcaoaaDoorVmc
namespace Go.Proofs.YtnenadbbhdcaoaaDoor
open Go.IntKind (u8 u16 u32 u64 i8 i16 i32 i64)
open Go Go.Vm Go.RowKit
set_option linter.unusedVariables false
set_option linter.unusedSectionVars false
set_option maxRecDepth 100000
variable [Φ:Frz]
theorem rbare_tree(s:List UInt8)(R:V→Prop):runW Tryd.prog RB0 9 10 94 [.str s] R=
  (
 bif decide ((↑s.length:Int)>1)then bif true&&Nat.ble 2 s.length then bif List.take 2 (List.drop 0 s)==[42,46]then bif Nat.ble 2 s.length&&s.length.ble
 s.length then R (.tuple [.str (List.take (s.length-2) (List.drop 2 s)),.bool true])else False else R (.tuple [.str s,.bool false])else False else R (.tuple
 [.str s,.bool false])):=by kernel_rfl
def nv:List V→Option V
 |[.str s]=>some (.tuple [.str (bJ s),.bool (cU s)])
 |_=>none
theorem rbare_ok(args:List V)(v:V)(h:nv args=some v):FnSat Tryd.prog 94 args [] (Is (v,[])):=by
 unfold nv at h;split at h
 ·rename_i s;cases h;refine ay (lim:=9) (n:=10) av ou rfl rfl ?_;rw[rbare_tree];unfold bJ cU;have hd:List.drop 0 s=s:=rfl;rw[hd];refine af (fun h=>?_) (fun h=>?_)
  ·have h:=of_decide_eq_true h;refine aa (by rw[Bool.true_and];exact Nat.ble_eq_true_of_le (by omega)) (af (fun h1=>aa ?_ ?_) (fun h1=>?_))
   ·rw[Nat.ble_eq_true_of_le (show 2≤s.length by omega),Nat.ble_eq_true_of_le (Nat.le_refl _)];rfl
   ·rw[if_pos (beq_iff_eq.1 h1),h1,List.take_of_length_le (by simp)]
   ·rw[if_neg (beq_eq_false_iff_ne.1 h1),h1]
  ·have h:=of_decide_eq_false h;have n:s.take 2≠[42,46]:=fun e=>by
    have:=congrArg List.length e;simp at this;omega
   rw[if_neg n,beq_false_of_ne n]
 ·cases h
noncomputable def RM0:Tab:=⟨addT (addT (addP noT 94 nv) 95 rmayT) 103 rcutT,noL,aK 9⟩
theorem RM0_ok:TabOk3 Tryd.prog RM0:=⟨ba (ba (aW aB rbare_ok) rmay_ok) nq,aC,al 9⟩
theorem rpat_tree(s:List UInt8)(R:V→Prop):runW Tryd.prog RM0 9 10 54 [.str s] R=
  (
 bif aO (bJ s)then R (.bool (mayN (bJ s)))else False):=by kernel_rfl
theorem rlabs_tree(s:List UInt8)(R:V→St→Prop):runM Tryd.prog RM0 9 10 72 [.str s] R=
  (
 bif aO s then bif !mayN s then R .nilSlice []else bif aO s then R (.slice 0 0 (lsN s []) false 0 0) [.row (lsC s []) 9 1]else False else False):=by kernel_rfl
noncomputable def zy_0(s:List UInt8):=((↑(am ((lsC s []).getD 0 (V.bool false))).length:Int)+1)
theorem rpar_tree(s:List UInt8)(R:V→Prop):runW Tryd.prog RM0 9 10 71 [.str s] R=
 (
 bif aO s then bif !mayN s then R (.tuple [.str [],.bool false])else bif aO s then bif decide ((↑(lsN s []):Int)<2)then R (.tuple [.str [],
 .bool false])else bif true&&decide (0<(↑(lsN s []):Int))then bif Nat.blt 0 (lsC s []).length then bif ao ((lsC s []).getD 0 (.bool false))then bif
 decide (0≤i64.wrap (zy_0 s))then bif (i64.wrap (zy_0 s)).toNat.ble s.length&&s.length.ble s.length then R (.tuple [.str (List.take
 (s.length-(i64.wrap (zy_0 s)).toNat) (List.drop (i64.wrap (zy_0 s)).toNat s)),.bool true])else False else False else False else False else
 False else False else False):=by kernel_rfl
theorem ia{s:List UInt8}(h:aO s=true):aO (bJ s)=true:=by
 unfold aO at*
 have h:=of_decide_eq_true h;refine decide_eq_true ?_;unfold bJ;split
 ·simp;omega
 ·exact h
def rpatT:List V→Option (List (Bool×(V×St)))
 |[.str s]=>some [(aO s,(.bool (patN s),[]))]
 |_=>none
theorem rpat_ok(args:List V)(l:List (Bool×(V×St)))(o:V×St)(h:rpatT args=some l)(ho:aI l=some o):FnSat Tryd.prog 54 args [] (Is o):=by
 unfold rpatT at h;split at h
 ·rename_i s;cases h;obtain⟨hk,rfl⟩:=aT ho;refine ay (lim:=9) (n:=10) av RM0_ok rfl rfl ?_;rw[rpat_tree];exact aa (ia hk) rfl
 ·cases h
def rlabsT:List V→Option (List (Bool×(V×St)))
 |[.str s]=>some [(aO s&&mayN s,(.slice 0 0 (lsN s []) false 0 0,[.row (lsC s []) 9 1])),(aO s&&!mayN s,(.nilSlice,[]))]
 |_=>none
theorem rlabs_ok(args:List V)(l:List (Bool×(V×St)))(o:V×St)(h:rlabsT args=some l)(ho:aI l=some o):FnSat Tryd.prog 72 args [] (Is o):=by
 unfold rlabsT at h;split at h
 ·rename_i s;cases h;cases hk:aO s with
  |false=>rw[hk]at ho;simp[aI]at ho
  |true=>
  rw[hk,Bool.true_and,Bool.true_and]at ho;refine FnSat.fits (iF (lim:=9) (n:=10) av RM0_ok ?_);rw[rlabs_tree,hk];cases hm:mayN s with
  |true=>
   rw[hm]at ho;cases ho;exact⟨[0],[.slice 0 0 _ false 0 0],rfl,rfl,FitsM.of ⟨.inr ⟨_,.inl (by unfold lsC;simp only[renB,fO]),rfl⟩,trivial⟩,by simp,fun i hi=>by omega⟩
  |false=>
   rw[hm]at ho;cases ho;exact⟨[],[.nilSlice],rfl,rfl,FitsM.of trivial,by simp,fun i hi=>by omega⟩
 ·cases h
theorem lu:∀s:List UInt8,match(cutA s).2 with
  |none=>(cutA s).1=s
  |some r=>s=(cutA s).1++46::r
 |[]=>rfl
 |c::r=>by
  by_cases hc:c=46
  ·simp[cutA,hc]
  ·have:=lu r;simp only[cutA,if_neg hc];cases h:(cutA r).2 with
   |none=>rw[h]at this;simp only at this ⊢;rw[this]
   |some t=>rw[h]at this;simp only at this ⊢;rw[List.cons_append,←this]
theorem cut_drop{s:List UInt8}(h:cutM s=true):s.drop ((cutB s).length+1)=cutR s∧(cutB s).length+1≤s.length:=by
 have:=lu s;unfold cutM at h;unfold cutB cutR;cases hc:(cutA s).2 with
 |none=>rw[hc]at h;cases h
 |some r=>
  rw[hc]at this;simp only at this;have hl:=congrArg List.length this;rw[List.length_append,List.length_cons]at hl;refine⟨?_,by omega⟩;rw[Option.getD_some];have e:s.drop ((cutA s).1.length+1)=((cutA s).1++46::r).drop ((cutA s).1.length+1):=by rw[←this]
  rw[e,List.drop_append,List.drop_eq_nil_of_le (by omega),List.nil_append,show(cutA s).1.length+1-(cutA s).1.length=1 by omega];rfl
theorem lb(s:List UInt8):∃q,bT s=cutB s::q∧(q=[]↔cutM s=false):=by
 unfold bT labF;cases hm:cutM s with
 |false=>exact⟨[],rfl,by simp⟩
 |true=>
  rw[cond_true];refine⟨_,rfl,?_⟩;have:=eO hm;cases hk:s.length with
  |zero=>omega
  |succ k=>unfold labF;cases cutM (cutR s)<;>simp
def rparT:List V→Option (List (Bool×(V×St)))
 |[.str s]=>some [(aO s,(.tuple [.str (bif parB s then cutR s else[]),.bool (parB s)],[]))]
 |_=>none
theorem rpar_ok(args:List V)(l:List (Bool×(V×St)))(o:V×St)(h:rparT args=some l)(ho:aI l=some o):FnSat Tryd.prog 71 args [] (Is o):=by
 unfold rparT at h;split at h
 ·rename_i s;cases h;obtain⟨hk,rfl⟩:=aT ho;have hb:=of_decide_eq_true hk;refine ay (lim:=9) (n:=10) av RM0_ok rfl rfl ?_;rw[rpar_tree,hk,cond_true];unfold zy_0;unfold parB;cases hm:mayN s with
  |false=>simp
  |true=>
  obtain⟨q,hq,hc⟩:=lb s;have eC:lsC s []=strs (cutB s::q):=by unfold lsC;rw[List.nil_append,hq]
  have eN:lsN s []=q.length+1:=by unfold lsN;rw[List.nil_append,hq];rfl
  rw[eC,eN,Bool.and_true,Bool.not_true,cond_false,cond_true];have g:(strs (cutB s::q)).getD 0 (.bool false)=.str (cutB s):=rfl;refine af (fun h=>?_) (fun h=>?_)
  ·have h:=of_decide_eq_true h;have:q=[]:=List.length_eq_zero_iff.1 (by omega);rw[hc.1 this];rfl
  ·have h:=of_decide_eq_false h;have hcm:cutM s=true:=by
    cases hcm:cutM s with
    |true=>rfl
    |false=>have:=hc.2 hcm;subst this;simp at h
   obtain⟨c1,c2⟩:=cut_drop hcm;have w:i64.wrap (((cutB s).length:Int)+1)=(((cutB s).length+1:Nat):Int):=by rw[IntWalk.i64_in _ ⟨by omega,by omega⟩];omega
   simp only[g,am,ao,w,Int.toNat_natCast,c1,hcm,cond_true];refine aa (by rw[Bool.true_and];exact decide_eq_true (by omega)) (aa rfl (aa (decide_eq_true (by omega)) (aa ?_ ?_)))
   ·rw[Nat.ble_eq_true_of_le c2,Nat.ble_eq_true_of_le (Nat.le_refl _)];rfl
   ·rw[List.take_of_length_le];rw[←c1,List.length_drop];omega
 ·cases h
noncomputable def RM1:Tab:=⟨addT (addT (addP noT 94 nv) 95 rmayT) 71 rparT,noL,aK 9⟩
theorem RM1_ok:TabOk3 Tryd.prog RM1:=⟨ba (ba (aW aB rbare_ok) rmay_ok) rpar_ok,aC,al 9⟩
theorem rmat_tree(p s:List UInt8)(R:V→Prop):runW Tryd.prog RM1 9 10 70 [.str p,.str s] R=
  (
 bif aO (bJ p)then bif !mayN (bJ p)then R (.bool false)else bif aO s then bif !mayN s then R (.bool false)else bif !cU p then R (.bool (bJ p==
 s))else bif aO s then bif parB s then R (.bool ((bif parB s then cutR s else[])==bJ p))else R (.bool false)else False else False else False):=by kernel_rfl
def rmatT:List V→Option (List (Bool×(V×St)))
 |[.str p,.str s]=>some [(aO p&&aO s,(.bool (dZ p s),[]))]
 |_=>none
theorem rmat_ok(args:List V)(l:List (Bool×(V×St)))(o:V×St)(h:rmatT args=some l)(ho:aI l=some o):FnSat Tryd.prog 70 args [] (Is o):=by
 unfold rmatT at h;split at h
 ·rename_i p s;cases h;obtain⟨hk,rfl⟩:=aT ho;rw[Bool.and_eq_true]at hk;have h1:=ia hk.1;refine ay (lim:=9) (n:=10) av RM1_ok rfl rfl ?_;rw[rmat_tree,h1,hk.2];unfold dZ patN;cases hp:mayN (bJ p)with
  |false=>rfl
  |true=>
  cases hm:mayN s with
  |false=>rfl
  |true=>
  cases hs:cU p with
  |false=>
   have:bJ p=p:=by
    unfold bJ;unfold cU at hs;rw[if_neg (beq_eq_false_iff_ne.1 hs)]
   rw[this];rfl
  |true=>
   cases hb:parB s with
   |false=>rfl
   |true=>rfl
 ·cases h
def npatP:List V→Option V
 |[.str s]=>some (.bool !patN s)
 |_=>none
noncomputable def C0:Tab:=⟨addP (addT (addP noT 53 patP) 88 putF) 52 npatP,noL,aK 9⟩
theorem np_tree(s:List UInt8)(R:V→Prop):runW Tryd.prog ⟨addP noT 53 patP,noL,aK 9⟩ 9 10 52 [.str s] R=
  (
 R (.bool !patN s)):=by kernel_rfl
theorem np_ok(args:List V)(v:V)(h:npatP args=some v):FnSat Tryd.prog 52 args [] (Is (v,[])):=by
 unfold npatP at h;split at h
 ·rename_i s;cases h;refine ay (T:=⟨addP noT 53 patP,noL,aK 9⟩) (lim:=9) (n:=10) av ⟨aW aB pat_ok,aC,al 9⟩ rfl rfl ?_;rw[np_tree]
 ·cases h
theorem C0_ok:TabOk3 Tryd.prog C0:=⟨aW (ba (aW aB pat_ok) put_ok) np_ok,aC,al 9⟩
theorem th_round(t:Int)(x:Value)(n:Nat)(cs:List V)(o:List UInt8)(i:Int)(R:Exit→List (Option V)→St→Prop):ak Tryd.prog C0 9 10 (ac 9) 44 58 [0,5,10,11,12] [.int .u8 t,.str o,.lst x n cs,.int .i64 n,.int .i64 i] [] R=
  (
 bif decide (i<(↑n:Int))then bif decide (0≤i)&&decide (i<(↑n:Int))then bif (i.toNat*1).blt cs.length then bif ao (cs.getD (i.toNat*1) (.bool false))
 then bif (o.length+(am (cs.getD (i.toNat*1) (.bool false))).length).ble 9223372036854775807 then R .normal [some (.int u8 t),some (.str (o++
 am (cs.getD (i.toNat*1) (.bool false)))),some (.lst x n cs),some (.int i64 (↑n:Int)),some (.int i64 (i64.wrap (i+1)))] []else
 False else False else False else False else R (.exit 0) [some (.int u8 t),some (.str o),some (.lst x n cs),some (.int i64 (↑n:Int)),some
 (.int i64 i)] []):=by kernel_rfl
structure IX where
 x:Value
 n:Nat
 cs:List V
 i:Nat
structure TH where
 t:Int
 o:List UInt8
 x:Value
 n:Nat
 cs:List V
 i:Nat
def thV(x:TH):List V:=[.int .u8 x.t,.str x.o,.lst x.x x.n x.cs,.int .i64 x.n,.int .i64 x.i]
def thJ(_:TH):St:=[]
def catS(cs:List V):List UInt8:=(cs.map am).flatten
def ko(x:TH):Bool:=okS x.n x.cs&&(Nat.ble x.i x.n&&Nat.ble (x.o.length+(catS (x.cs.drop x.i)).length) 1099511627776)
def thMu(x:TH):Nat:=x.n-x.i
def thDec:List (Option V)→St→Option TH
 |[some (.int .u8 t),some (.str o),some (.lst x n cs),some (.int .i64 _),some (.int .i64 0)],_=>some ⟨t,o,x,n,cs,0⟩
 |_,_=>none
def mW(t:Int)(o:List UInt8)(x:Value)(n:Nat)(cs:List V)(K:Exit→List V→St→Prop):Prop:=
 K (.exit 0) [.int .u8 t,.str o,.lst x n cs,.int .i64 n,.int .i64 n] []
def thOut:Asks TH:=fun x K=>mW x.t (x.o++catS (x.cs.drop x.i)) x.x x.n x.cs K
theorem th_roundOk(x:TH)(hx:ko x=true):ak Tryd.prog C0 9 10 (ac 9) 44 58 [0,5,10,11,12] (thV x) (thJ x) (ap 0 ko thV thJ thMu thOut x):=by
 obtain⟨t,o,x,n,cs,i⟩:=x;unfold ko at hx;simp only[Bool.and_eq_true]at hx;have p1:i≤n:=Nat.le_of_ble_eq_true hx.2.1;have p4:o.length+(catS (cs.drop i)).length≤1099511627776:=Nat.le_of_ble_eq_true hx.2.2;have hx1:okS n cs=true:=hx.1;obtain⟨l,rfl,rfl,p2,p3⟩:=cL hx1;show ak Tryd.prog C0 9 10 (ac 9) 44 58 [0,5,10,11,12] [.int .u8 t,.str o,.lst x l.length (strs l),.int .i64 l.length,.int .i64 i] [] _;rw[th_round];have ha:∀j,catS ((strs l).drop j)=(l.drop j).flatten:=fun j=>by
  unfold catS;rw[List.map_drop,aA]
 rw[ha]at p4;have out:∀K,thOut ⟨t,o,x,l.length,strs l,i⟩ K→mW t (o++(l.drop i).flatten) x l.length (strs l) K:=fun K hK=>by
  have hK:mW t (o++catS ((strs l).drop i)) x l.length (strs l) K:=hK;rw[ha]at hK;exact hK
 cases hd:l.drop i with
 |nil=>
  have hi:=bH hd p1;rw[decide_eq_false (show ¬((i:Int)<(l.length:Int)) by omega),cond_false];refine⟨[.int .u8 t,.str o,.lst x l.length (strs l),.int .i64 l.length,.int .i64 i],[],fun K hK=>?_,au _ rfl _ rfl _⟩;have hK:=out K hK;rw[hd,List.flatten_nil,List.append_nil]at hK;rw[hi];exact hK
 |cons c r=>
  obtain⟨e1,e2,e3⟩:=aY hd;obtain⟨e4,e5⟩:=dM hd;rw[hd,List.flatten_cons,List.length_append]at p4;have q1:decide ((i:Int)<(l.length:Int))=true:=decide_eq_true (by omega);have q2:decide ((0:Int)≤(i:Int))=true:=decide_eq_true (by omega);have q3:(o.length+c.length).ble 9223372036854775807=true:=Nat.ble_eq_true_of_le (by omega);rw[q1,q2];simp only[Int.toNat_natCast,e4,e5,ao,am,q3,cond_true,Bool.and_true,show i64.wrap ((i:Int)+1)=((i+1:Nat):Int) by rw[IntWalk.i64_in _ ⟨by omega,by omega⟩];omega];refine⟨⟨t,o++c,x,l.length,strs l,i+1⟩,?_,au _ rfl _ rfl _,by simp only[thMu];omega,fun K hK=>?_⟩
  ·unfold ko;simp only[Bool.and_eq_true];refine⟨hx1,Nat.ble_eq_true_of_le (show i+1≤l.length by omega),Nat.ble_eq_true_of_le ?_⟩;simp only[ha,e2,List.length_append];omega
  ·have hK:=out K hK;show mW t ((o++c)++catS ((strs l).drop (i+1))) x l.length (strs l) K;rw[ha,e2];rw[hd,List.flatten_cons,←List.append_assoc]at hK;exact hK
noncomputable def lk41:Nat→Trans→Trans:=aJ 58 (bu 0 (szOf Tryd.prog 44) [0,5,10,11,12] thDec ko thV thJ thOut) (ac 9)
theorem lk41_ok:aF Tryd.prog 0 lk41 44:=by
 unfold lk41;exact bk (aM 9 0 44) (by kernel_rfl) fun f st Q h=>aP (P:=Tryd.prog) (T:=C0) (k:=0) (lim:=9) (n:=10) (g:=44) (p0:=58) (lk:=ac 9) av C0_ok (aL 9 _ _) thMu th_roundOk h
noncomputable def C2:Tab:=⟨addT noT 88 putF,noL,cp (aK 9) 44 0 lk41⟩
theorem C2_ok:TabOk3 Tryd.prog C2:=⟨ba aB put_ok,aC,bf (al 9) lk41_ok⟩
theorem th_tree(t:Int)(x:Value)(n:Nat)(cs:List V)(R:V→Prop):runW Tryd.prog C2 9 10 44 [.int .u8 t,.lst x n cs] R=
  (
 Fits 0 [.int u8 t,.str [],.lst x n cs,.int i64 (↑n:Int),.int i64 0] [] [some (.int u8 t),some (.str []),some (.lst x n
 cs),some (.int i64 (↑n:Int)),some (.int i64 0)] []∧bif ko {t:=t,o:=[],x:=x,n:=n,cs:=cs,i:=0}then bif fX t then R (.str
 (putB t ([]++catS cs)))else False else False):=by kernel_rfl
theorem th_sat(t:Int)(x:Value)(l:List (List UInt8))(ht:fX t=true)(hl:l.length≤9223372036854775807)(hf:l.flatten.length≤1099511627776):FnSat Tryd.prog 44 [.int .u8 t,lstS x l] [] (Is (.str (putB t l.flatten),[])):=by
 have hk:=ey hl;have hc:catS (strs l)=l.flatten:=by unfold catS;rw[aA]
 refine ay (lim:=9) (n:=10) av C2_ok rfl rfl ?_;unfold lstS;rw[th_tree];refine⟨au _ rfl _ rfl _,aa ?_ ?_⟩
 ·unfold ko;simp only[hk,List.drop_zero,hc,List.length_nil,Nat.zero_add,Bool.true_and,Bool.and_eq_true];exact⟨Nat.ble_eq_true_of_le (Nat.zero_le _),Nat.ble_eq_true_of_le hf⟩
 ·rw[ht,cond_true,hc];rfl
def thG:List V→St→Option (List (Bool×(V×St)))
 |[.int .u8 t,p],st=>match bw st p with
  |some (b,l)=>some [(b&&(fX t&&(Nat.ble l.length 9223372036854775807&&Nat.ble l.flatten.length 1099511627776)),(.str (putB t l.flatten),st))]
  |none=>none
 |_,_=>none
theorem thG_ok(args:List V)(s:St)(l:List (Bool×(V×St)))(o:V×St)(h:thG args s=some l)(ho:aI l=some o):FnSat Tryd.prog 44 args s (Is o):=by
 unfold thG at h;split at h
 ·rename_i t p;split at h
  ·rename_i b ls hv;cases h;obtain⟨hb,rfl⟩:=aT ho;simp only[Bool.and_eq_true]at hb;obtain⟨rfl,h1,h2,h3⟩:=hb;refine cG rfl fun B W0 w m rargs hr ha=>?_;obtain⟨a,r,q1,q2,rfl⟩:=ah ha;obtain⟨c,r',q3,q4,rfl⟩:=ah q2;simp only[ad,Option.some.injEq]at q4;subst q4;have:=cZ hr hv q3;refine⟨[.int .u8 t,lstS c ls],?_,@th_sat (Frz.of w) t c ls h1 (Nat.le_of_ble_eq_true h2) (Nat.le_of_ble_eq_true h3)⟩;simp only[ad,this];rw[cv (Ψ:=Frz.of w) (m':=[]) (.int .u8 t) a rfl q1]
  ·cases h
 ·cases h
structure CT where
 k:List UInt8
 g:List UInt8
 x:Value
 n:Nat
 cs:List V
 f:Int
 u:Int
 ca:Bool
def CT.cells(c:CT):List V:=[.str c.k,.str c.g,.lst c.x c.n c.cs,.int .i64 c.f,.int .i64 c.u,.bool c.ca]
def CT.v(c:CT):V:=.agg [.str c.k,.str c.g,.lst c.x c.n c.cs,.int .i64 c.f,.int .i64 c.u,.bool c.ca]
theorem jt{m:List MB}{l:List V}{xs:List Value}(h:ad m l=some xs):real m (.agg l)=some (.agg xs.toArray):=by simp only[real,h]
noncomputable def D1:Tab:=⟨noT,addS noL 44 thG,aK 9⟩
theorem D1_ok:TabOk3 Tryd.prog D1:=⟨aB,bW aC thG_ok,al 9⟩
theorem spki_tree(k:List UInt8)(R:V→Prop):runW Tryd.prog D1 9 10 14 [.str k] R=
  (
 bif k==[]then R (.str [])else bif decide ((↑k.length:Int)>64)then R (.str [])else bif true&&(true&&(true&&(k.append []).length.ble 1099511627776))then
 bif true&&(true&&(true&&((putB 4 (k.append [])).append []).length.ble 1099511627776))then R (.str (putB 48 ((putB 4 (k.append [])).append [])))else False else
 False):=by kernel_rfl
def er(k:List UInt8):List UInt8:=if k=[]then[]else if k.length>64 then[]else putB 48 (putB 4 k)
def lO:List V→Option V
 |[.str k]=>some (.str (er k))
 |_=>none
theorem iJ(t:Int)(x:List UInt8):(putB t x).length≤x.length+4:=putB_len t x
theorem spki_ok(args:List V)(v:V)(h:lO args=some v):FnSat Tryd.prog 14 args [] (Is (v,[])):=by
 unfold lO at h;split at h
 ·rename_i k;cases h;refine ay (lim:=9) (n:=10) av D1_ok rfl rfl ?_;rw[spki_tree];unfold er;refine af (fun h=>?_) (fun h=>?_)
  ·rw[if_pos (by simpa using h)]
  rw[if_neg (by simpa using h)];refine af (fun h1=>?_) (fun h1=>?_)
  ·rw[if_pos (by have:=of_decide_eq_true h1;omega)]
  have h1:=of_decide_eq_false h1;rw[if_neg (by omega)];have e1:k.append []=k:=List.append_nil k;have e2:(putB 4 k).append []=putB 4 k:=List.append_nil _;have:=iJ 4 k;simp only[e1,e2,Bool.true_and];refine aa (Nat.ble_eq_true_of_le (by omega)) (aa (Nat.ble_eq_true_of_le (by omega)) trivial)
 ·cases h
structure EN where
 c:CT
 i:Nat
noncomputable def RT0:Tab:=⟨addT noT 89 putF,noL,aK 9⟩
theorem RT0_ok:TabOk3 Tryd.prog RT0:=⟨ba aB rput_ok,aC,al 9⟩
theorem rth_tree(t:Int)(s:List UInt8)(R:V→Prop):runW Tryd.prog RT0 9 10 47 [.int .u8 t,.str s] R=
  (
 bif fX t then R (.str (putB t s))else False):=by kernel_rfl
def rthT:List V→Option (List (Bool×(V×St)))
 |[.int .u8 t,.str s]=>some [(fX t,(.str (putB t s),[]))]
 |_=>none
theorem rth_ok(args:List V)(l:List (Bool×(V×St)))(o:V×St)(h:rthT args=some l)(ho:aI l=some o):FnSat Tryd.prog 47 args [] (Is o):=by
 unfold rthT at h;split at h
 ·rename_i t s;cases h;obtain⟨hk,rfl⟩:=aT ho;refine ay (lim:=9) (n:=10) av RT0_ok rfl rfl ?_;rw[rth_tree];exact aa hk rfl
 ·cases h
noncomputable def RT1:Tab:=⟨addT (addT noT 47 rthT) 54 rpatT,noL,aK 9⟩
theorem RT1_ok:TabOk3 Tryd.prog RT1:=⟨ba (ba aB rth_ok) rpat_ok,aC,al 9⟩
theorem rspki_tree(k:List UInt8)(R:V→Prop):runW Tryd.prog RT1 9 10 15 [.str k] R=
  (
 bif decide ((↑k.length:Int)<1)then R (.str [])else bif decide ((↑k.length:Int)>64)then R (.str [])else R (.str (putB 48 (putB 4 k)))):=by kernel_rfl
theorem rspki_ok(args:List V)(v:V)(h:lO args=some v):FnSat Tryd.prog 15 args [] (Is (v,[])):=by
 unfold lO at h;split at h
 ·rename_i k;cases h;refine ay (lim:=9) (n:=10) av RT1_ok rfl rfl ?_;rw[rspki_tree];unfold er;refine af (fun h=>?_) (fun h=>af (fun h1=>?_) (fun h1=>?_))
  ·have h:=of_decide_eq_true h;have:k=[]:=List.length_eq_zero_iff.1 (by omega);rw[if_pos this]
  ·have h:=of_decide_eq_false h;have h1:=of_decide_eq_true h1;rw[if_neg (fun e=>by subst e;simp at h),if_pos (by omega)]
  ·have h:=of_decide_eq_false h;have h1:=of_decide_eq_false h1;rw[if_neg (fun e=>by subst e;simp at h),if_neg (by omega)]
 ·cases h
structure RMY where
 c:CT
 i:Nat
structure REN where
 c:CT
 o:List UInt8
 i:Nat
structure DE where
 k:List UInt8
 g:List UInt8
 f:Int
 u:Int
 ca:Bool
 ds:List V
 n:Nat
 i:Nat
structure CD where
 k:List UInt8
 g:List UInt8
 l:List (List UInt8)
 f:Int
 u:Int
 ca:Bool
def m2(x y:Int):Int:=if y>x then y else x
noncomputable def HC0:Tab:=⟨addT (addP (addP noT 67 cpP) 68 matchP) 69 labsT,noL,aK 9⟩
theorem HC0_ok:TabOk3 Tryd.prog HC0:=⟨ba (aW (aW aB cp_ok) match_ok) labs_ok,aC,al 9⟩
theorem hc_tree(s h:List UInt8)(R:V→Prop):lookW HC0 66 [.str s,.ptr 0 0] [.ro false [.str h]] (fun v _=>R v)=
  (
 bif dZ s h then bif !cU s then R (.bool true)else bif mayN (bJ s)then R (.bool (decide ((↑(lsN (bJ s) []):Int)>1)))else bif !mayN (bJ s)then R
 (.bool false)else False else R (.bool false)):=by kernel_rfl
def cV(s h:List UInt8):Bool:=dZ s h&&(!cU s||decide ((lsN (bJ s) []:Int)>1))
def hcL:List V→St→Option (Bool×V)
 |[.str s,.ptr 0 0],[.ro false [.str h]]=>some (true,.bool (cV s h))
 |_,_=>none
theorem match_pat{p s:List UInt8}(h:dZ p s=true):mayN (bJ p)=true:=by
 unfold dZ at h;rw[Bool.and_eq_true]at h;exact h.1
theorem hcL_ok(args:List V)(s:St)(v:V)(h:hcL args s=some (true,v)):v.flat=true∧(∀b∈s,aq b.cs=true)∧FnSat Tryd.prog 66 args s (fun u _=>u=v):=by
 unfold hcL at h;split at h
 ·rename_i s h;cases h;refine⟨rfl,by simp[Blk.cs,aq,V.flat],lookW_ok HC0_ok ?_⟩;rw[hc_tree];unfold cV;cases h1:dZ s h with
  |false=>rfl
  |true=>
   rw[match_pat h1];cases cU s<;>rfl
 ·cases h
noncomputable def HX0:Tab:=⟨noT,addL noL 66 hcL,aK 9⟩
theorem HX0_ok:TabOk3 Tryd.prog HX0:=⟨aB,addL_ok aC hcL_ok,al 9⟩
theorem hx_round(x:Value)(n:Nat)(cs:List V)(h:List UInt8)(i:Int)(R:Exit→List (Option V)→St→Prop):ak Tryd.prog HX0 9 10 (ac 9) 91 26 [0,1,4,7,8] [.lst x n cs,.func (.func 66) [] [.ptr 1 0],.int .i64 0,.int .i64 n,.int .i64 i] [.dead,.row [.str h] 9 1] R=
  (
 bif decide (i<(↑n:Int))then bif decide (0≤i)&&decide (i<(↑n:Int))then bif (i.toNat*1).blt cs.length then bif ao (cs.getD (i.toNat*1) (.bool false))
 then bif cV (am (cs.getD (i.toNat*1) (.bool false))) h then R .ret [some (.lst x n cs),some (V.func (Fn.func 66) [] [.ptr 1 0]),some (.int i64
 i),some (.int i64 (↑n:Int)),some (.int i64 i)] [.dead,.row [.str h] 9 1]else R .normal [some (.lst x n cs),some (V.func (Fn.func 66)
 [] [.ptr 1 0]),some (.int i64 0),some (.int i64 (↑n:Int)),some (.int i64 (i64.wrap (i+1)))] [.dead,.row [.str h] 9 1]
 else False else False else False else R (.exit 0) [some (.lst x n cs),some (V.func (Fn.func 66) [] [.ptr 1 0]),some (.int i64 0),some (.int i64
 (↑n:Int)),some (.int i64 i)] [.dead,.row [.str h] 9 1]):=by kernel_rfl
structure HX where
 x:Value
 n:Nat
 cs:List V
 h:List UInt8
 i:Nat
def hxV(y:HX):List V:=[.lst y.x y.n y.cs,.func (.func 66) [] [.ptr 1 0],.int .i64 0,.int .i64 y.n,.int .i64 y.i]
def hxJ(y:HX):St:=[.dead,.row [.str y.h] 9 1]
def le(y:HX):Bool:=okS y.n y.cs&&Nat.ble y.i y.n
def hxMu(y:HX):Nat:=y.n-y.i
def hxDec:List (Option V)→St→Option HX
 |[some (.lst x n cs),some (.func (.func 66) [] [.ptr 1 0]),some (.int .i64 0),some (.int .i64 _),some (.int .i64 0)],_::.row [.str h] _ _::_=>some ⟨x,n,cs,h,0⟩
 |_,_=>none
def anyH(cs:List V)(h:List UInt8):Bool:=(cs.map am).any fun s=>cV s h
def nU(x:Value)(n:Nat)(cs:List V)(h:List UInt8)(b:Bool)(K:Exit→List V→St→Prop):Prop:=
 bif b then ∀i:Nat,K .ret [.lst x n cs,.func (.func 66) [] [.ptr 1 0],.int .i64 i,.int .i64 n,.int .i64 i] [.dead,.row [.str h] 9 1]else K (.exit 0) [.lst x n cs,.func (.func 66) [] [.ptr 1 0],.int .i64 0,.int .i64 n,.int .i64 n] [.dead,.row [.str h] 9 1]
def hxOut:Asks HX:=fun y K=>nU y.x y.n y.cs y.h (anyH (y.cs.drop y.i) y.h) K
theorem j6(v:V)(hv:v.flat=true)(n i a:Int)(b:Blk)(h:List UInt8):Fits 2 [v,.func (.func 66) [] [.ptr 1 0],.int .i64 a,.int .i64 n,.int .i64 i] [.dead,.row [.str h] 9 1] [some v,some (.func (.func 66) [] [.ptr 1 0]),some (.int .i64 a),some (.int .i64 n),some (.int .i64 i)] [b,.row [.str h] 9 1]:=
 ⟨[0,1],[v,.func (.func 66) [] [.ptr 1 0],.int .i64 a,.int .i64 n,.int .i64 i],rfl,by simp[renL,renV,fj v hv],FitsM.of ⟨.inl rfl,.inr ⟨_,.inl rfl,rfl⟩,trivial⟩,by decide,fun i hi=>by
   match i,hi with
   |0,_|1,_=>rfl⟩
theorem hx_roundOk(y:HX)(hx:le y=true):ak Tryd.prog HX0 9 10 (ac 9) 91 26 [0,1,4,7,8] (hxV y) (hxJ y) (ap 2 le hxV hxJ hxMu hxOut y):=by
 obtain⟨x,n,cs,h,i⟩:=y;unfold le at hx;rw[Bool.and_eq_true]at hx;have p1:i≤n:=Nat.le_of_ble_eq_true hx.2;have hx1:okS n cs=true:=hx.1;obtain⟨l,rfl,rfl,p2,p3⟩:=cL hx1;show ak Tryd.prog HX0 9 10 (ac 9) 91 26 [0,1,4,7,8] [.lst x l.length (strs l),.func (.func 66) [] [.ptr 1 0],.int .i64 0,.int .i64 l.length,.int .i64 i] [.dead,.row [.str h] 9 1] _;rw[hx_round];have ha:∀j,anyH ((strs l).drop j) h=(l.drop j).any fun s=>cV s h:=fun j=>by
  unfold anyH;rw[List.map_drop,aA]
 have out:∀K,hxOut ⟨x,l.length,strs l,h,i⟩ K→nU x l.length (strs l) h ((l.drop i).any fun s=>cV s h) K:=fun K hK=>by
  have hK:nU x l.length (strs l) h (anyH ((strs l).drop i) h) K:=hK;rw[ha]at hK;exact hK
 cases hd:l.drop i with
 |nil=>
  have hi:=bH hd p1;rw[decide_eq_false (show ¬((i:Int)<(l.length:Int)) by omega),cond_false];refine⟨_,_,fun K hK=>?_,j6 _ rfl _ _ _ _ h⟩;have hK:=out K hK;rw[hd]at hK;rw[hi];exact hK
 |cons c r=>
  obtain⟨e1,e2,e3⟩:=aY hd;obtain⟨e4,e5⟩:=dM hd;have q1:decide ((i:Int)<(l.length:Int))=true:=decide_eq_true (by omega);have q2:decide ((0:Int)≤(i:Int))=true:=decide_eq_true (by omega);rw[q1,q2];simp only[Int.toNat_natCast,e4,e5,ao,am,cond_true,Bool.and_true,show i64.wrap ((i:Int)+1)=((i+1:Nat):Int) by rw[IntWalk.i64_in _ ⟨by omega,by omega⟩];omega];cases hc:cV c h with
  |true=>
   refine⟨_,_,fun K hK=>?_,j6 _ rfl _ _ _ _ h⟩;have hK:=out K hK;rw[hd,List.any_cons,hc]at hK;exact hK i
  |false=>
   refine⟨⟨x,l.length,strs l,h,i+1⟩,?_,j6 _ rfl _ _ _ _ h,by simp only[hxMu];omega,fun K hK=>?_⟩
   ·unfold le;rw[Bool.and_eq_true];exact⟨hx1,Nat.ble_eq_true_of_le (show i+1≤l.length by omega)⟩
   ·have hK:=out K hK;show nU x l.length (strs l) h (anyH ((strs l).drop (i+1)) h) K;rw[ha,e2];rw[hd,List.any_cons,hc,Bool.false_or]at hK;exact hK
noncomputable def lkHX:Nat→Trans→Trans:=aJ 26 (bu 2 (szOf Tryd.prog 91) [0,1,4,7,8] hxDec le hxV hxJ hxOut) (ac 9)
theorem lkHX_ok:aF Tryd.prog 2 lkHX 91:=by
 unfold lkHX;exact bk (aM 9 2 91) (by kernel_rfl) fun f st Q h=>aP (P:=Tryd.prog) (T:=HX0) (k:=2) (lim:=9) (n:=10) (g:=91) (p0:=26) (lk:=ac 9) av HX0_ok (aL 9 _ _) hxMu hx_roundOk h
noncomputable def HX1:Tab:=⟨noT,noL,cp (aK 9) 91 2 lkHX⟩
theorem HX1_ok:TabOk3 Tryd.prog HX1:=⟨aB,aC,bf (al 9) lkHX_ok⟩
theorem host_tree(k g:List UInt8)(x:Value)(n:Nat)(cs:List V)(f u:Int)(ca:Bool)(h:List UInt8)(R:V→Prop):runW Tryd.prog HX1 9 10 27 [.agg [.str k,.str g,.lst x n cs,.int .i64 f,.int .i64 u,.bool ca],.str h] R=
  (
 Fits 2 [.lst x n cs,V.func (Fn.func 66) [] [.ptr 1 0],.int i64 0,.int i64 (↑n:Int),.int i64 0] [.dead,.row [.str h] 9 1] [some
 (.lst x n cs),some (V.func (Fn.func 66) [] [.ptr 1 0]),some (.int i64 0),some (.int i64 (↑n:Int)),some (.int i64 0)] [.row [.str k,
 .str g,.lst x n cs,.int i64 f,.int i64 u,.bool ca] 24 6,.row [.str h] 9 1]∧bif le {x:=x,n:=n,cs:=cs,h:=h,i:=0}then bif
 anyH cs h then ∀(i:Nat),R (.bool true)else R (.bool false)else False):=by kernel_rfl
theorem host_sat(k g:List UInt8)(x:Value)(l:List (List UInt8))(f u:Int)(ca:Bool)(h:List UInt8)(hl:l.length≤9223372036854775807):
  FnSat Tryd.prog 27 [.agg [.str k,.str g,lstS x l,.int .i64 f,.int .i64 u,.bool ca],.str h] [] (Is (.bool (l.any fun s=>cV s h),[])):=by
 refine ay (lim:=9) (n:=10) av HX1_ok rfl rfl ?_;unfold lstS;rw[host_tree];have ha:anyH (strs l) h=l.any fun s=>cV s h:=by unfold anyH;rw[aA]
 rw[ha];refine⟨j6 _ rfl _ _ _ _ h,aa (by unfold le;rw[ey hl];exact Nat.ble_eq_true_of_le (Nat.zero_le _)) ?_⟩;cases l.any fun s=>cV s h with
 |false=>rfl
 |true=>intro _;rfl
def hasH(l:List (List UInt8))(h:List UInt8):Bool:=l.any fun s=>cV s h
def fc:List V→St→Option (List (Bool×(V×St)))
 |[.agg [.str k,.str g,p,.int .i64 f,.int .i64 u,.bool ca],.str h],st=>match bw st p with
  |some (b,l)=>some [(b&&Nat.ble l.length 9223372036854775807,(.bool (hasH l h),st))]
  |none=>none
 |_,_=>none
theorem hostG_ok(args:List V)(s:St)(l:List (Bool×(V×St)))(o:V×St)(h:fc args s=some l)(ho:aI l=some o):FnSat Tryd.prog 27 args s (Is o):=by
 unfold fc at h;split at h
 ·rename_i k g p f u ca hh;split at h
  ·rename_i b ls hv;cases h;obtain⟨hb,rfl⟩:=aT ho;rw[Bool.and_eq_true]at hb;obtain⟨rfl,h1⟩:=hb;refine cG rfl fun B W0 w m rargs hr ha=>?_;obtain⟨a,r,q1,q2,rfl⟩:=ah ha;obtain⟨y,hy⟩:=j8 hr hv q1;have q3:=aV (Ψ:=Frz.of w) (m':=[]) _ _ rfl q2;exact⟨[.agg [.str k,.str g,lstS y ls,.int .i64 f,.int .i64 u,.bool ca],.str hh],@aw _ (Frz.of w) [] _ _ _ _ hy q3,@host_sat (Frz.of w) k g y ls f u ca hh (Nat.le_of_ble_eq_true h1)⟩
  ·cases h
 ·cases h
theorem dates_tree(k g:List UInt8)(x:Value)(n:Nat)(cs:List V)(f u:Int)(ca:Bool)(now:Int)(R:V→Prop):runW Tryd.prog HX0 9 10 29 [.agg [.str k,.str g,.lst x n cs,.int .i64 f,.int .i64 u,.bool ca],.int .i64 now] R=
  (
 bif decide (f≤now)then R (.bool (decide (now≤u)))else R (.bool false)):=by kernel_rfl
def dl(f u now:Int):Bool:=decide (f≤now)&&decide (now≤u)
theorem dates_sat(k g:List UInt8)(x:Value)(n:Nat)(cs:List V)(f u:Int)(ca:Bool)(now:Int):
  FnSat Tryd.prog 29 [.agg [.str k,.str g,.lst x n cs,.int .i64 f,.int .i64 u,.bool ca],.int .i64 now] [] (Is (.bool (dl f u now),[])):=by
 refine ay (lim:=9) (n:=10) av HX0_ok rfl rfl ?_;rw[dates_tree];unfold dl;cases decide (f≤now)<;>rfl
def cX:List V→St→Option (List (Bool×(V×St)))
 |[.agg [.str k,.str g,p,.int .i64 f,.int .i64 u,.bool ca],.int .i64 now],st=>match bw st p with
  |some (b,_)=>some [(b,(.bool (dl f u now),st))]
  |none=>none
 |_,_=>none
theorem mH(args:List V)(s:St)(l:List (Bool×(V×St)))(o:V×St)(h:cX args s=some l)(ho:aI l=some o):FnSat Tryd.prog 29 args s (Is o):=by
 unfold cX at h;split at h
 ·rename_i k g p f u ca now;split at h
  ·rename_i b ls hv;cases h;obtain⟨rfl,rfl⟩:=aT ho;refine cG rfl fun B W0 w m rargs hr ha=>?_;obtain⟨a,r,q1,q2,rfl⟩:=ah ha;obtain⟨y,hy⟩:=j8 hr hv q1;have q3:=aV (Ψ:=Frz.of w) (m':=[]) _ _ rfl q2;exact⟨[.agg [.str k,.str g,lstS y ls,.int .i64 f,.int .i64 u,.bool ca],.int .i64 now],@aw _ (Frz.of w) [] _ _ _ _ hy q3,@dates_sat (Frz.of w) k g y _ _ f u ca now⟩
  ·cases h
 ·cases h
noncomputable def DG0:Tab:=⟨addT (addP noT 14 lO) 40 sumT,noL,aK 9⟩
theorem DG0_ok:TabOk3 Tryd.prog DG0:=⟨ba (aW aB spki_ok) sum_ok,aC,al 9⟩
theorem dig_tree(k:List UInt8)(R:V→Prop):runW Tryd.prog DG0 9 10 16 [.str k] R=
  (
 bif er k==[]then R (.str [])else bif okL (er k)then R (.str (sumF (er k)))else False):=by kernel_rfl
def digB(k:List UInt8):List UInt8:=bif er k==[]then[]else sumF (er k)
def digP:List V→Option V
 |[.str k]=>some (.str (digB k))
 |_=>none
theorem dig_ok(args:List V)(v:V)(h:digP args=some v):FnSat Tryd.prog 16 args [] (Is (v,[])):=by
 unfold digP at h;split at h
 ·rename_i k;cases h;refine ay (lim:=9) (n:=10) av DG0_ok rfl rfl ?_;rw[dig_tree];unfold digB;refine af (fun h=>?_) (fun h=>?_)
  ·rw[h];rfl
  ·rw[h];have hk:okL (er k)=true:=by
    refine decide_eq_true ?_;unfold er;split
    ·simp
    ·split
     ·simp
     ·have h1:=iJ 4 k;have h2:=iJ 48 (putB 4 k);omega
   rw[hk];rfl
 ·cases h
def lkT:List (Nat×V):=[(2,.ptr 0 0)]
noncomputable def lkRg:Array Tmp×Code×Code:=(db (fH Tryd.prog 31)).getD (#[],.skip,.skip)
noncomputable def lkAs:Code:=lkRg.2.1
noncomputable def lkBd:Code:=lkRg.2.2
noncomputable def lkL(s:LoopState)(p:Option Code):Blk:=gt Tryd.prog 31 s p lkT 2
noncomputable def LK0:Tab:=⟨addP noT 16 digP,noL,aK 9⟩
theorem LK0_ok:TabOk3 Tryd.prog LK0:=⟨aW aB dig_ok,aC,al 9⟩
theorem lk_round(b:Bool)(x:Value)(n:Nat)(cs:List V)(i:Int)(R:Exit→List (Option V)→St→Prop):ak Tryd.prog LK0 9 10 (ac 9) 104 6 [0,1,3] [.yield 3,.ptr 1 0,.int .i64 i] [.row [.bool b] 4 1,.row [.lst x n cs] 43 1,.defd,lkL .ready none] R=
  (
 bif decide (i<(↑n:Int))then bif decide (0≤i)&&decide (i<(↑n:Int))then bif (i.toNat*6+5).blt cs.length then bif bh (cs.getD (i.toNat*6+5)
 (.bool false))then bif bN (cs.getD (i.toNat*6+5) (.bool false))then bif decide (0≤i64.wrap (i-1))&&decide (i64.wrap (i-1)<(↑n:
 Int))then bif ((i64.wrap (i-1)).toNat*6+1).blt cs.length then bif ao (cs.getD ((i64.wrap (i-1)).toNat*6+1) (.bool false))then bif
 decide (0≤i)&&decide (i<(↑n:Int))then bif (i.toNat*6+0).blt cs.length then bif ao (cs.getD (i.toNat*6+0) (.bool false))then bif am (cs.getD
 ((i64.wrap (i-1)).toNat*6+1) (.bool false))==digB (am (cs.getD (i.toNat*6+0) (.bool false)))then R .normal [some (V.yield 3),some (.ptr 1
 0),some (.int i64 (i64.wrap (i+1)))] [.row [.bool b] 4 1,.row [.lst x n cs] 43 1,Blk.defd,lkL LoopState.ready none]else R .ret [some
 (V.yield 3),some (.ptr 1 0),some (.int i64 i)] [.row [.bool false] 4 1,.row [.lst x n cs] 43 1,Blk.defd,lkL LoopState.done (some Code.ret)]else
 False else False else False else False else False else False else R .ret [some (V.yield 3),some (.ptr 1 0),some (.int i64 i)] [.row [.bool false] 4 1,
 .row [.lst x n cs] 43 1,Blk.defd,lkL LoopState.done (some Code.ret)]else False else False else False else R (.exit 0) [some (V.yield 3),some (.ptr 1 0),some
 (.int i64 i)] [.row [.bool b] 4 1,.row [.lst x n cs] 43 1,Blk.defd,lkL LoopState.ready none]):=by kernel_rfl
def bD:List CR→Bool
 |a::b::r=>b.ca&&((a.g==digB b.k)&&bD (b::r))
 |_=>true
structure LK where
 b:Bool
 x:Value
 n:Nat
 cs:List V
 i:Nat
def lkV(y:LK):List V:=[.yield 3,.ptr 1 0,.int .i64 (y.i+1:Nat)]
noncomputable def lkM(b:Bool)(x:Value)(n:Nat)(cs:List V)(s:LoopState)(p:Option Code):St:=[.row [.bool b] 4 1,.row [.lst x n cs] 43 1,.defd,lkL s p]
noncomputable def lkJ(y:LK):St:=lkM y.b y.x y.n y.cs .ready none
def jB(y:LK):Bool:=okR y.n y.cs&&Nat.ble y.i y.n
def lkMu(y:LK):Nat:=y.n-y.i
def lkDec:List (Option V)→St→Option LK
 |[some (.yield 3),some (.ptr 1 0),some (.int .i64 1)],.row [.bool b] _ _::.row [.lst x n cs] _ _::_=>some ⟨b,x,n,cs,0⟩
 |_,_=>none
def linkV(cs:List V)(i:Nat):Bool:=bD ((crD [] cs).drop i)
noncomputable def lkOutG(b:Bool)(x:Value)(n:Nat)(cs:List V)(c:Bool)(K:Exit→List V→St→Prop):Prop:=
 bif c then ∀j:Int,K (.exit 0) [.yield 3,.ptr 1 0,.int .i64 j] (lkM b x n cs .ready none)else ∀j:Int,K .ret [.yield 3,.ptr 1 0,.int .i64 j] (lkM false x n cs .done (some .ret))
noncomputable def lkOut:Asks LK:=fun y K=>lkOutG y.b y.x y.n y.cs (linkV y.cs y.i) K
theorem lkL_fit(σ:List Nat)(h0:σ[0]?=some 0)(h2:σ[2]?=some 2)(s:LoopState)(p:Option Code):FitB σ (lkL s p) (lkL s p):=by
 unfold lkL gt;split
 ·refine .inr ⟨_,_,_,_,_,_,_,_,_,_,rfl,rfl,h2,FitT.of (fun t v hm=>?_)⟩;simp only[lkT,List.mem_cons,Prod.mk.injEq,List.not_mem_nil,or_false]at hm;obtain⟨rfl,rfl⟩:=hm;exact⟨.ptr 0 0,by simp[renV,h0],rfl⟩
 ·exact .inl rfl
theorem nQ(b:Bool)(x:Value)(n:Nat)(cs:List V)(j:Int)(s:LoopState)(p:Option Code):Fits 4 [.yield 3,.ptr 1 0,.int .i64 j] (lkM b x n cs s p) [some (.yield 3),some (.ptr 1 0),some (.int .i64 j)] (lkM b x n cs s p):=
 ⟨[0,1,2,3],[.yield 3,.ptr 1 0,.int .i64 j],rfl,rfl,FitsM.of ⟨.inr ⟨_,.inl rfl,rfl⟩,.inr ⟨_,.inl rfl,rfl⟩,.inr ⟨_,.inl rfl,rfl⟩,.inr ⟨_,lkL_fit _ rfl rfl s p,rfl⟩,trivial⟩,by decide,fun i hi=>by
   match i,hi with
   |0,_|1,_|2,_|3,_=>rfl⟩
theorem lk_roundOk(y:LK)(hx:jB y=true):ak Tryd.prog LK0 9 10 (ac 9) 104 6 [0,1,3] (lkV y) (lkJ y) (ap 4 jB lkV lkJ lkMu lkOut y):=by
 obtain⟨b,x,n,cs,i⟩:=y;unfold jB at hx;rw[Bool.and_eq_true]at hx;have p1:i≤n:=Nat.le_of_ble_eq_true hx.2;have hx1:okR n cs=true:=hx.1;obtain⟨p2,p3,p4,p5⟩:=dc hx1;show ak Tryd.prog LK0 9 10 (ac 9) 104 6 [0,1,3] [.yield 3,.ptr 1 0,.int .i64 ((i+1:Nat):Int)] [.row [.bool b] 4 1,.row [.lst x n cs] 43 1,.defd,lkL .ready none] _;rw[lk_round];have out:∀K,lkOut ⟨b,x,n,cs,i⟩ K→lkOutG b x n cs (bD ((crD [] cs).drop i)) K:=fun K hK=>hK;by_cases hi:i+1<n
 ·obtain⟨a,r,ha⟩:∃a r,(crD [] cs).drop i=a::r:=by
   cases hd:(crD [] cs).drop i with
   |nil=>have:=congrArg List.length hd;simp at this;omega
   |cons a r=>exact⟨a,r,rfl⟩
  obtain⟨_,ha2,_⟩:=aY ha;obtain⟨c,q,hc⟩:∃c q,r=c::q:=by
   cases r with
   |nil=>have:=congrArg List.length ha;simp at this;omega
   |cons c q=>exact⟨c,q,rfl⟩
  subst hc;have A:=fL p2 ha;have C:=fL p2 ha2;have w1:i64.wrap (((i+1:Nat):Int)-1)=(i:Int):=by rw[IntWalk.i64_in _ ⟨by omega,by omega⟩];omega
  have w2:i64.wrap (((i+1:Nat):Int)+1)=((i+1+1:Nat):Int):=by rw[IntWalk.i64_in _ ⟨by omega,by omega⟩];omega
  have d1:decide (((i+1:Nat):Int)<(n:Int))=true:=decide_eq_true (by omega);have d2:decide ((0:Int)≤((i+1:Nat):Int))=true:=decide_eq_true (by omega);have d3:decide ((i:Int)<(n:Int))=true:=decide_eq_true (by omega);have d4:decide ((0:Int)≤(i:Int))=true:=decide_eq_true (by omega);have l5:((i+1)*6+5).blt cs.length=true:=Nat.ble_eq_true_of_le (by omega);have l1:(i*6+1).blt cs.length=true:=Nat.ble_eq_true_of_le (by omega);have l0:((i+1)*6+0).blt cs.length=true:=Nat.ble_eq_true_of_le (by omega);simp only[w1,w2,d1,d2,d3,d4,Int.toNat_natCast,l5,l1,l0,A.g,C.ca,C.k,bh,bN,ao,am,Bool.and_self,cond_true];have next:(bD ((crD [] cs).drop i))=(c.ca&&((a.g==digB c.k)&&bD ((crD [] cs).drop (i+1)))):=by rw[ha,ha2];rfl
  have bad:bD ((crD [] cs).drop i)=false→ap 4 jB lkV lkJ lkMu lkOut ⟨b,x,n,cs,i⟩ .ret [some (.yield 3),some (.ptr 1 0),some (.int .i64 ((i+1:Nat):Int))] [.row [.bool false] 4 1,.row [.lst x n cs] 43 1,.defd,lkL .done (some .ret)]:=fun h=>by
   refine⟨_,_,fun K hK=>?_,nQ false x n cs _ .done (some .ret)⟩;have hK:=out K hK;rw[h]at hK;exact hK _
  refine af (fun h1=>?_) (fun h1=>bad (by rw[next,h1];rfl));refine af (fun h2=>?_) (fun h2=>bad (by rw[next,h1,h2];rfl));rw[h1,h2,Bool.true_and,Bool.true_and]at next
  refine⟨⟨b,x,n,cs,i+1⟩,?_,nQ b x n cs _ .ready none,by simp only[lkMu];omega,fun K hK=>?_⟩
  ·unfold jB;rw[Bool.and_eq_true];exact⟨hx1,Nat.ble_eq_true_of_le (show i+1≤n by omega)⟩
  ·have hK:=out K hK;rw[next]at hK;exact hK
 ·rw[decide_eq_false (show ¬(((i+1:Nat):Int)<(n:Int)) by omega),cond_false];refine⟨_,_,fun K hK=>?_,nQ b x n cs _ .ready none⟩;have hK:=out K hK;have:bD ((crD [] cs).drop i)=true:=by
   match hd:(crD [] cs).drop i with
   |[]=>rfl
   |[_]=>rfl
   |_::_::_=>have:=congrArg List.length hd;simp at this;omega
  rw[this]at hK;exact hK _
noncomputable def lkLK:Nat→Trans→Trans:=aJ 6 (bu 4 (szOf Tryd.prog 104) [0,1,3] lkDec jB lkV lkJ lkOut) (ac 9)
theorem lkLK_ok:aF Tryd.prog 4 lkLK 104:=by
 unfold lkLK;exact bk (aM 9 4 104) (by kernel_rfl) fun f st Q h=>aP (P:=Tryd.prog) (T:=LK0) (k:=4) (lim:=9) (n:=10) (g:=104) (p0:=6) (lk:=ac 9) av LK0_ok (aL 9 _ _) lkMu lk_roundOk h
noncomputable def LK1:Tab:=⟨addP noT 16 digP,noL,cp (aK 9) 104 4 lkLK⟩
theorem LK1_ok:TabOk3 Tryd.prog LK1:=⟨aW aB dig_ok,aC,bf (al 9) lkLK_ok⟩
theorem link_tree(x:Value)(n:Nat)(cs:List V)(R:V→Prop):runW Tryd.prog LK1 9 10 31 [.lst x n cs] R=
  (
 Fits 4 [V.yield 3,.ptr 1 0,.int i64 1] [.row [.bool false] 4 1,.row [.lst x n cs] 43 1,Blk.defd,lkL LoopState.ready none] [some (V.yield 3),some
 (.ptr 1 0),some (.int i64 1)] [.row [.bool false] 4 1,.row [.lst x n cs] 43 1,Blk.defd,Blk.loop LoopState.ready none 11 ((Tr.lf.nd none (Tr.lf.nd
 (some (.lst x n cs)) Tr.lf)).nd (some (.lst x n cs)) (Tr.lf.nd (some (.ptr 0 0)) (Tr.lf.nd (some (V.func (Fn.func 104) [] [.ptr 1 0])) Tr.lf))) {toList:=[7,8]}
 lkAs lkBd 2]∧bif jB {b:=false,x:=x,n:=n,cs:=cs,i:=0}then bif linkV cs 0 then ∀(j:Int),R (.bool true)else ∀(j:Int),R (.bool false)else
 False):=by kernel_rfl
theorem lk_enter(b:Bool)(x:Value)(n:Nat)(cs:List V)(T2:Tr)(h2:T2.get 2=some (.ptr 0 0)):
  Fits 4 [.yield 3,.ptr 1 0,.int .i64 1] [.row [.bool b] 4 1,.row [.lst x n cs] 43 1,.defd,lkL .ready none] [some (.yield 3),some (.ptr 1 0),some (.int .i64 1)] [.row [.bool b] 4 1,.row [.lst x n cs] 43 1,.defd,.loop .ready none 11 T2 {toList:=[7,8]} lkAs lkBd 2]:=by
 have hL:lkL .ready none=.loop .ready none 11 (ju .lf lkT) {toList:=[7,8]} lkAs lkBd 2:=by kernel_rfl
 refine⟨[0,1,2,3],[.yield 3,.ptr 1 0,.int .i64 1],rfl,rfl,FitsM.of ?_,by decide,fun i hi=>by
  match i,hi with
  |0,_|1,_|2,_|3,_=>rfl⟩
 refine⟨.inr ⟨_,.inl rfl,rfl⟩,.inr ⟨_,.inl rfl,rfl⟩,.inr ⟨_,.inl rfl,rfl⟩,.inr ⟨_,?_,rfl⟩,trivial⟩;rw[hL];refine .inr ⟨_,_,_,_,_,_,_,_,_,_,rfl,rfl,rfl,FitT.of fun t v hm=>?_⟩;simp only[lkT,List.mem_cons,Prod.mk.injEq,List.not_mem_nil,or_false]at hm;obtain⟨rfl,rfl⟩:=hm;exact⟨_,rfl,h2⟩
theorem link_sat(x:Value)(n:Nat)(cs:List V)(h:okR n cs=true):FnSat Tryd.prog 31 [.lst x n cs] [] (Is (.bool (bD (crD [] cs)),[])):=by
 refine ay (lim:=9) (n:=10) av LK1_ok rfl rfl ?_;rw[link_tree];refine⟨lk_enter _ _ _ _ _ rfl,aa ?_ ?_⟩
 ·unfold jB;rw[Bool.and_eq_true];exact⟨h,Nat.ble_eq_true_of_le (Nat.zero_le _)⟩
 ·have e:linkV cs 0=bD (crD [] cs):=rfl;rw[←e];cases linkV cs 0 with
  |true=>intro j;rfl
  |false=>intro j;rfl
def dU:List V→St→Option (List (Bool×(V×St)))
 |[p],st=>match dC st p with
  |some (b,l)=>some [(b&&Nat.ble l.length 9223372036854775807,(.bool (bD l),st))]
  |none=>none
 |_,_=>none
theorem linkG_ok(args:List V)(s:St)(l:List (Bool×(V×St)))(o:V×St)(h:dU args s=some l)(ho:aI l=some o):FnSat Tryd.prog 31 args s (Is o):=by
 unfold dU at h;split at h
 ·rename_i p;split at h
  ·rename_i b ls hv;cases h;obtain⟨hb,rfl⟩:=aT ho;rw[Bool.and_eq_true]at hb;obtain⟨rfl,h1⟩:=hb;refine cG rfl fun B W0 w m rargs hr ha=>?_;obtain⟨a,r,q1,q2,rfl⟩:=ah ha;obtain⟨L,e1,e2,e3⟩:=fM hr hv q1;have q3:=aV (Ψ:=Frz.of w) (m':=[]) _ _ rfl q2;have hl:L.length≤9223372036854775807:=by rw[←List.length_map (f:=(·.c)),e1];exact Nat.le_of_ble_eq_true h1
   have:=@link_sat (Frz.of w) a L.length (crs L) (i9 hl e3);rw[di,e1]at this;exact⟨[lstR a L],@aw _ (Frz.of w) [] _ _ _ _ e2 q3,this⟩
  ·cases h
 ·cases h
structure RDX where
 s:List UInt8
 lc:List V
 nl:Nat
 ds:List V
 n:Nat
 k:List UInt8
 g:List UInt8
 i:Nat
noncomputable def RG0:Tab:=⟨addT (addP noT 15 lO) 41 sumT,noL,aK 9⟩
theorem RG0_ok:TabOk3 Tryd.prog RG0:=⟨ba (aW aB rspki_ok) rsum_ok,aC,al 9⟩
theorem rdg_tree(k:List UInt8)(R:V→Prop):runW Tryd.prog RG0 9 10 17 [.str k] R=
  (
 bif er k==[]then R (.str [])else bif okL (er k)then R (.str (sumF (er k)))else False):=by kernel_rfl
theorem rdates_tree(k g:List UInt8)(x:Value)(n:Nat)(cs:List V)(f u:Int)(ca:Bool)(now:Int)(R:V→Prop):runW Tryd.prog RG0 9 10 30 [.agg [.str k,.str g,.lst x n cs,.int .i64 f,.int .i64 u,.bool ca],.int .i64 now] R=
  (
 bif decide (now≥f)then R (.bool (decide (now≤u)))else R (.bool false)):=by kernel_rfl
noncomputable def RG1:Tab:=⟨addT (addT (addT noT 70 rmatT) 71 rparT) 72 rlabsT,noL,aK 9⟩
theorem RG1_ok:TabOk3 Tryd.prog RG1:=⟨ba (ba (ba aB rmat_ok) rpar_ok) rlabs_ok,aC,al 9⟩
noncomputable def zK_0(k g:List UInt8)(x:Value)(n:Nat)(cs:List V)(f u:Int)(ca:Bool):=[V.str k,V.str g,V.lst x n cs,V.int i64 f,V.int i64 u,V.bool ca]
noncomputable def zK_1(h:List UInt8)(i:Int):=[some (V.str h),some (V.ptr 0 0),some (V.bool false),some (V.int i64 (i64.wrap (i+1)))]
theorem rh_round(k g:List UInt8)(x:Value)(n:Nat)(cs:List V)(f u:Int)(ca:Bool)(h:List UInt8)(i:Int)(R:Exit→List (Option V)→St→Prop):ak Tryd.prog RG1 9 10 (ac 9) 28 26 [1,2,4,5] [.str h,.ptr 0 0,.bool false,.int .i64 i] [.row [.str k,.str g,.lst x n cs,.int .i64 f,.int .i64 u,.bool ca] 31 6] R=
 (
 bif decide (i<(↑n:Int))then bif decide (0≤i)&&decide (i<(↑n:Int))then bif (i.toNat*1).blt cs.length then bif ao (cs.getD (i.toNat*1)
 (.bool false))then bif aO (am (cs.getD (i.toNat*1) (.bool false)))&&aO h then bif !dZ (am (cs.getD (i.toNat*1) (.bool false))) h then
 R .normal (zK_1 h i) [.row (zK_0 k g x n cs f u ca) 31 6]else bif true&&Nat.blt 0 (am (cs.getD (i.toNat*1) (.bool false))).length then bif
 (↑((am (cs.getD (i.toNat*1) (.bool false))).getD 0 0).toNat:Int)!=42 then R .ret [some (.str h),some (.ptr 0 0),some (.bool true),some
 (.int i64 i)] [.row (zK_0 k g x n cs f u ca) 31 6]else bif aO h then bif aO (bif parB h then cutR h else[])&&mayN (bif parB h then cutR h
 else[])then bif decide ((↑(lsN (bif parB h then cutR h else[]) []):Int)≥2)then R .ret [some (.str h),some (.ptr 0 0),some (.bool true),some
 (.int i64 i)] [.row (zK_0 k g x n cs f u ca) 31 6,.row (cd 1 (lsC (bif parB h then cutR h else[]) [])) 9 1]else R .normal (zK_1 h i)
 [.row (zK_0 k g x n cs f u ca) 31 6,.row (cd 1 (lsC (bif parB h then cutR h else[]) [])) 9 1]else bif aO (bif parB h then cutR h else[])&&
 !mayN (bif parB h then cutR h else[])then R .normal (zK_1 h i) [.row (zK_0 k g x n cs f u ca) 31 6]else False else False else False else False else
 False else False else False else R (.exit 0) [some (.str h),some (.ptr 0 0),some (.bool false),some (.int i64 i)] [.row (zK_0 k g x n cs f
 u ca) 31 6]):=by kernel_rfl
theorem rdg_ok(args:List V)(v:V)(h:digP args=some v):FnSat Tryd.prog 17 args [] (Is (v,[])):=by
 unfold digP at h;split at h
 ·rename_i k;cases h;refine ay (lim:=9) (n:=10) av RG0_ok rfl rfl ?_;rw[rdg_tree];unfold digB;refine af (fun h=>?_) (fun h=>?_)
  ·rw[h];rfl
  ·rw[h];have hk:okL (er k)=true:=by
    refine decide_eq_true ?_;unfold er;split
    ·simp
    ·split
     ·simp
     ·have h1:=iJ 4 k;have h2:=iJ 48 (putB 4 k);omega
   rw[hk];rfl
 ·cases h
theorem rdates_sat(k g:List UInt8)(x:Value)(n:Nat)(cs:List V)(f u:Int)(ca:Bool)(now:Int):
  FnSat Tryd.prog 30 [.agg [.str k,.str g,.lst x n cs,.int .i64 f,.int .i64 u,.bool ca],.int .i64 now] [] (Is (.bool (dl f u now),[])):=by
 refine ay (lim:=9) (n:=10) av RG0_ok rfl rfl ?_;rw[rdates_tree];unfold dl;show bif decide (f≤now)then _ else _
 cases decide (f≤now)<;>rfl
theorem kF(args:List V)(s:St)(l:List (Bool×(V×St)))(o:V×St)(h:cX args s=some l)(ho:aI l=some o):FnSat Tryd.prog 30 args s (Is o):=by
 unfold cX at h;split at h
 ·rename_i k g p f u ca now;split at h
  ·rename_i b ls hv;cases h;obtain⟨rfl,rfl⟩:=aT ho;refine cG rfl fun B W0 w m rargs hr ha=>?_;obtain⟨a,r,q1,q2,rfl⟩:=ah ha;obtain⟨y,hy⟩:=j8 hr hv q1;have q3:=aV (Ψ:=Frz.of w) (m':=[]) _ _ rfl q2;exact⟨[.agg [.str k,.str g,lstS y ls,.int .i64 f,.int .i64 u,.bool ca],.int .i64 now],@aw _ (Frz.of w) [] _ _ _ _ hy q3,@rdates_sat (Frz.of w) k g y _ _ f u ca now⟩
  ·cases h
 ·cases h
theorem may_first{s:List UInt8}(h:mayN s=true):0<s.length∧((s.getD 0 0).toNat:Int)≠42:=by
 rw[mayN_all,Bool.and_eq_true,Bool.and_eq_true]at h;obtain⟨q,hq,_⟩:=lb s;have h1:=h.2.1;rw[hq,List.all_cons,Bool.and_eq_true]at h1;have h2:=h1.1;unfold bz at h2;rw[Bool.and_eq_true,Bool.and_eq_true,Bool.and_eq_true,Bool.and_eq_true]at h2;have h3:=of_decide_eq_true h2.1;have h4:=h2.2.2.2.2;unfold cutB at h3 h4;cases s with
 |nil=>simp[cutA]at h3
 |cons c r=>
  by_cases hc:c=46
  ·subst hc;simp[cutA]at h3
  ·refine⟨by simp,fun e=>?_⟩;have e:(c.toNat:Int)=42:=e;have e:c.toNat=42:=by omega
   rw[cutA,if_neg hc]at h4;unfold cj at h4;rw[List.all_cons,Bool.and_eq_true]at h4;have h5:=h4.1;unfold cz at h5;rw[if_neg (by omega),if_neg (by omega)]at h5;cases h5
theorem pat_first{s:List UInt8}(h:patN s=true):0<s.length∧((((s.getD 0 0).toNat:Int)!=42)=!cU s):=by
 unfold patN at h;rw[mP]at h;cases hs:cU s with
 |true=>
  have h1:s.take 2=[42,46]:=by unfold cU at hs;exact eq_of_beq hs
  cases s with
  |nil=>simp at h1
  |cons c r=>
   have h2:c=42:=by
    have:=congrArg (fun l=>l.head?) h1;simpa using this
   subst h2;exact⟨by simp,rfl⟩
 |false=>
  rw[hs,cond_false]at h;obtain⟨h1,h2⟩:=may_first h;refine⟨h1,?_⟩;show(((s.getD 0 0).toNat:Int)!=42)=true;rw[bne_iff_ne];exact h2
structure RH where
 k:List UInt8
 g:List UInt8
 x:Value
 n:Nat
 cs:List V
 f:Int
 u:Int
 ca:Bool
 h:List UInt8
 i:Nat
def rhV(y:RH):List V:=[.str y.h,.ptr 0 0,.bool false,.int .i64 y.i]
def rhJ(y:RH):St:=[.row [.str y.k,.str y.g,.lst y.x y.n y.cs,.int .i64 y.f,.int .i64 y.u,.bool y.ca] 31 6]
def oi(cs:List V):Bool:=(cs.map am).all aO
def iG(y:RH):Bool:=(okS y.n y.cs&&(oi y.cs&&aO y.h))&&Nat.ble y.i y.n
def rhMu(y:RH):Nat:=y.n-y.i
def nj(h:List UInt8)(b:Bool)(n:Nat)(K:Exit→List V→St→Prop):Prop:=
 bif b then ∀i:Nat,K .ret [.str h,.ptr 0 0,.bool true,.int .i64 i] [.dead]else K (.exit 0) [.str h,.ptr 0 0,.bool false,.int .i64 n] [.dead]
def rhOut:Asks RH:=fun y K=>nj y.h (anyH (y.cs.drop y.i) y.h) y.n K
def rhDec:List (Option V)→St→Option RH
 |[some (.str h),some (.ptr 0 0),some (.bool false),some (.int .i64 0)],.row [.str k,.str g,.lst x n cs,.int .i64 f,.int .i64 u,.bool ca] _ _::_=>some ⟨k,g,x,n,cs,f,u,ca,h,0⟩
 |_,_=>none
theorem rh_fits(k g:List UInt8)(x:Value)(n:Nat)(cs:List V)(f u:Int)(ca b:Bool)(h:List UInt8)(i:Int)(r:St):Fits 0 [.str h,.ptr 0 0,.bool b,.int .i64 i] [.row [.str k,.str g,.lst x n cs,.int .i64 f,.int .i64 u,.bool ca] 31 6] [some (.str h),some (.ptr 0 0),some (.bool b),some (.int .i64 i)] (.row [.str k,.str g,.lst x n cs,.int .i64 f,.int .i64 u,.bool ca] 31 6::r):=
 ⟨[0],[.str h,.ptr 0 0,.bool b,.int .i64 i],rfl,rfl,FitsM.of ⟨.inr ⟨_,.inl rfl,rfl⟩,trivial⟩,by decide,fun i hi=>by omega⟩
theorem rh_out(b:Bool)(h:List UInt8)(i:Int)(c:Blk)(r:St):Fits 0 [.str h,.ptr 0 0,.bool b,.int .i64 i] [.dead] [some (.str h),some (.ptr 0 0),some (.bool b),some (.int .i64 i)] (c::r):=
 ⟨[0],[.str h,.ptr 0 0,.bool b,.int .i64 i],rfl,rfl,FitsM.of ⟨.inl rfl,trivial⟩,by decide,fun i hi=>by omega⟩
theorem rh_roundOk(y:RH)(hx:iG y=true):ak Tryd.prog RG1 9 10 (ac 9) 28 26 [1,2,4,5] (rhV y) (rhJ y) (ap 0 iG rhV rhJ rhMu rhOut y):=by
 obtain⟨k,g,x,n,cs,f,u,ca,h,i⟩:=y;unfold iG at hx;have hx0:=hx;rw[Bool.and_eq_true,Bool.and_eq_true,Bool.and_eq_true]at hx;have p1:i≤n:=Nat.le_of_ble_eq_true hx.2;have hx1:okS n cs=true:=hx.1.1;have hx2:oi cs=true:=hx.1.2.1;have hx3:aO h=true:=hx.1.2.2;obtain⟨l,rfl,rfl,p2,p3⟩:=cL hx1;show ak Tryd.prog RG1 9 10 (ac 9) 28 26 [1,2,4,5] [.str h,.ptr 0 0,.bool false,.int .i64 i] [.row [.str k,.str g,.lst x l.length (strs l),.int .i64 f,.int .i64 u,.bool ca] 31 6] _;rw[rh_round];unfold zK_1 zK_0;have hl:l.all aO=true:=by unfold oi at hx2;rw[aA]at hx2;exact hx2
 have ha:∀j,anyH ((strs l).drop j) h=(l.drop j).any fun s=>cV s h:=fun j=>by
  unfold anyH;rw[List.map_drop,aA]
 have out:∀K,rhOut ⟨k,g,x,l.length,strs l,f,u,ca,h,i⟩ K→nj h ((l.drop i).any fun s=>cV s h) l.length K:=fun K hK=>by
  have hK:nj h (anyH ((strs l).drop i) h) l.length K:=hK;rw[ha]at hK;exact hK
 cases hd:l.drop i with
 |nil=>
  have hi:=bH hd p1;rw[decide_eq_false (show ¬((i:Int)<(l.length:Int)) by omega),cond_false];refine⟨_,_,fun K hK=>?_,rh_out false h i _ _⟩;have hK:=out K hK;rw[hd]at hK;rw[hi];exact hK
 |cons c r=>
  obtain⟨e1,e2,e3⟩:=aY hd;obtain⟨e4,e5⟩:=dM hd;have q1:decide ((i:Int)<(l.length:Int))=true:=decide_eq_true (by omega);have q2:decide ((0:Int)≤(i:Int))=true:=decide_eq_true (by omega);have hcl:aO c=true:=List.all_eq_true.1 hl c (List.mem_of_mem_drop (by rw[hd];exact List.mem_cons_self));rw[q1,q2];simp only[Int.toNat_natCast,e4,e5,ao,am,cond_true,Bool.and_true,Bool.true_and,hcl,hx3,show i64.wrap ((i:Int)+1)=((i+1:Nat):Int) by rw[IntWalk.i64_in _ ⟨by omega,by omega⟩];omega];have yes:cV c h=true→∀st:St,ap 0 iG rhV rhJ rhMu rhOut ⟨k,g,x,l.length,strs l,f,u,ca,h,i⟩ .ret [some (.str h),some (.ptr 0 0),some (.bool true),some (.int .i64 i)] (.row [.str k,.str g,.lst x l.length (strs l),.int .i64 f,.int .i64 u,.bool ca] 31 6::st):=fun hc st=>by
   refine⟨_,_,fun K hK=>?_,rh_out true h i _ _⟩;have hK:=out K hK;rw[hd,List.any_cons,hc]at hK;exact hK i
  have no:cV c h=false→∀st:St,ap 0 iG rhV rhJ rhMu rhOut ⟨k,g,x,l.length,strs l,f,u,ca,h,i⟩ .normal [some (.str h),some (.ptr 0 0),some (.bool false),some (.int .i64 ((i+1:Nat):Int))] (.row [.str k,.str g,.lst x l.length (strs l),.int .i64 f,.int .i64 u,.bool ca] 31 6::st):=fun hc st=>by
   refine⟨⟨k,g,x,l.length,strs l,f,u,ca,h,i+1⟩,?_,rh_fits k g x _ _ f u ca false h _ st,by simp only[rhMu];omega,fun K hK=>?_⟩
   ·unfold iG;rw[Bool.and_eq_true,Bool.and_eq_true,Bool.and_eq_true];exact⟨hx.1,Nat.ble_eq_true_of_le (show i+1≤l.length by omega)⟩
   ·have hK:=out K hK;show nj h (anyH ((strs l).drop (i+1)) h) l.length K;rw[ha,e2];rw[hd,List.any_cons,hc,Bool.false_or]at hK;exact hK
  cases hm:dZ c h with
  |false=>exact no (by unfold cV;rw[hm];rfl) []
  |true=>
   have hm2:=hm;unfold dZ at hm2;rw[Bool.and_eq_true,Bool.and_eq_true]at hm2;obtain⟨f1,f2⟩:=pat_first hm2.1;rw[Bool.not_true,cond_false];refine aa (Nat.ble_eq_true_of_le f1) ?_;rw[f2];cases hs:cU c with
   |false=>exact yes (by unfold cV;rw[hm,hs];rfl) []
   |true=>
    rw[hs,cond_true,Bool.and_eq_true]at hm2;have hr:cutR h=bJ c:=eq_of_beq hm2.2.2.2;have hpm:mayN (bJ c)=true:=hm2.1;have hlm:aO (bJ c)=true:=ia hcl;rw[Bool.not_true,cond_false,hm2.2.2.1,cond_true,hr,hpm,hlm,Bool.and_self,cond_true];refine af (fun hg=>?_) (fun hg=>?_)
    ·refine yes ?_ _;have:=of_decide_eq_true hg;unfold cV;rw[hm,hs,decide_eq_true (by omega:(lsN (bJ c) []:Int)>1)];rfl
    ·refine no ?_ _;have:=of_decide_eq_false hg;unfold cV;rw[hm,hs,decide_eq_false (by omega:¬(lsN (bJ c) []:Int)>1)];rfl
noncomputable def lkRH:Nat→Trans→Trans:=aJ 26 (bu 0 (szOf Tryd.prog 28) [1,2,4,5] rhDec iG rhV rhJ rhOut) (ac 9)
theorem lkRH_ok:aF Tryd.prog 0 lkRH 28:=by
 unfold lkRH;exact bk (aM 9 0 28) (by kernel_rfl) fun f st Q h=>aP (P:=Tryd.prog) (T:=RG1) (k:=0) (lim:=9) (n:=10) (g:=28) (p0:=26) (lk:=ac 9) av RG1_ok (aL 9 _ _) rhMu rh_roundOk h
noncomputable def RG2:Tab:=⟨noT,noL,cp (aK 9) 28 0 lkRH⟩
theorem RG2_ok:TabOk3 Tryd.prog RG2:=⟨aB,aC,bf (al 9) lkRH_ok⟩
theorem rhost_tree(k g:List UInt8)(x:Value)(n:Nat)(cs:List V)(f u:Int)(ca:Bool)(h:List UInt8)(R:V→Prop):runW Tryd.prog RG2 9 10 28 [.agg [.str k,.str g,.lst x n cs,.int .i64 f,.int .i64 u,.bool ca],.str h] R=
  (
 Fits 0 [.str h,.ptr 0 0,.bool false,.int i64 0] [.row [.str k,.str g,.lst x n cs,.int i64 f,.int i64 u,.bool ca] 31 6] [some
 (.str h),some (.ptr 0 0),some (.bool false),some (.int i64 0)] [.row [.str k,.str g,.lst x n cs,.int i64 f,.int i64 u,.bool
 ca] 31 6]∧bif iG {k:=k,g:=g,x:=x,n:=n,cs:=cs,f:=f,u:=u,ca:=ca,h:=h,i:=0}then bif anyH cs h then ∀(i:Nat),R (.bool true)else R
 (.bool false)else False):=by kernel_rfl
theorem rhost_sat(k g:List UInt8)(x:Value)(l:List (List UInt8))(f u:Int)(ca:Bool)(h:List UInt8)(hl:l.length≤9223372036854775807)(hk:(l.all aO&&aO h)=true):
  FnSat Tryd.prog 28 [.agg [.str k,.str g,lstS x l,.int .i64 f,.int .i64 u,.bool ca],.str h] [] (Is (.bool (hasH l h),[])):=by
 refine ay (lim:=9) (n:=10) av RG2_ok rfl rfl ?_;unfold lstS;rw[rhost_tree];have ha:anyH (strs l) h=l.any fun s=>cV s h:=by unfold anyH;rw[aA]
 rw[ha];refine⟨rh_fits k g x _ _ f u ca false h 0 [],aa ?_ ?_⟩
 ·unfold iG oi;rw[ey hl,aA,Bool.true_and,Bool.and_eq_true];exact⟨hk,Nat.ble_eq_true_of_le (Nat.zero_le _)⟩
 show bif l.any (fun s=>cV s h)then _ else _
 unfold hasH;cases l.any fun s=>cV s h with
 |false=>rfl
 |true=>intro _;rfl
def dI:List V→St→Option (List (Bool×(V×St)))
 |[.agg [.str k,.str g,p,.int .i64 f,.int .i64 u,.bool ca],.str h],st=>match bw st p with
  |some (b,l)=>some [(b&&(Nat.ble l.length 9223372036854775807&&(l.all aO&&aO h)),(.bool (hasH l h),st))]
  |none=>none
 |_,_=>none
theorem rhostG_ok(args:List V)(s:St)(l:List (Bool×(V×St)))(o:V×St)(h:dI args s=some l)(ho:aI l=some o):FnSat Tryd.prog 28 args s (Is o):=by
 unfold dI at h;split at h
 ·rename_i k g p f u ca hh;split at h
  ·rename_i b ls hv;cases h;obtain⟨hb,rfl⟩:=aT ho;rw[Bool.and_eq_true,Bool.and_eq_true]at hb;obtain⟨rfl,h1,h2⟩:=hb;refine cG rfl fun B W0 w m rargs hr ha=>?_;obtain⟨a,r,q1,q2,rfl⟩:=ah ha;obtain⟨y,hy⟩:=j8 hr hv q1;have q3:=aV (Ψ:=Frz.of w) (m':=[]) _ _ rfl q2;exact⟨[.agg [.str k,.str g,lstS y ls,.int .i64 f,.int .i64 u,.bool ca],.str hh],@aw _ (Frz.of w) [] _ _ _ _ hy q3,@rhost_sat (Frz.of w) k g y ls f u ca hh (Nat.le_of_ble_eq_true h1) h2⟩
  ·cases h
 ·cases h
noncomputable def RL0:Tab:=⟨addP noT 17 digP,noL,aK 9⟩
theorem RL0_ok:TabOk3 Tryd.prog RL0:=⟨aW aB rdg_ok,aC,al 9⟩
theorem rlk_round(x:Value)(n:Nat)(cs:List V)(i:Int)(R:Exit→List (Option V)→St→Prop):ak Tryd.prog RL0 9 10 (ac 9) 32 26 [0,2,3] [.lst x n cs,.bool false,.int .i64 i] [] R=
  (
 bif decide (i64.wrap (i+1)<(↑n:Int))then bif decide (0≤i)&&decide (i<(↑n:Int))then bif (i.toNat*6+1).blt cs.length then bif ao (cs.getD
 (i.toNat*6+1) (.bool false))then bif decide (0≤i64.wrap (i+1))&&decide (i64.wrap (i+1)<(↑n:Int))then bif ((i64.wrap (i+
 1)).toNat*6+0).blt cs.length then bif ao (cs.getD ((i64.wrap (i+1)).toNat*6+0) (.bool false))then bif !am (cs.getD (i.toNat*6+1) (.bool
 false))==digB (am (cs.getD ((i64.wrap (i+1)).toNat*6+0) (.bool false)))then R .ret [some (.lst x n cs),some (.bool false),some (.int
 i64 i)] []else bif decide (0≤i64.wrap (i+1))&&decide (i64.wrap (i+1)<(↑n:Int))then bif ((i64.wrap (i+1)).toNat*6+
 5).blt cs.length then bif bh (cs.getD ((i64.wrap (i+1)).toNat*6+5) (.bool false))then bif !bN (cs.getD ((i64.wrap (i+1)).toNat*6+
 5) (.bool false))then R .ret [some (.lst x n cs),some (.bool false),some (.int i64 i)] []else R .normal [some (.lst x n cs),some (.bool false),
 some (.int i64 (i64.wrap (i+1)))] []else False else False else False else False else False else False else False else False else False else R
 (.exit 0) [some (.lst x n cs),some (.bool false),some (.int i64 i)] []):=by kernel_rfl
structure RLX where
 x:Value
 n:Nat
 cs:List V
 i:Nat
def rlxV(y:RLX):List V:=[.lst y.x y.n y.cs,.bool false,.int .i64 y.i]
def rlxJ(_:RLX):St:=[]
def fR(y:RLX):Bool:=okR y.n y.cs&&Nat.ble y.i (y.n-1)
def rlxMu(y:RLX):Nat:=y.n-y.i
def rlxDec:List (Option V)→St→Option RLX
 |[some (.lst x n cs),some (.bool false),some (.int .i64 0)],_=>some ⟨x,n,cs,0⟩
 |_,_=>none
def linkS(cs:List V)(i:Nat):Bool:=bD ((crD [] cs).drop i)
def rlxOutG(x:Value)(n:Nat)(cs:List V)(c:Bool)(K:Exit→List V→St→Prop):Prop:=
 bif c then ∀j:Int,K (.exit 0) [.lst x n cs,.bool false,.int .i64 j] []else ∀j:Int,K .ret [.lst x n cs,.bool false,.int .i64 j] []
def nh:Asks RLX:=fun y K=>rlxOutG y.x y.n y.cs (linkS y.cs y.i) K
theorem rlx_roundOk(y:RLX)(hx:fR y=true):ak Tryd.prog RL0 9 10 (ac 9) 32 26 [0,2,3] (rlxV y) (rlxJ y) (ap 0 fR rlxV rlxJ rlxMu nh y):=by
 obtain⟨x,n,cs,i⟩:=y;unfold fR at hx;rw[Bool.and_eq_true]at hx;have p1:i≤n-1:=Nat.le_of_ble_eq_true hx.2;have hx1:okR n cs=true:=hx.1;obtain⟨p2,p3,p4,p5⟩:=dc hx1;show ak Tryd.prog RL0 9 10 (ac 9) 32 26 [0,2,3] [.lst x n cs,.bool false,.int .i64 i] [] _;rw[rlk_round];have out:∀K,nh ⟨x,n,cs,i⟩ K→rlxOutG x n cs (bD ((crD [] cs).drop i)) K:=fun K hK=>hK;have w2:i64.wrap ((i:Int)+1)=((i+1:Nat):Int):=by rw[IntWalk.i64_in _ ⟨by omega,by omega⟩];omega
 rw[w2];by_cases hi:i+1<n
 ·obtain⟨a,r,ha⟩:∃a r,(crD [] cs).drop i=a::r:=by
   cases hd:(crD [] cs).drop i with
   |nil=>have:=congrArg List.length hd;simp at this;omega
   |cons a r=>exact⟨a,r,rfl⟩
  obtain⟨_,ha2,_⟩:=aY ha;obtain⟨c,q,hc⟩:∃c q,r=c::q:=by
   cases r with
   |nil=>have:=congrArg List.length ha;simp at this;omega
   |cons c q=>exact⟨c,q,rfl⟩
  subst hc;have A:=fL p2 ha;have C:=fL p2 ha2;have d1:decide (((i+1:Nat):Int)<(n:Int))=true:=decide_eq_true (by omega);have d2:decide ((0:Int)≤((i+1:Nat):Int))=true:=decide_eq_true (by omega);have d3:decide ((i:Int)<(n:Int))=true:=decide_eq_true (by omega);have d4:decide ((0:Int)≤(i:Int))=true:=decide_eq_true (by omega);have l5:((i+1)*6+5).blt cs.length=true:=Nat.ble_eq_true_of_le (by omega);have l1:(i*6+1).blt cs.length=true:=Nat.ble_eq_true_of_le (by omega);have l0:((i+1)*6+0).blt cs.length=true:=Nat.ble_eq_true_of_le (by omega);simp only[d1,d2,d3,d4,Int.toNat_natCast,l5,l1,l0,A.g,C.ca,C.k,bh,bN,ao,am,Bool.and_self,cond_true];have next:(bD ((crD [] cs).drop i))=(c.ca&&((a.g==digB c.k)&&bD ((crD [] cs).drop (i+1)))):=by rw[ha,ha2];rfl
  have bad:bD ((crD [] cs).drop i)=false→ap 0 fR rlxV rlxJ rlxMu nh ⟨x,n,cs,i⟩ .ret [some (.lst x n cs),some (.bool false),some (.int .i64 (i:Int))] []:=fun h=>by
   refine⟨_,[],fun K hK=>?_,au [.lst x n cs,.bool false,.int .i64 i] rfl _ rfl _⟩;have hK:=out K hK;rw[h]at hK;exact hK _
  cases h1:(a.g==digB c.k)with
  |false=>exact bad (by rw[next,h1];simp)
  |true=>
   cases h2:c.ca with
   |false=>exact bad (by rw[next,h2];rfl)
   |true=>
    rw[h1,h2,Bool.true_and,Bool.true_and]at next
    refine⟨⟨x,n,cs,i+1⟩,?_,au [.lst x n cs,.bool false,.int .i64 ((i+1:Nat):Int)] rfl _ rfl _,by simp only[rlxMu];omega,fun K hK=>?_⟩
    ·unfold fR;rw[Bool.and_eq_true];exact⟨hx1,Nat.ble_eq_true_of_le (show i+1≤n-1 by omega)⟩
    ·have hK:=out K hK;rw[next]at hK;exact hK
 ·rw[decide_eq_false (show ¬(((i+1:Nat):Int)<(n:Int)) by omega),cond_false];refine⟨_,[],fun K hK=>?_,au [.lst x n cs,.bool false,.int .i64 i] rfl _ rfl _⟩;have hK:=out K hK;have:bD ((crD [] cs).drop i)=true:=by
   match hd:(crD [] cs).drop i with
   |[]=>rfl
   |[_]=>rfl
   |_::_::_=>have:=congrArg List.length hd;simp at this;omega
  rw[this]at hK;exact hK _
noncomputable def lkRLX:Nat→Trans→Trans:=aJ 26 (bu 0 (szOf Tryd.prog 32) [0,2,3] rlxDec fR rlxV rlxJ nh) (ac 9)
theorem lkRLX_ok:aF Tryd.prog 0 lkRLX 32:=by
 unfold lkRLX;exact bk (aM 9 0 32) (by kernel_rfl) fun f st Q h=>aP (P:=Tryd.prog) (T:=RL0) (k:=0) (lim:=9) (n:=10) (g:=32) (p0:=26) (lk:=ac 9) av RL0_ok (aL 9 _ _) rlxMu rlx_roundOk h
noncomputable def RL1:Tab:=⟨noT,noL,cp (aK 9) 32 0 lkRLX⟩
theorem RL1_ok:TabOk3 Tryd.prog RL1:=⟨aB,aC,bf (al 9) lkRLX_ok⟩
theorem rlink_tree(x:Value)(n:Nat)(cs:List V)(R:V→Prop):runW Tryd.prog RL1 9 10 32 [.lst x n cs] R=
  (
 Fits 0 [.lst x n cs,.bool false,.int i64 0] [] [some (.lst x n cs),some (.bool false),some (.int i64 0)] []∧bif fR {x:=x,n:=n,cs:=cs,i:=0}
 then bif linkS cs 0 then ∀(j:Int),R (.bool true)else ∀(j:Int),R (.bool false)else False):=by kernel_rfl
theorem rlink_sat(x:Value)(n:Nat)(cs:List V)(h:okR n cs=true):FnSat Tryd.prog 32 [.lst x n cs] [] (Is (.bool (bD (crD [] cs)),[])):=by
 refine ay (lim:=9) (n:=10) av RL1_ok rfl rfl ?_;rw[rlink_tree];refine⟨au [.lst x n cs,.bool false,.int .i64 0] rfl _ rfl _,aa ?_ ?_⟩
 ·unfold fR;rw[Bool.and_eq_true];exact⟨h,Nat.ble_eq_true_of_le (Nat.zero_le _)⟩
 ·have e:linkS cs 0=bD (crD [] cs):=rfl;rw[←e];cases linkS cs 0 with
  |true=>intro j;rfl
  |false=>intro j;rfl
theorem lX(args:List V)(s:St)(l:List (Bool×(V×St)))(o:V×St)(h:dU args s=some l)(ho:aI l=some o):FnSat Tryd.prog 32 args s (Is o):=by
 unfold dU at h;split at h
 ·rename_i p;split at h
  ·rename_i b ls hv;cases h;obtain⟨hb,rfl⟩:=aT ho;rw[Bool.and_eq_true]at hb;obtain⟨rfl,h1⟩:=hb;refine cG rfl fun B W0 w m rargs hr ha=>?_;obtain⟨a,r,q1,q2,rfl⟩:=ah ha;obtain⟨L,e1,e2,e3⟩:=fM hr hv q1;have q3:=aV (Ψ:=Frz.of w) (m':=[]) _ _ rfl q2;have hl:L.length≤9223372036854775807:=by rw[←List.length_map (f:=(·.c)),e1];exact Nat.le_of_ble_eq_true h1
   have:=@rlink_sat (Frz.of w) a L.length (crs L) (i9 hl e3);rw[di,e1]at this;exact⟨[lstR a L],@aw _ (Frz.of w) [] _ _ _ _ e2 q3,this⟩
  ·cases h
 ·cases h
theorem in_round(x:Value)(n:Nat)(cs:List V)(s:List UInt8)(i:Int)(R:Exit→List (Option V)→St→Prop):ak Tryd.prog T3 9 10 (ac 9) 105 26 [0,1,4,7,8] [.lst x n cs,.str s,.int .i64 0,.int .i64 n,.int .i64 i] [] R=
  (
 bif decide (i<(↑n:Int))then bif decide (0≤i)&&decide (i<(↑n:Int))then bif (i.toNat*1).blt cs.length then bif ao (cs.getD (i.toNat*1) (.bool false))
 then bif s==am (cs.getD (i.toNat*1) (.bool false))then R .ret [some (.lst x n cs),some (.str s),some (.int i64 i),some (.int i64 (↑n
 :Int)),some (.int i64 i)] []else R .normal [some (.lst x n cs),some (.str s),some (.int i64 0),some (.int i64 (↑n:Int)),some
 (.int i64 (i64.wrap (i+1)))] []else False else False else False else R (.exit 0) [some (.lst x n cs),some (.str s),some (.int i64 0),
 some (.int i64 (↑n:Int)),some (.int i64 i)] []):=by kernel_rfl
structure IN where
 x:Value
 n:Nat
 cs:List V
 s:List UInt8
 i:Nat
def inV(y:IN):List V:=[.lst y.x y.n y.cs,.str y.s,.int .i64 0,.int .i64 y.n,.int .i64 y.i]
def inJ(_:IN):St:=[]
def eM(y:IN):Bool:=okS y.n y.cs&&Nat.ble y.i y.n
def inMu(y:IN):Nat:=y.n-y.i
def inDec:List (Option V)→St→Option IN
 |[some (.lst x n cs),some (.str s),some (.int .i64 0),some (.int .i64 _),some (.int .i64 0)],_=>some ⟨x,n,cs,s,0⟩
 |_,_=>none
def hasV(cs:List V)(s:List UInt8):Bool:=(cs.map am).any (fun t=>s==t)
def nT(x:Value)(n:Nat)(cs:List V)(s:List UInt8)(b:Bool)(K:Exit→List V→St→Prop):Prop:=
 bif b then ∀i:Nat,K .ret [.lst x n cs,.str s,.int .i64 i,.int .i64 n,.int .i64 i] []else K (.exit 0) [.lst x n cs,.str s,.int .i64 0,.int .i64 n,.int .i64 n] []
def inOut:Asks IN:=fun y K=>nT y.x y.n y.cs y.s (hasV (y.cs.drop y.i) y.s) K
theorem in_roundOk(y:IN)(hx:eM y=true):ak Tryd.prog T3 9 10 (ac 9) 105 26 [0,1,4,7,8] (inV y) (inJ y) (ap 0 eM inV inJ inMu inOut y):=by
 obtain⟨x,n,cs,s,i⟩:=y;unfold eM at hx;rw[Bool.and_eq_true]at hx;have p1:i≤n:=Nat.le_of_ble_eq_true hx.2;have hx1:okS n cs=true:=hx.1;obtain⟨l,rfl,rfl,p2,p3⟩:=cL hx1;show ak Tryd.prog T3 9 10 (ac 9) 105 26 [0,1,4,7,8] [.lst x l.length (strs l),.str s,.int .i64 0,.int .i64 l.length,.int .i64 i] [] _;rw[in_round];have ha:∀j,hasV ((strs l).drop j) s=(l.drop j).any fun t=>s==t:=fun j=>by
  unfold hasV;rw[List.map_drop,aA]
 have out:∀K,inOut ⟨x,l.length,strs l,s,i⟩ K→nT x l.length (strs l) s ((l.drop i).any fun t=>s==t) K:=fun K hK=>by
  have hK:nT x l.length (strs l) s (hasV ((strs l).drop i) s) K:=hK;rw[ha]at hK;exact hK
 cases hd:l.drop i with
 |nil=>
  have hi:=bH hd p1;rw[decide_eq_false (show ¬((i:Int)<(l.length:Int)) by omega),cond_false];refine⟨_,[],fun K hK=>?_,au [.lst x l.length (strs l),.str s,.int .i64 0,.int .i64 l.length,.int .i64 i] rfl _ rfl _⟩;have hK:=out K hK;rw[hd]at hK;rw[hi];exact hK
 |cons c r=>
  obtain⟨e1,e2,e3⟩:=aY hd;obtain⟨e4,e5⟩:=dM hd;have q1:decide ((i:Int)<(l.length:Int))=true:=decide_eq_true (by omega);have q2:decide ((0:Int)≤(i:Int))=true:=decide_eq_true (by omega);rw[q1,q2];simp only[Int.toNat_natCast,e4,e5,ao,am,cond_true,Bool.and_true,show i64.wrap ((i:Int)+1)=((i+1:Nat):Int) by rw[IntWalk.i64_in _ ⟨by omega,by omega⟩];omega];cases hc:(s==c)with
  |true=>
   refine⟨_,[],fun K hK=>?_,au [.lst x l.length (strs l),.str s,.int .i64 i,.int .i64 l.length,.int .i64 i] rfl _ rfl _⟩;have hK:=out K hK;rw[hd,List.any_cons,hc]at hK;exact hK i
  |false=>
   refine⟨⟨x,l.length,strs l,s,i+1⟩,?_,au _ rfl _ rfl _,by simp only[inMu];omega,fun K hK=>?_⟩
   ·unfold eM;rw[Bool.and_eq_true];exact⟨hx1,Nat.ble_eq_true_of_le (show i+1≤l.length by omega)⟩
   ·have hK:=out K hK;show nT x l.length (strs l) s (hasV ((strs l).drop (i+1)) s) K;rw[ha,e2];rw[hd,List.any_cons,hc,Bool.false_or]at hK;exact hK
noncomputable def lkIN:Nat→Trans→Trans:=aJ 26 (bu 0 (szOf Tryd.prog 105) [0,1,4,7,8] inDec eM inV inJ inOut) (ac 9)
theorem lkIN_ok:aF Tryd.prog 0 lkIN 105:=by
 unfold lkIN;exact bk (aM 9 0 105) (by kernel_rfl) fun f st Q h=>aP (P:=Tryd.prog) (T:=T3) (k:=0) (lim:=9) (n:=10) (g:=105) (p0:=26) (lk:=ac 9) av T3_ok (aL 9 _ _) inMu in_roundOk h
noncomputable def IN1:Tab:=⟨noT,noL,cp (aK 9) 105 0 lkIN⟩
theorem IN1_ok:TabOk3 Tryd.prog IN1:=⟨aB,aC,bf (al 9) lkIN_ok⟩
theorem in_tree(x:Value)(n:Nat)(cs:List V)(s:List UInt8)(R:V→Prop):runW Tryd.prog IN1 9 10 74 [.lst x n cs,.str s] R=
  (
 Fits 0 [.lst x n cs,.str s,.int i64 0,.int i64 (↑n:Int),.int i64 0] [] [some (.lst x n cs),some (.str s),some (.int i64
 0),some (.int i64 (↑n:Int)),some (.int i64 0)] []∧bif eM {x:=x,n:=n,cs:=cs,s:=s,i:=0}then bif hasV cs s then ∀(i:Nat),R
 (.bool true)else R (.bool false)else False):=by kernel_rfl
theorem in_sat(x:Value)(l:List (List UInt8))(s:List UInt8)(hl:l.length≤9223372036854775807):FnSat Tryd.prog 74 [lstS x l,.str s] [] (Is (.bool (l.any fun t=>s==t),[])):=by
 refine ay (lim:=9) (n:=10) av IN1_ok rfl rfl ?_;unfold lstS;rw[in_tree];have ha:hasV (strs l) s=l.any fun t=>s==t:=by unfold hasV;rw[aA]
 rw[ha];refine⟨au _ rfl _ rfl _,aa (by unfold eM;rw[ey hl];exact Nat.ble_eq_true_of_le (Nat.zero_le _)) ?_⟩;cases l.any fun t=>s==t with
 |false=>rfl
 |true=>intro _;rfl
def hasS(l:List (List UInt8))(s:List UInt8):Bool:=l.any fun t=>s==t
def inG:List V→St→Option (List (Bool×(V×St)))
 |[p,.str s],st=>match bw st p with
  |some (b,l)=>some [(b&&Nat.ble l.length 9223372036854775807,(.bool (hasS l s),st))]
  |none=>none
 |_,_=>none
theorem inG_ok(args:List V)(s:St)(l:List (Bool×(V×St)))(o:V×St)(h:inG args s=some l)(ho:aI l=some o):FnSat Tryd.prog 74 args s (Is o):=by
 unfold inG at h;split at h
 ·rename_i p t;split at h
  ·rename_i b ls hv;cases h;obtain⟨hb,rfl⟩:=aT ho;rw[Bool.and_eq_true]at hb;obtain⟨rfl,h1⟩:=hb;refine cG rfl fun B W0 w m rargs hr ha=>?_;obtain⟨a,r,q1,q2,rfl⟩:=ah ha;have hy:=cZ hr hv q1;have q3:=aV (Ψ:=Frz.of w) (m':=[]) _ _ rfl q2;exact⟨[lstS a ls,.str t],@aw _ (Frz.of w) [] _ _ _ _ hy q3,@in_sat (Frz.of w) a ls t (Nat.le_of_ble_eq_true h1)⟩
  ·cases h
 ·cases h
noncomputable def AN0:Tab:=⟨noT,addS (addS (addS noL 29 cX) 31 dU) 74 inG,aK 9⟩
theorem AN0_ok:TabOk3 Tryd.prog AN0:=⟨aB,bW (bW (bW aC mH) linkG_ok) inG_ok,al 9⟩
noncomputable def zN_1(cs:List V)(i:Int):=cs.getD (i.toNat*6+2) (V.bool false)
noncomputable def zN_0(cs:List V)(i:Int):=[Blk.row [V.str (am (cs.getD (i.toNat*6+0) (V.bool false))),V.str (am (cs.getD (i.toNat*6+1) (V.bool false))),V.lst (xOfV (zN_1 cs i)) (nOfV (zN_1 cs i)) (cP (zN_1 cs i)),V.int i64 (ai (cs.getD (i.toNat*6+3) (V.bool false))),V.int i64 (ai (cs.getD (i.toNat*6+4) (V.bool false))),V.bool (bN (cs.getD (i.toNat*6+5) (V.bool false)))] 24 6]
noncomputable def zN_2(x y:Value)(n m:Nat)(cs ds:List V)(now i:Int):=[some (V.lst x n cs),some (V.int i64 now),some (V.lst y m ds),some (V.bool false),some (V.lst x n cs),some (V.int i64 (↑n:Int)),some (V.int i64 i)]
noncomputable def zN_3(i:Int):=i64.wrap (i+1)
theorem an_round(x:Value)(n:Nat)(cs:List V)(now:Int)(y:Value)(m:Nat)(ds:List V)(i:Int)(R:Exit→List (Option V)→St→Prop):ak Tryd.prog AN0 9 10 (ac 9) 33 26 [0,1,2,6,9,10,11] [.lst x n cs,.int .i64 now,.lst y m ds,.bool false,.lst x n cs,.int .i64 n,.int .i64 i] [] R=
 (
 bif decide (i<(↑n:Int))then bif decide (0≤i)&&decide (i<(↑n:Int))then bif (i.toNat*6+6).ble cs.length then bif ao (cs.getD (i.toNat*6+
 0) (.bool false))then bif ao (cs.getD (i.toNat*6+1) (.bool false))then bif bM (zN_1 cs i)then bif ae i64 (cs.getD (i.toNat*6+3)
 (.bool false))then bif ae i64 (cs.getD (i.toNat*6+4) (.bool false))then bif bh (cs.getD (i.toNat*6+5) (.bool false))then bif
 (cP (zN_1 cs i)).length.beq (nOfV (zN_1 cs i)*1)&&((cP (zN_1 cs i)).all ao&&(cP (zN_1 cs i)).length.beq (nOfV (zN_1 cs i)))then bif !dl
 ((ai (cs.getD (i.toNat*6+3) (.bool false)))) ((ai (cs.getD (i.toNat*6+4) (.bool false)))) now then R .ret (zN_2 x y n m cs ds now i) (zN_0
 cs i)else bif decide (0≤if i64.wrap (i-1)>0 then i64.wrap (i-1)else 0)then bif decide (0≤i64.wrap (i+1))&&(decide (0≤
 i64.wrap (i+1))&&((if i64.wrap (i-1)>0 then i64.wrap (i-1)else 0).toNat.ble (zN_3 i).toNat&&((zN_3 i).toNat.ble (zN_3
 i).toNat&&(zN_3 i).toNat.ble n)))then bif (List.take (((zN_3 i).toNat-(if i64.wrap (i-1)>0 then i64.wrap (i-1)else 0).toNat)*6)
 (List.drop ((if i64.wrap (i-1)>0 then i64.wrap (i-1)else 0).toNat*6) cs)).length.beq (((zN_3 i).toNat-(if i64.wrap (i-1)>0
 then i64.wrap (i-1)else 0).toNat)*6)&&(isCr [] (List.take (((zN_3 i).toNat-(if i64.wrap (i-1)>0 then i64.wrap (i-1)else
 0).toNat)*6) (List.drop ((if i64.wrap (i-1)>0 then i64.wrap (i-1)else 0).toNat*6) cs))&&(crD [] (List.take (((zN_3 i).toNat-(if
 i64.wrap (i-1)>0 then i64.wrap (i-1)else 0).toNat)*6) (List.drop ((if i64.wrap (i-1)>0 then i64.wrap (i-1)else
 0).toNat*6) cs))).length.beq ((zN_3 i).toNat-(if i64.wrap (i-1)>0 then i64.wrap (i-1)else 0).toNat))&&(crD [] (List.take (((zN_3
 i).toNat-(if i64.wrap (i-1)>0 then i64.wrap (i-1)else 0).toNat)*6) (List.drop ((if i64.wrap (i-1)>0 then i64.wrap
 (i-1)else 0).toNat*6) cs))).length.ble 9223372036854775807 then bif !bD (crD [] (List.take (((zN_3 i).toNat-(if i64.wrap (i-1)>0 then
 i64.wrap (i-1)else 0).toNat)*6) (List.drop ((if i64.wrap (i-1)>0 then i64.wrap (i-1)else 0).toNat*6) cs)))then R .ret
 (zN_2 x y n m cs ds now i) (zN_0 cs i)else bif ds.length.beq (m*1)&&(ds.all ao&&ds.length.beq m)&&(List.map am ds).length.ble
 9223372036854775807 then bif hasS (List.map am ds) ((am (cs.getD (i.toNat*6+1) (.bool false))))then R .ret [some (.lst x n cs),some (.int
 i64 now),some (.lst y m ds),some (.bool true),some (.lst x n cs),some (.int i64 (↑n:Int)),some (.int i64 i)] (zN_0 cs i)else
 R .normal [some (.lst x n cs),some (.int i64 now),some (.lst y m ds),some (.bool false),some (.lst x n cs),some (.int i64 (↑n:
 Int)),some (.int i64 (zN_3 i))] (zN_0 cs i)else False else False else False else False else False else False else False else False else False else
 False else False else False else False else R (.exit 0) (zN_2 x y n m cs ds now i) []):=by kernel_rfl
def mr:Option CR→CR→Bool
 |none,_=>true
 |some a,c=>bD [a,c]
def dH(now:Int)(an:List (List UInt8)):Option CR→List CR→Bool
 |_,[]=>false
 |p,c::r=>dl c.f c.u now&&(mr p c&&(hasS an c.g||dH now an (some c) r))
def fp(l:List CR)(i:Nat):Option CR:=if i=0 then none else l[i-1]?
structure AN where
 x:Value
 n:Nat
 cs:List V
 now:Int
 y:Value
 m:Nat
 ds:List V
 i:Nat
def anV(z:AN):List V:=[.lst z.x z.n z.cs,.int .i64 z.now,.lst z.y z.m z.ds,.bool false,.lst z.x z.n z.cs,.int .i64 z.n,.int .i64 z.i]
def anJ(_:AN):St:=[]
def jN(z:AN):Bool:=okR z.n z.cs&&(okS z.m z.ds&&Nat.ble z.i z.n)
def anMu(z:AN):Nat:=z.n-z.i
def anDec:List (Option V)→St→Option AN
 |[some (.lst x n cs),some (.int .i64 now),some (.lst y m ds),some (.bool false),some (.lst _ _ _),some (.int .i64 _),some (.int .i64 0)],_=>some ⟨x,n,cs,now,y,m,ds,0⟩
 |_,_=>none
def jM(now:Int)(cs ds:List V)(i:Nat):Bool:=dH now (ds.map am) (fp (crD [] cs) i) ((crD [] cs).drop i)
def og(x:Value)(n:Nat)(cs:List V)(now:Int)(y:Value)(m:Nat)(ds:List V)(b:Bool)(K:Exit→List V→St→Prop):Prop:=
 bif b then ∀j:Int,K .ret [.lst x n cs,.int .i64 now,.lst y m ds,.bool true,.lst x n cs,.int .i64 n,.int .i64 j] []else
  (∀j:Int,K .ret [.lst x n cs,.int .i64 now,.lst y m ds,.bool false,.lst x n cs,.int .i64 n,.int .i64 j] [])∧∀j:Int,K (.exit 0) [.lst x n cs,.int .i64 now,.lst y m ds,.bool false,.lst x n cs,.int .i64 n,.int .i64 j] []
def anOut:Asks AN:=fun z K=>og z.x z.n z.cs z.now z.y z.m z.ds (jM z.now z.cs z.ds z.i) K
theorem an_roundOk(z:AN)(hx:jN z=true):ak Tryd.prog AN0 9 10 (ac 9) 33 26 [0,1,2,6,9,10,11] (anV z) (anJ z) (ap 0 jN anV anJ anMu anOut z):=by
 obtain⟨x,n,cs,now,y,m,ds,i⟩:=z;unfold jN at hx;simp only[Bool.and_eq_true]at hx;have hx1:okR n cs=true:=hx.1;have hx2:okS m ds=true:=hx.2.1;have p1:i≤n:=Nat.le_of_ble_eq_true hx.2.2;obtain⟨p2,p3,p4,p5⟩:=dc hx1;obtain⟨an,rfl,rfl,p6,p7⟩:=cL hx2;show ak Tryd.prog AN0 9 10 (ac 9) 33 26 [0,1,2,6,9,10,11] [.lst x n cs,.int .i64 now,.lst y an.length (strs an),.bool false,.lst x n cs,.int .i64 n,.int .i64 i] [] _;rw[an_round];unfold zN_3 zN_2 zN_0 zN_1;have out:∀K,anOut ⟨x,n,cs,now,y,an.length,strs an,i⟩ K→og x n cs now y an.length (strs an) (dH now an (fp (crD [] cs) i) ((crD [] cs).drop i)) K:=fun K hK=>by
  have hK:og x n cs now y an.length (strs an) (jM now cs (strs an) i) K:=hK;unfold jM at hK;rw[aA]at hK;exact hK
 cases hd:(crD [] cs).drop i with
 |nil=>
  have hi:=bH hd (by omega);rw[decide_eq_false (show ¬((i:Int)<(n:Int)) by omega),cond_false];refine⟨_,[],fun K hK=>?_,au [.lst x n cs,.int .i64 now,.lst y an.length (strs an),.bool false,.lst x n cs,.int .i64 n,.int .i64 i] rfl _ rfl _⟩;have hK:=out K hK;rw[hd]at hK;exact hK.2 i
 |cons c r=>
  obtain⟨e1,e2,e3⟩:=aY hd;have C:=fL p2 hd;obtain⟨xn,hn⟩:=C.l;have d1:decide ((i:Int)<(n:Int))=true:=decide_eq_true (by omega);have d2:decide ((0:Int)≤(i:Int))=true:=decide_eq_true (by omega);have l6:(i*6+6).ble cs.length=true:=Nat.ble_eq_true_of_le (by omega);have w2:i64.wrap ((i:Int)+1)=((i+1:Nat):Int):=by rw[IntWalk.i64_in _ ⟨by omega,by omega⟩];omega
  have w1:(if i64.wrap ((i:Int)-1)>0 then i64.wrap ((i:Int)-1)else 0)=((i-1:Nat):Int):=by
   rw[IntWalk.i64_in _ ⟨by omega,by omega⟩];split<;>omega
  have d3:decide ((0:Int)≤((i-1:Nat):Int))=true:=decide_eq_true (by omega);have d4:decide ((0:Int)≤((i+1:Nat):Int))=true:=decide_eq_true (by omega);have d5:(i-1).ble (i+1)=true:=Nat.ble_eq_true_of_le (by omega);have d6:(i+1).ble (i+1)=true:=Nat.ble_eq_true_of_le (by omega);have d7:(i+1).ble n=true:=Nat.ble_eq_true_of_le (by omega);obtain⟨g1,g2⟩:=lw [] (i-1) cs p2;obtain⟨g3,g4⟩:=iW [] (i+1-(i-1)) _ g2;rw[g1]at g3;have hlen:(List.take ((i+1-(i-1))*6) (List.drop ((i-1)*6) cs)).length=(i+1-(i-1))*6:=by rw[List.length_take,List.length_drop];omega
  have hcl:(List.take (i+1-(i-1)) (List.drop (i-1) (crD [] cs))).length=i+1-(i-1):=by rw[List.length_take,List.length_drop];omega
  have g5:isCr [] (List.take ((i+1-(i-1))*6) (List.drop ((i-1)*6) cs))=true:=je (fun v hv=>by unfold nmZ at hv;rw[Bool.and_eq_true]at hv;exact hv.2) _ g4;have q1:(i+1-(i-1)).ble 9223372036854775807=true:=Nat.ble_eq_true_of_le (by omega);have q2:(strs an).length.beq (an.length*1)=true:=by rw[aU,Nat.mul_one];exact Nat.beq_refl _
  have q3:(strs an).length.beq an.length=true:=by rw[aU];exact Nat.beq_refl _
  have q4:an.length.ble 9223372036854775807=true:=Nat.ble_eq_true_of_le p6;have q5:(strs c.l).length.beq (c.l.length*1)=true:=by rw[aU,Nat.mul_one];exact Nat.beq_refl _
  have q6:(strs c.l).length.beq c.l.length=true:=by rw[aU];exact Nat.beq_refl _
  simp only[d1,d2,Int.toNat_natCast,l6,C.k,C.g,hn,C.f,C.u,C.ca,ao,am,bM,xOfV,nOfV,cP,ae,ai,bh,bN,decide_true,w1,w2,d3,d4,d5,d6,d7,g3,g5,hlen,hcl,Nat.beq_refl,q1,q2,q3,q4,q5,q6,cr,aA,Bool.and_self,cond_true];have next:dH now an (fp (crD [] cs) i) (c::r)=(dl c.f c.u now&&(mr (fp (crD [] cs) i) c&&(hasS an c.g||dH now an (some c) r))):=rfl
  have hlk:bD (List.take (i+1-(i-1)) (List.drop (i-1) (crD [] cs)))=mr (fp (crD [] cs) i) c:=by
   unfold fp;by_cases h0:i=0
   ·subst h0;rw[if_pos rfl];have:(crD [] cs)=c::r:=by simpa using hd
    rw[this];rfl
   ·rw[if_neg h0];have hlt:i-1<(crD [] cs).length:=by omega
    rw[List.getElem?_eq_getElem hlt,List.drop_eq_getElem_cons hlt,show i-1+1=i by omega,hd,show i+1-(i-1)=2 by omega];rfl
  have hpr:fp (crD [] cs) (i+1)=some c:=by unfold fp;rw[if_neg (by omega)];exact e1
  have bad:dH now an (fp (crD [] cs) i) (c::r)=false→∀st,ap 0 jN anV anJ anMu anOut ⟨x,n,cs,now,y,an.length,strs an,i⟩ .ret [some (.lst x n cs),some (.int .i64 now),some (.lst y an.length (strs an)),some (.bool false),some (.lst x n cs),some (.int .i64 n),some (.int .i64 i)] st:=fun h st=>by
   refine⟨_,[],fun K hK=>?_,au [.lst x n cs,.int .i64 now,.lst y an.length (strs an),.bool false,.lst x n cs,.int .i64 n,.int .i64 i] rfl _ rfl _⟩;have hK:=out K hK;rw[hd,h]at hK;exact hK.1 i
  rw[hlk];refine af (fun h1=>bad (by rw[Bool.not_eq_true']at h1;rw[next,h1];rfl) _) (fun h1=>?_);rw[Bool.not_eq_false']at h1;refine af (fun h2=>bad (by rw[Bool.not_eq_true']at h2;rw[next,h1,h2];rfl) _) (fun h2=>?_);rw[Bool.not_eq_false']at h2;rw[h1,h2,Bool.true_and,Bool.true_and]at next
  refine af (fun h3=>?_) (fun h3=>?_)
  ·rw[h3,Bool.true_or]at next
   refine⟨_,[],fun K hK=>?_,au [.lst x n cs,.int .i64 now,.lst y an.length (strs an),.bool true,.lst x n cs,.int .i64 n,.int .i64 i] rfl _ rfl _⟩;have hK:=out K hK;rw[hd,next]at hK;exact hK i
  ·rw[h3,Bool.false_or]at next
   refine⟨⟨x,n,cs,now,y,an.length,strs an,i+1⟩,?_,au _ rfl _ rfl _,by simp only[anMu];omega,fun K hK=>?_⟩
   ·unfold jN;simp only[Bool.and_eq_true];exact⟨hx1,hx2,Nat.ble_eq_true_of_le (show i+1≤n by omega)⟩
   ·have hK:=out K hK;rw[hd,next]at hK;show og x n cs now y an.length (strs an) (jM now cs (strs an) (i+1)) K;unfold jM;rw[aA,hpr,e2];exact hK
noncomputable def lkAN:Nat→Trans→Trans:=aJ 26 (bu 0 (szOf Tryd.prog 33) [0,1,2,6,9,10,11] anDec jN anV anJ anOut) (ac 9)
theorem lkAN_ok:aF Tryd.prog 0 lkAN 33:=by
 unfold lkAN;exact bk (aM 9 0 33) (by kernel_rfl) fun f st Q h=>aP (P:=Tryd.prog) (T:=AN0) (k:=0) (lim:=9) (n:=10) (g:=33) (p0:=26) (lk:=ac 9) av AN0_ok (aL 9 _ _) anMu an_roundOk h
noncomputable def AN1:Tab:=⟨noT,noL,cp (aK 9) 33 0 lkAN⟩
theorem AN1_ok:TabOk3 Tryd.prog AN1:=⟨aB,aC,bf (al 9) lkAN_ok⟩
theorem an_tree(x:Value)(n:Nat)(cs:List V)(now:Int)(y:Value)(m:Nat)(ds:List V)(R:V→Prop):runW Tryd.prog AN1 9 10 33 [.lst x n cs,.int .i64 now,.lst y m ds] R=
  (
 Fits 0 [.lst x n cs,.int i64 now,.lst y m ds,.bool false,.lst x n cs,.int i64 (↑n:Int),.int i64 0] [] [some (.lst x n cs),some
 (.int i64 now),some (.lst y m ds),some (.bool false),some (.lst x n cs),some (.int i64 (↑n:Int)),some (.int i64 0)] []∧bif jN {x:=x,n:=n,cs:=cs,now:=now,y:=y,m:=m,ds:=ds,i:=0}
 then bif jM now cs ds 0 then ∀(j:Int),R (.bool true)else(∀(j:Int),R (.bool false))∧∀(j:Int),R (.bool false)else False):=by kernel_rfl
theorem an_sat(x:Value)(n:Nat)(cs:List V)(now:Int)(y:Value)(an:List (List UInt8))(h:okR n cs=true)(h2:an.length≤9223372036854775807):FnSat Tryd.prog 33 [.lst x n cs,.int .i64 now,lstS y an] [] (Is (.bool (dH now an none (crD [] cs)),[])):=by
 refine ay (lim:=9) (n:=10) av AN1_ok rfl rfl ?_;unfold lstS;rw[an_tree];have e:jM now cs (strs an) 0=dH now an none (crD [] cs):=by unfold jM;rw[aA];rfl
 rw[e];refine⟨au _ rfl _ rfl _,aa ?_ ?_⟩
 ·unfold jN;simp only[Bool.and_eq_true];exact⟨h,ey h2,Nat.ble_eq_true_of_le (Nat.zero_le _)⟩
 ·cases dH now an none (crD [] cs)with
  |true=>intro j;rfl
  |false=>exact⟨fun j=>rfl,fun j=>rfl⟩
def anG:List V→St→Option (List (Bool×(V×St)))
 |[p,.int .i64 now,q],st=>match dC st p,bw st q with
  |some (b,l),some (b',an)=>some [(b&&(b'&&(Nat.ble l.length 9223372036854775807&&Nat.ble an.length 9223372036854775807)),(.bool (dH now an none l),st))]
  |_,_=>none
 |_,_=>none
theorem anG_ok(args:List V)(s:St)(l:List (Bool×(V×St)))(o:V×St)(h:anG args s=some l)(ho:aI l=some o):FnSat Tryd.prog 33 args s (Is o):=by
 unfold anG at h;split at h
 ·rename_i p now q;split at h
  ·rename_i b ls b' an hv hv';cases h;obtain⟨hb,rfl⟩:=aT ho;simp only[Bool.and_eq_true]at hb;obtain⟨rfl,rfl,h1,h2⟩:=hb;refine cG rfl fun B W0 w m rargs hr ha=>?_;obtain⟨a,r,q1,q2,rfl⟩:=ah ha;obtain⟨a2,r2,q3,q4,rfl⟩:=ah q2;obtain⟨a3,r3,q5,q6,rfl⟩:=ah q4;obtain⟨L,e1,e2,e3⟩:=fM hr hv q1;have hy:=cZ hr hv' q5;have q7:=cv (Ψ:=Frz.of w) (m':=[]) _ _ rfl q3;have q8:=aV (Ψ:=Frz.of w) (m':=[]) _ _ rfl q6;have hl:L.length≤9223372036854775807:=by rw[←List.length_map (f:=(·.c)),e1];exact Nat.le_of_ble_eq_true h1
   have:=@an_sat (Frz.of w) a L.length (crs L) now a3 an (i9 hl e3) (Nat.le_of_ble_eq_true h2);rw[di,e1]at this;exact⟨[lstR a L,.int .i64 now,lstS a3 an],@aw _ (Frz.of w) [] _ _ _ _ e2 (@aw _ (Frz.of w) [] _ _ _ _ q7 (@aw _ (Frz.of w) [] _ _ _ _ hy q8)),this⟩
  ·cases h
 ·cases h
noncomputable def RI0:Tab:=⟨noT,noL,aK 9⟩
theorem RI0_ok:TabOk3 Tryd.prog RI0:=⟨aB,aC,al 9⟩
def dB(now:Int)(c:CR):Bool:=dl c.f c.u now
def anR(now:Int)(an:List (List UInt8)):List CR→List CR→Bool
 |_,[]=>false
 |p,c::r=>(bD (p++[c])&&(hasS an c.g&&(p++[c]).all (dB now)))||anR now an (p++[c]) r
theorem kY:∀(p:List CR) (c:CR),bD (p++[c])=(bD p&&mr p.getLast? c)
 |[],c=>rfl
 |[a],c=>by
  show bD [a,c]=(true&&bD [a,c]);rw[Bool.true_and]
 |a::b::r,c=>by
  have h:=kY (b::r) c;have e1:bD (a::b::r++[c])=(b.ca&&((a.g==digB b.k)&&bD (b::r++[c]))):=rfl;have e2:bD (a::b::r)=(b.ca&&((a.g==digB b.k)&&bD (b::r))):=rfl;rw[e1,e2,h,List.getLast?_cons_cons];simp only[Bool.and_assoc]
theorem anR_eq(now:Int)(an:List (List UInt8)):∀(r p:List CR),anR now an p r=(bD p&&(p.all (dB now)&&dH now an p.getLast? r))
 |[],p=>by simp[anR,dH]
 |c::r,p=>by
  rw[anR,anR_eq now an r (p++[c]),kY,List.all_append,List.getLast?_concat];have e:dH now an p.getLast? (c::r)=(dl c.f c.u now&&(mr p.getLast? c&&(hasS an c.g||dH now an (some c) r))):=rfl;rw[e];have d:[c].all (dB now)=dl c.f c.u now:=by simp[dB]
  rw[d];cases bD p<;>cases mr p.getLast? c<;>cases p.all (dB now)<;>cases dl c.f c.u now<;>cases hasS an c.g<;>cases dH now an (some c) r<;>rfl
theorem rin_round(s:List UInt8)(x:Value)(n:Nat)(cs:List V)(i:Int)(R:Exit→List (Option V)→St→Prop):ak Tryd.prog RI0 9 10 (ac 9) 75 26 [0,1,4,5] [.str s,.lst x n cs,.bool false,.int .i64 i] [] R=
  (
 bif decide (i<(↑n:Int))then bif decide (0≤i)&&decide (i<(↑n:Int))then bif (i.toNat*1).blt cs.length then bif ao (cs.getD (i.toNat*1) (.bool false))
 then bif am (cs.getD (i.toNat*1) (.bool false))==s then R .ret [some (.str s),some (.lst x n cs),some (.bool true),some (.int i64 i)] []else
 R .normal [some (.str s),some (.lst x n cs),some (.bool false),some (.int i64 (i64.wrap (i+1)))] []else False else False else False else R
 (.exit 0) [some (.str s),some (.lst x n cs),some (.bool false),some (.int i64 i)] []):=by kernel_rfl
def rinV(y:IN):List V:=[.str y.s,.lst y.x y.n y.cs,.bool false,.int .i64 y.i]
def rinDec:List (Option V)→St→Option IN
 |[some (.str s),some (.lst x n cs),some (.bool false),some (.int .i64 0)],_=>some ⟨x,n,cs,s,0⟩
 |_,_=>none
def jW(x:Value)(n:Nat)(cs:List V)(s:List UInt8)(b:Bool)(K:Exit→List V→St→Prop):Prop:=
 bif b then ∀i:Nat,K .ret [.str s,.lst x n cs,.bool true,.int .i64 i] []else K (.exit 0) [.str s,.lst x n cs,.bool false,.int .i64 n] []
def rinOut:Asks IN:=fun y K=>jW y.x y.n y.cs y.s (hasV (y.cs.drop y.i) y.s) K
theorem rin_roundOk(y:IN)(hx:eM y=true):ak Tryd.prog RI0 9 10 (ac 9) 75 26 [0,1,4,5] (rinV y) (inJ y) (ap 0 eM rinV inJ inMu rinOut y):=by
 obtain⟨x,n,cs,s,i⟩:=y;unfold eM at hx;rw[Bool.and_eq_true]at hx;have p1:i≤n:=Nat.le_of_ble_eq_true hx.2;have hx1:okS n cs=true:=hx.1;obtain⟨l,rfl,rfl,p2,p3⟩:=cL hx1;show ak Tryd.prog RI0 9 10 (ac 9) 75 26 [0,1,4,5] [.str s,.lst x l.length (strs l),.bool false,.int .i64 i] [] _;rw[rin_round];have ha:∀j,hasV ((strs l).drop j) s=(l.drop j).any fun t=>s==t:=fun j=>by
  unfold hasV;rw[List.map_drop,aA]
 have out:∀K,rinOut ⟨x,l.length,strs l,s,i⟩ K→jW x l.length (strs l) s ((l.drop i).any fun t=>s==t) K:=fun K hK=>by
  have hK:jW x l.length (strs l) s (hasV ((strs l).drop i) s) K:=hK;rw[ha]at hK;exact hK
 cases hd:l.drop i with
 |nil=>
  have hi:=bH hd p1;rw[decide_eq_false (show ¬((i:Int)<(l.length:Int)) by omega),cond_false];refine⟨_,[],fun K hK=>?_,au [.str s,.lst x l.length (strs l),.bool false,.int .i64 i] rfl _ rfl _⟩;have hK:=out K hK;rw[hd]at hK;rw[hi];exact hK
 |cons c r=>
  obtain⟨e1,e2,e3⟩:=aY hd;obtain⟨e4,e5⟩:=dM hd;have q1:decide ((i:Int)<(l.length:Int))=true:=decide_eq_true (by omega);have q2:decide ((0:Int)≤(i:Int))=true:=decide_eq_true (by omega);rw[q1,q2];simp only[Int.toNat_natCast,e4,e5,ao,am,cond_true,Bool.and_true,show i64.wrap ((i:Int)+1)=((i+1:Nat):Int) by rw[IntWalk.i64_in _ ⟨by omega,by omega⟩];omega,BEq.comm (a:=c) (b:=s)];cases hc:(s==c)with
  |true=>
   refine⟨_,[],fun K hK=>?_,au [.str s,.lst x l.length (strs l),.bool true,.int .i64 i] rfl _ rfl _⟩;have hK:=out K hK;rw[hd,List.any_cons,hc]at hK;exact hK i
  |false=>
   refine⟨⟨x,l.length,strs l,s,i+1⟩,?_,au _ rfl _ rfl _,by simp only[inMu];omega,fun K hK=>?_⟩
   ·unfold eM;rw[Bool.and_eq_true];exact⟨hx1,Nat.ble_eq_true_of_le (show i+1≤l.length by omega)⟩
   ·have hK:=out K hK;show jW x l.length (strs l) s (hasV ((strs l).drop (i+1)) s) K;rw[ha,e2];rw[hd,List.any_cons,hc,Bool.false_or]at hK;exact hK
noncomputable def lkRIN:Nat→Trans→Trans:=aJ 26 (bu 0 (szOf Tryd.prog 75) [0,1,4,5] rinDec eM rinV inJ rinOut) (ac 9)
theorem lkRIN_ok:aF Tryd.prog 0 lkRIN 75:=by
 unfold lkRIN;exact bk (aM 9 0 75) (by kernel_rfl) fun f st Q h=>aP (P:=Tryd.prog) (T:=RI0) (k:=0) (lim:=9) (n:=10) (g:=75) (p0:=26) (lk:=ac 9) av RI0_ok (aL 9 _ _) inMu rin_roundOk h
noncomputable def RI1:Tab:=⟨noT,noL,cp (aK 9) 75 0 lkRIN⟩
theorem RI1_ok:TabOk3 Tryd.prog RI1:=⟨aB,aC,bf (al 9) lkRIN_ok⟩
theorem rin_tree(s:List UInt8)(x:Value)(n:Nat)(cs:List V)(R:V→Prop):runW Tryd.prog RI1 9 10 75 [.str s,.lst x n cs] R=
  (
 Fits 0 [.str s,.lst x n cs,.bool false,.int i64 0] [] [some (.str s),some (.lst x n cs),some (.bool false),some (.int i64 0)] []∧bif eM
 {x:=x,n:=n,cs:=cs,s:=s,i:=0}then bif hasV cs s then ∀(i:Nat),R (.bool true)else R (.bool false)else False):=by kernel_rfl
theorem rin_sat(x:Value)(l:List (List UInt8))(s:List UInt8)(hl:l.length≤9223372036854775807):FnSat Tryd.prog 75 [.str s,lstS x l] [] (Is (.bool (hasS l s),[])):=by
 refine ay (lim:=9) (n:=10) av RI1_ok rfl rfl ?_;unfold lstS;rw[rin_tree];have ha:hasV (strs l) s=hasS l s:=by unfold hasV;rw[aA];rfl
 rw[ha];refine⟨au _ rfl _ rfl _,aa (by unfold eM;rw[ey hl];exact Nat.ble_eq_true_of_le (Nat.zero_le _)) ?_⟩;cases hasS l s with
 |false=>rfl
 |true=>intro _;rfl
def rinG:List V→St→Option (List (Bool×(V×St)))
 |[.str s,p],st=>match bw st p with
  |some (b,l)=>some [(b&&Nat.ble l.length 9223372036854775807,(.bool (hasS l s),st))]
  |none=>none
 |_,_=>none
theorem rinG_ok(args:List V)(s:St)(l:List (Bool×(V×St)))(o:V×St)(h:rinG args s=some l)(ho:aI l=some o):FnSat Tryd.prog 75 args s (Is o):=by
 unfold rinG at h;split at h
 ·rename_i t p;split at h
  ·rename_i b ls hv;cases h;obtain⟨hb,rfl⟩:=aT ho;rw[Bool.and_eq_true]at hb;obtain⟨rfl,h1⟩:=hb;refine cG rfl fun B W0 w m rargs hr ha=>?_;obtain⟨a,r,q1,q2,rfl⟩:=ah ha;obtain⟨a2,r2,q3,q4,rfl⟩:=ah q2;have hy:=cZ hr hv q3;have q5:=cv (Ψ:=Frz.of w) (m':=[]) _ _ rfl q1;have q6:=aV (Ψ:=Frz.of w) (m':=[]) _ _ rfl q4;exact⟨[.str t,lstS a2 ls],@aw _ (Frz.of w) [] _ _ _ _ q5 (@aw _ (Frz.of w) [] _ _ _ _ hy q6),@rin_sat (Frz.of w) a2 ls t (Nat.le_of_ble_eq_true h1)⟩
  ·cases h
 ·cases h
noncomputable def RJ0:Tab:=⟨noT,addS (addS (addS noL 30 cX) 32 dU) 75 rinG,aK 9⟩
theorem RJ0_ok:TabOk3 Tryd.prog RJ0:=⟨aB,bW (bW (bW aC kF) lX) rinG_ok,al 9⟩
theorem ria_round(x:Value)(n:Nat)(cs:List V)(now:Int)(y:Value)(m:Nat)(ds:List V)(i:Int)(ok:Bool)(k:Int)(R:Exit→List (Option V)→St→Prop):ak Tryd.prog RJ0 9 10 (ac 9) 34 6730 [0,1,2,6,7,8,9] [.lst x n cs,.int .i64 now,.lst y m ds,.bool false,.int .i64 i,.bool ok,.int .i64 k] [] R=
  (
 bif decide (k≤i)then bif ok then bif decide (0≤k)&&decide (k<(↑n:Int))then bif (k.toNat*6+6).ble cs.length then bif ao (cs.getD (k.toNat*6+0)
 (.bool false))then bif ao (cs.getD (k.toNat*6+1) (.bool false))then bif bM (cs.getD (k.toNat*6+2) (.bool false))then bif ae i64 (cs.getD
 (k.toNat*6+3) (.bool false))then bif ae i64 (cs.getD (k.toNat*6+4) (.bool false))then bif bh (cs.getD (k.toNat*6+5) (.bool false))then
 bif (cP (cs.getD (k.toNat*6+2) (.bool false))).length.beq (nOfV (cs.getD (k.toNat*6+2) (.bool false))*1)&&((cP (cs.getD (k.toNat*6+2) (.bool
 false))).all ao&&(cP (cs.getD (k.toNat*6+2) (.bool false))).length.beq (nOfV (cs.getD (k.toNat*6+2) (.bool false))))then R .normal [some (.lst x
 n cs),some (.int i64 now),some (.lst y m ds),some (.bool false),some (.int i64 i),some (.bool (dl (ai (cs.getD (k.toNat*6+3) (.bool
 false))) (ai (cs.getD (k.toNat*6+4) (.bool false))) now)),some (.int i64 (i64.wrap (k+1)))] []else False else False else False else False
 else False else False else False else False else False else R (.exit 2) [some (.lst x n cs),some (.int i64 now),some (.lst y m ds),some (.bool false),
 some (.int i64 i),some (.bool ok),some (.int i64 k)] []else R (.exit 2) [some (.lst x n cs),some (.int i64 now),some (.lst y m ds),
 some (.bool false),some (.int i64 i),some (.bool ok),some (.int i64 k)] []):=by kernel_rfl
def dAll(now:Int)(l:List CR)(i k:Nat):Bool:=((l.drop k).take (i+1-k)).all (dB now)
theorem dAll_step{now:Int}{l r:List CR}{c:CR}{i k:Nat}(h:l.drop k=c::r)(hk:k≤i):dAll now l i k=(dl c.f c.u now&&dAll now l i (k+1)):=by
 unfold dAll;rw[h,(aY h).2.1,show i+1-k=(i+1-(k+1))+1 by omega,List.take_succ_cons,List.all_cons];rfl
theorem dAll_end{now:Int}{l:List CR}{i k:Nat}(hk:i<k):dAll now l i k=true:=by
 unfold dAll;rw[show i+1-k=0 by omega];rfl
structure RIA where
 x:Value
 n:Nat
 cs:List V
 now:Int
 y:Value
 m:Nat
 ds:List V
 i:Nat
 ok:Bool
 k:Nat
def riaV(z:RIA):List V:=[.lst z.x z.n z.cs,.int .i64 z.now,.lst z.y z.m z.ds,.bool false,.int .i64 z.i,.bool z.ok,.int .i64 z.k]
def riaJ(_:RIA):St:=[]
def eR(z:RIA):Bool:=okR z.n z.cs&&(Nat.blt z.i z.n&&Nat.ble z.k (z.i+1))
def riaMu(z:RIA):Nat:=z.i+1-z.k
def riaDec:List (Option V)→St→Option RIA
 |[some (.lst x n cs),some (.int .i64 now),some (.lst y m ds),some (.bool false),some (.int .i64 i),some (.bool ok),some (.int .i64 0)],_=>some ⟨x,n,cs,now,y,m,ds,i.toNat,ok,0⟩
 |_,_=>none
def riaOutG(x:Value)(n:Nat)(cs:List V)(now:Int)(y:Value)(m:Nat)(ds:List V)(i:Nat)(b:Bool)(K:Exit→List V→St→Prop):Prop:=
 ∀j:Int,K (.exit 2) [.lst x n cs,.int .i64 now,.lst y m ds,.bool false,.int .i64 i,.bool b,.int .i64 j] []
def dAllV(now:Int)(cs:List V)(i k:Nat):Bool:=dAll now (crD [] cs) i k
def ni:Asks RIA:=fun z K=>riaOutG z.x z.n z.cs z.now z.y z.m z.ds z.i (z.ok&&dAllV z.now z.cs z.i z.k) K
theorem ria_roundOk(z:RIA)(hx:eR z=true):ak Tryd.prog RJ0 9 10 (ac 9) 34 6730 [0,1,2,6,7,8,9] (riaV z) (riaJ z) (ap 0 eR riaV riaJ riaMu ni z):=by
 obtain⟨x,n,cs,now,y,m,ds,i,ok,k⟩:=z;unfold eR at hx;simp only[Bool.and_eq_true]at hx;have hx1:okR n cs=true:=hx.1;have p0:i<n:=Nat.le_of_ble_eq_true hx.2.1;have p1:k≤i+1:=Nat.le_of_ble_eq_true hx.2.2;obtain⟨p2,p3,p4,p5⟩:=dc hx1;show ak Tryd.prog RJ0 9 10 (ac 9) 34 6730 [0,1,2,6,7,8,9] [.lst x n cs,.int .i64 now,.lst y m ds,.bool false,.int .i64 i,.bool ok,.int .i64 k] [] _;rw[ria_round];have out:∀K,ni ⟨x,n,cs,now,y,m,ds,i,ok,k⟩ K→riaOutG x n cs now y m ds i (ok&&dAll now (crD [] cs) i k) K:=fun K hK=>hK;have fin:(ok&&dAll now (crD [] cs) i k)=ok→ap 0 eR riaV riaJ riaMu ni ⟨x,n,cs,now,y,m,ds,i,ok,k⟩ (.exit 2) [some (.lst x n cs),some (.int .i64 now),some (.lst y m ds),some (.bool false),some (.int .i64 i),some (.bool ok),some (.int .i64 k)] []:=fun h=>by
  refine⟨[.lst x n cs,.int .i64 now,.lst y m ds,.bool false,.int .i64 i,.bool ok,.int .i64 k],[],fun K hK=>?_,au _ rfl _ rfl _⟩;have hK:=out K hK;rw[h]at hK;exact hK k
 by_cases hk:k≤i
 ·rw[decide_eq_true (show((k:Int)≤(i:Int)) by omega),cond_true];cases ok with
  |false=>exact fin rfl
  |true=>
   rw[cond_true];obtain⟨c,r,hd⟩:∃c r,(crD [] cs).drop k=c::r:=by
    cases hd:(crD [] cs).drop k with
    |nil=>have:=congrArg List.length hd;simp at this;omega
    |cons c r=>exact⟨c,r,rfl⟩
   have C:=fL p2 hd;obtain⟨xn,hn⟩:=C.l;have d1:decide ((0:Int)≤(k:Int))=true:=decide_eq_true (by omega);have d2:decide ((k:Int)<(n:Int))=true:=decide_eq_true (by omega);have l6:(k*6+6).ble cs.length=true:=Nat.ble_eq_true_of_le (by omega);have w2:i64.wrap ((k:Int)+1)=((k+1:Nat):Int):=by rw[IntWalk.i64_in _ ⟨by omega,by omega⟩];omega
   have q5:(strs c.l).length.beq (c.l.length*1)=true:=by rw[aU,Nat.mul_one];exact Nat.beq_refl _
   have q6:(strs c.l).length.beq c.l.length=true:=by rw[aU];exact Nat.beq_refl _
   simp only[d1,d2,Int.toNat_natCast,l6,C.k,C.g,hn,C.f,C.u,C.ca,ao,am,bM,xOfV,nOfV,cP,ae,ai,bh,bN,decide_true,w2,q5,q6,cr,Bool.and_self,cond_true];refine⟨⟨x,n,cs,now,y,m,ds,i,dl c.f c.u now,k+1⟩,?_,au _ rfl _ rfl _,by simp only[riaMu];omega,fun K hK=>?_⟩
   ·unfold eR;simp only[Bool.and_eq_true];exact⟨hx1,Nat.ble_eq_true_of_le p0,Nat.ble_eq_true_of_le (show k+1≤i+1 by omega)⟩
   ·have hK:=out K hK;rw[Bool.true_and,dAll_step hd hk]at hK;exact hK
 ·rw[decide_eq_false (show ¬((k:Int)≤(i:Int)) by omega),cond_false];exact fin (by rw[dAll_end (by omega),Bool.and_true])
noncomputable def mo:Nat→Trans→Trans:=aJ 6730 (bu 0 (szOf Tryd.prog 34) [0,1,2,6,7,8,9] riaDec eR riaV riaJ ni) (ac 9)
theorem lkRIA_ok:cC Tryd.prog none 0 mo (2*26) (bL Tryd.prog 34 26):=by
 unfold mo;refine bo _ _ (aL 9 _ _) fun c' hc f st Q h=>?_;rw[show aZ 6730 (2*26) (bL Tryd.prog 34 26)=[bL Tryd.prog 34 6730] by kernel_rfl]at hc;rw[List.mem_singleton.1 hc];exact aP (P:=Tryd.prog) (T:=RJ0) (k:=0) (lim:=9) (n:=10) (g:=34) (p0:=6730) (lk:=ac 9) av RJ0_ok (aL 9 _ _) riaMu ria_roundOk h
noncomputable def zO_0(i:Int):=((i64.wrap (i+1)).toNat-0)*6
theorem rao_round(x:Value)(n:Nat)(cs:List V)(now:Int)(y:Value)(m:Nat)(ds:List V)(i:Int)(R:Exit→List (Option V)→St→Prop):ak Tryd.prog RJ0 9 10 mo 34 26 [0,1,2,6,7] [.lst x n cs,.int .i64 now,.lst y m ds,.bool false,.int .i64 i] [] R=
 (
 bif decide (i<(↑n:Int))then bif decide (0≤i64.wrap (i+1))then bif true&&(i64.wrap (i+1)).toNat.ble n then bif (List.take (zO_0 i)
 cs).length.beq (zO_0 i)&&(isCr [] (List.take (zO_0 i) cs)&&(crD [] (List.take (zO_0 i) cs)).length.beq ((i64.wrap (i+1)).toNat-0))&&(crD []
 (List.take (zO_0 i) cs)).length.ble 9223372036854775807 then bif bD (crD [] (List.take (zO_0 i) cs))then bif decide (0≤i)&&decide (i<(↑n:Int))then
 bif (i.toNat*6+1).blt cs.length then bif ao (cs.getD (i.toNat*6+1) (.bool false))then bif ds.length.beq (m*1)&&(ds.all ao&&ds.length.beq
 m)&&(List.map am ds).length.ble 9223372036854775807 then Fits 0 [.lst x n cs,.int i64 now,.lst y m ds,.bool false,.int i64
 (↑i.toNat:Int),.bool (hasS (List.map am ds) (am (cs.getD (i.toNat*6+1) (.bool false)))),.int i64 0] [] [some (.lst x n cs),some
 (.int i64 now),some (.lst y m ds),some (.bool false),some (.int i64 i),some (.bool (hasS (List.map am ds) (am (cs.getD (i.toNat
 *6+1) (.bool false))))),some (.int i64 0)] []∧bif eR
 {x:=x,n:=n,cs:=cs,now:=now,y:=y,m:=m,ds:=ds,i:=i.toNat,ok:=hasS (List.map am ds) (am (cs.getD (i.toNat*6+1) (.bool false))),k:=0}
 then ∀(j:Int),bif hasS (List.map am ds) (am (cs.getD (i.toNat*6+1) (.bool false)))&&dAllV now cs i.toNat 0 then R .ret [some (.lst x n
 cs),some (.int i64 now),some (.lst y m ds),some (.bool true),some (.int i64 (↑i.toNat:Int))] []else R .normal [some (.lst x n
 cs),some (.int i64 now),some (.lst y m ds),some (.bool false),some (.int i64 (i64.wrap ((↑i.toNat:Int)+1)))] []else False
 else False else False else False else False else Fits 0 [.lst x n cs,.int i64 now,.lst y m ds,.bool false,.int i64 (↑i.toNat:Int),
 .bool false,.int i64 0] [] [some (.lst x n cs),some (.int i64 now),some (.lst y m ds),some (.bool false),some (.int i64 i),
 some (.bool false),some (.int i64 0)] []∧bif eR
 {x:=x,n:=n,cs:=cs,now:=now,y:=y,m:=m,ds:=ds,i:=i.toNat,ok:=false,k:=0}then ∀(j:Int),R .normal [some (.lst x n cs),some
 (.int i64 now),some (.lst y m ds),some (.bool false),some (.int i64 (i64.wrap ((↑i.toNat:Int)+1)))] []else False else False
 else False else False else R (.exit 0) [some (.lst x n cs),some (.int i64 now),some (.lst y m ds),some (.bool false),some (.int i64
 i)] []):=by kernel_rfl
structure RAO where
 x:Value
 n:Nat
 cs:List V
 now:Int
 y:Value
 m:Nat
 ds:List V
 i:Nat
def raoV(z:RAO):List V:=[.lst z.x z.n z.cs,.int .i64 z.now,.lst z.y z.m z.ds,.bool false,.int .i64 z.i]
def raoJ(_:RAO):St:=[]
def fU(z:RAO):Bool:=okR z.n z.cs&&(okS z.m z.ds&&Nat.ble z.i z.n)
def raoMu(z:RAO):Nat:=z.n-z.i
def raoDec:List (Option V)→St→Option RAO
 |[some (.lst x n cs),some (.int .i64 now),some (.lst y m ds),some (.bool false),some (.int .i64 0)],_=>some ⟨x,n,cs,now,y,m,ds,0⟩
 |_,_=>none
def anRV(now:Int)(cs ds:List V)(i:Nat):Bool:=anR now (ds.map am) ((crD [] cs).take i) ((crD [] cs).drop i)
def jX(x:Value)(n:Nat)(cs:List V)(now:Int)(y:Value)(m:Nat)(ds:List V)(b:Bool)(K:Exit→List V→St→Prop):Prop:=
 bif b then ∀j:Int,K .ret [.lst x n cs,.int .i64 now,.lst y m ds,.bool true,.int .i64 j] []else ∀j:Int,K (.exit 0) [.lst x n cs,.int .i64 now,.lst y m ds,.bool false,.int .i64 j] []
def nx:Asks RAO:=fun z K=>jX z.x z.n z.cs z.now z.y z.m z.ds (anRV z.now z.cs z.ds z.i) K
theorem rao_roundOk(z:RAO)(hx:fU z=true):ak Tryd.prog RJ0 9 10 mo 34 26 [0,1,2,6,7] (raoV z) (raoJ z) (ap 0 fU raoV raoJ raoMu nx z):=by
 obtain⟨x,n,cs,now,y,m,ds,i⟩:=z;unfold fU at hx;simp only[Bool.and_eq_true]at hx;have hx1:okR n cs=true:=hx.1;have hx2:okS m ds=true:=hx.2.1;have p1:i≤n:=Nat.le_of_ble_eq_true hx.2.2;obtain⟨p2,p3,p4,p5⟩:=dc hx1;obtain⟨an,rfl,rfl,p6,p7⟩:=cL hx2;show ak Tryd.prog RJ0 9 10 mo 34 26 [0,1,2,6,7] [.lst x n cs,.int .i64 now,.lst y an.length (strs an),.bool false,.int .i64 i] [] _;rw[rao_round,aA];unfold zO_0;have out:∀K,nx ⟨x,n,cs,now,y,an.length,strs an,i⟩ K→jX x n cs now y an.length (strs an) (anR now an ((crD [] cs).take i) ((crD [] cs).drop i)) K:=fun K hK=>by
  have hK:jX x n cs now y an.length (strs an) (anRV now cs (strs an) i) K:=hK;unfold anRV at hK;rw[aA]at hK;exact hK
 cases hd:(crD [] cs).drop i with
 |nil=>
  have hi:=bH hd (by omega);rw[decide_eq_false (show ¬((i:Int)<(n:Int)) by omega),cond_false];refine⟨_,[],fun K hK=>?_,au [.lst x n cs,.int .i64 now,.lst y an.length (strs an),.bool false,.int .i64 i] rfl _ rfl _⟩;have hK:=out K hK;rw[hd]at hK;exact hK i
 |cons c r=>
  obtain⟨e1,e2,e3⟩:=aY hd;have C:=fL p2 hd;have d1:decide ((i:Int)<(n:Int))=true:=decide_eq_true (by omega);have d2:decide ((0:Int)≤(i:Int))=true:=decide_eq_true (by omega);have l1:(i*6+1).blt cs.length=true:=Nat.ble_eq_true_of_le (by omega);have w2:i64.wrap ((i:Int)+1)=((i+1:Nat):Int):=by rw[IntWalk.i64_in _ ⟨by omega,by omega⟩];omega
  have d4:decide ((0:Int)≤((i+1:Nat):Int))=true:=decide_eq_true (by omega);have d7:(i+1).ble n=true:=Nat.ble_eq_true_of_le (by omega);obtain⟨g3,g4⟩:=iW [] (i+1) cs p2;have hlen:(List.take ((i+1)*6) cs).length=(i+1)*6:=by rw[List.length_take];omega
  have hcl:(List.take (i+1) (crD [] cs)).length=i+1:=by rw[List.length_take];omega
  have g5:isCr [] (List.take ((i+1)*6) cs)=true:=je (fun v hv=>by unfold nmZ at hv;rw[Bool.and_eq_true]at hv;exact hv.2) _ g4;have q1:(i+1).ble 9223372036854775807=true:=Nat.ble_eq_true_of_le (by omega);have q2:(strs an).length.beq (an.length*1)=true:=by rw[aU,Nat.mul_one];exact Nat.beq_refl _
  have q3:(strs an).length.beq an.length=true:=by rw[aU];exact Nat.beq_refl _
  have q4:an.length.ble 9223372036854775807=true:=Nat.ble_eq_true_of_le p6;have ht:(crD [] cs).take (i+1)=(crD [] cs).take i++[c]:=by rw[List.take_add_one,e1];rfl
  have pre:∀b,eR ⟨x,n,cs,now,y,an.length,strs an,i,b,0⟩=true:=fun b=>by
   unfold eR;simp only[Bool.and_eq_true];exact⟨hx1,Nat.ble_eq_true_of_le (show i+1≤n by omega),Nat.ble_eq_true_of_le (Nat.zero_le _)⟩
  simp only[d1,d2,w2,d4,d7,Int.toNat_natCast,Nat.sub_zero,hlen,g3,g5,hcl,Nat.beq_refl,q1,q2,q3,q4,l1,C.g,ao,am,cr,pre,Bool.and_self,cond_true];have hda:dAllV now cs i 0=((crD [] cs).take i++[c]).all (dB now):=by
   unfold dAllV dAll;rw[List.drop_zero,Nat.sub_zero,ht]
  have next:anR now an ((crD [] cs).take i) (c::r)=((bD ((crD [] cs).take i++[c])&&(hasS an c.g&&((crD [] cs).take i++[c]).all (dB now)))||anR now an ((crD [] cs).take i++[c]) r):=rfl
  have go:(bD ((crD [] cs).take i++[c])&&(hasS an c.g&&((crD [] cs).take i++[c]).all (dB now)))=false→ap 0 fU raoV raoJ raoMu nx ⟨x,n,cs,now,y,an.length,strs an,i⟩ .normal [some (.lst x n cs),some (.int .i64 now),some (.lst y an.length (strs an)),some (.bool false),some (.int .i64 ((i+1:Nat):Int))] []:=fun h=>by
   refine⟨⟨x,n,cs,now,y,an.length,strs an,i+1⟩,?_,au _ rfl _ rfl _,by simp only[raoMu];omega,fun K hK=>?_⟩
   ·unfold fU;simp only[Bool.and_eq_true];exact⟨hx1,hx2,Nat.ble_eq_true_of_le (show i+1≤n by omega)⟩
   ·have hK:=out K hK;show jX x n cs now y an.length (strs an) (anRV now cs (strs an) (i+1)) K;unfold anRV;rw[aA,ht,e2];rw[hd,next,h,Bool.false_or]at hK;exact hK
  rw[ht,hda];refine af (fun h1=>?_) (fun h1=>?_)
  ·refine⟨au _ rfl _ rfl _,fun j=>af (fun h2=>?_) (fun h2=>?_)⟩
   ·refine⟨_,[],fun K hK=>?_,au [.lst x n cs,.int .i64 now,.lst y an.length (strs an),.bool true,.int .i64 i] rfl _ rfl _⟩;have hK:=out K hK;rw[hd,next,h1,h2]at hK;exact hK i
   ·exact go (by rw[h1,h2];rfl)
  ·exact⟨au _ rfl _ rfl _,fun j=>go (by rw[h1];rfl)⟩
noncomputable def lkRAO:Nat→Trans→Trans:=aJ 26 (bu 0 (szOf Tryd.prog 34) [0,1,2,6,7] raoDec fU raoV raoJ nx) (ac 9)
theorem lkRAO_ok:aF Tryd.prog 0 lkRAO 34:=by
 unfold lkRAO;exact bk (aM 9 0 34) (by kernel_rfl) fun f st Q h=>aP (P:=Tryd.prog) (T:=RJ0) (k:=0) (lim:=9) (n:=10) (g:=34) (p0:=26) (lk:=mo) av RJ0_ok lkRIA_ok raoMu rao_roundOk h
noncomputable def RJ1:Tab:=⟨noT,noL,cp (aK 9) 34 0 lkRAO⟩
theorem RJ1_ok:TabOk3 Tryd.prog RJ1:=⟨aB,aC,bf (al 9) lkRAO_ok⟩
theorem ran_tree(x:Value)(n:Nat)(cs:List V)(now:Int)(y:Value)(m:Nat)(ds:List V)(R:V→Prop):runW Tryd.prog RJ1 9 10 34 [.lst x n cs,.int .i64 now,.lst y m ds] R=
  (
 Fits 0 [.lst x n cs,.int i64 now,.lst y m ds,.bool false,.int i64 0] [] [some (.lst x n cs),some (.int i64 now),some (.lst y m ds),
 some (.bool false),some (.int i64 0)] []∧bif fU {x:=x,n:=n,cs:=cs,now:=now,y:=y,m:=m,ds:=ds,i:=0}then bif anRV now cs ds 0 then
 ∀(j:Int),R (.bool true)else ∀(j:Int),R (.bool false)else False):=by kernel_rfl
theorem ran_sat(x:Value)(n:Nat)(cs:List V)(now:Int)(y:Value)(an:List (List UInt8))(h:okR n cs=true)(h2:an.length≤9223372036854775807):FnSat Tryd.prog 34 [.lst x n cs,.int .i64 now,lstS y an] [] (Is (.bool (dH now an none (crD [] cs)),[])):=by
 refine ay (lim:=9) (n:=10) av RJ1_ok rfl rfl ?_;unfold lstS;rw[ran_tree];have e:anRV now cs (strs an) 0=dH now an none (crD [] cs):=by
  unfold anRV;rw[aA,List.take_zero,List.drop_zero,anR_eq];rfl
 rw[e];refine⟨au _ rfl _ rfl _,aa ?_ ?_⟩
 ·unfold fU;simp only[Bool.and_eq_true];exact⟨h,ey h2,Nat.ble_eq_true_of_le (Nat.zero_le _)⟩
 ·cases dH now an none (crD [] cs)with
  |true=>intro j;rfl
  |false=>intro j;rfl
theorem ranG_ok(args:List V)(s:St)(l:List (Bool×(V×St)))(o:V×St)(h:anG args s=some l)(ho:aI l=some o):FnSat Tryd.prog 34 args s (Is o):=by
 unfold anG at h;split at h
 ·rename_i p now q;split at h
  ·rename_i b ls b' an hv hv';cases h;obtain⟨hb,rfl⟩:=aT ho;simp only[Bool.and_eq_true]at hb;obtain⟨rfl,rfl,h1,h2⟩:=hb;refine cG rfl fun B W0 w m rargs hr ha=>?_;obtain⟨a,r,q1,q2,rfl⟩:=ah ha;obtain⟨a2,r2,q3,q4,rfl⟩:=ah q2;obtain⟨a3,r3,q5,q6,rfl⟩:=ah q4;obtain⟨L,e1,e2,e3⟩:=fM hr hv q1;have hy:=cZ hr hv' q5;have q7:=cv (Ψ:=Frz.of w) (m':=[]) _ _ rfl q3;have q8:=aV (Ψ:=Frz.of w) (m':=[]) _ _ rfl q6;have hl:L.length≤9223372036854775807:=by rw[←List.length_map (f:=(·.c)),e1];exact Nat.le_of_ble_eq_true h1
   have:=@ran_sat (Frz.of w) a L.length (crs L) now a3 an (i9 hl e3) (Nat.le_of_ble_eq_true h2);rw[di,e1]at this;exact⟨[lstR a L,.int .i64 now,lstS a3 an],@aw _ (Frz.of w) [] _ _ _ _ e2 (@aw _ (Frz.of w) [] _ _ _ _ q7 (@aw _ (Frz.of w) [] _ _ _ _ hy q8)),this⟩
  ·cases h
 ·cases h
noncomputable def TO0:Tab:=⟨noT,noL,aK 9⟩
theorem TO0_ok:TabOk3 Tryd.prog TO0:=⟨aB,aC,al 9⟩
noncomputable def zP_0(cs:List V)(i:Int):=[V.str (am (cs.getD (i.toNat*6+0) (V.bool false))),V.str (am (cs.getD (i.toNat*6+1) (V.bool false))),V.lst (xOfV (cs.getD (i.toNat*6+2) (V.bool false))) (nOfV (cs.getD (i.toNat*6+2) (V.bool false))) (cP (cs.getD (i.toNat*6+2) (V.bool false))),V.int i64 (ai (cs.getD (i.toNat*6+3) (V.bool false))),V.int i64 (ai (cs.getD (i.toNat*6+4) (V.bool false))),V.bool (bN (cs.getD (i.toNat*6+5) (V.bool false)))]
theorem to_round0(x:Value)(n:Nat)(cs:List V)(i:Int)(R:Exit→List (Option V)→St→Prop):ak Tryd.prog TO0 9 10 (ac 9) 26 58 [0,3,4] [.lst x n cs,.nilSlice,.int .i64 i] [] R=
 (
 bif decide (i<(↑n:Int))then bif decide (0≤i)&&decide (i<(↑n:Int))then bif (i.toNat*6+6).ble cs.length then bif ao (cs.getD (i.toNat*6+
 0) (.bool false))then bif ao (cs.getD (i.toNat*6+1) (.bool false))then bif bM (cs.getD (i.toNat*6+2) (.bool false))then bif ae
 i64 (cs.getD (i.toNat*6+3) (.bool false))then bif ae i64 (cs.getD (i.toNat*6+4) (.bool false))then bif bh (cs.getD (i.toNat
 *6+5) (.bool false))then R .normal [some (.lst x n cs),some (.slice 1 0 1 false 0 0),some (.int i64 (i64.wrap (i+1)))] [.row
 (zP_0 cs i) 31 6,.row (zP_0 cs i) 31 6]else False else False else False else False else False else False else False else False else R (.exit 0) [some
 (.lst x n cs),some .nilSlice,some (.int i64 i)] []):=by kernel_rfl
noncomputable def zP_1(cs:List V)(i:Int):=[V.str (am (cs.getD (i.toNat*6+0) (V.bool false))),V.str (am (cs.getD (i.toNat*6+1) (V.bool false))),V.lst (xOfV (cs.getD (i.toNat*6+2) (V.bool false))) (nOfV (cs.getD (i.toNat*6+2) (V.bool false))) (cP (cs.getD (i.toNat*6+2) (V.bool false))),V.int i64 (ai (cs.getD (i.toNat*6+3) (V.bool false))),V.int i64 (ai (cs.getD (i.toNat*6+4) (V.bool false))),V.bool (bN (cs.getD (i.toNat*6+5) (V.bool false)))]
theorem to_round1(x:Value)(n:Nat)(cs o:List V)(m:Nat)(i:Int)(R:Exit→List (Option V)→St→Prop):ak Tryd.prog TO0 9 10 (ac 9) 26 58 [0,3,4] [.lst x n cs,.slice 0 0 m false 0 0,.int .i64 i] [.row o 31 6] R=
 (
 bif decide (i<(↑n:Int))then bif decide (0≤i)&&decide (i<(↑n:Int))then bif (i.toNat*6+6).ble cs.length then bif ao (cs.getD (i.toNat*6+
 0) (.bool false))then bif ao (cs.getD (i.toNat*6+1) (.bool false))then bif bM (cs.getD (i.toNat*6+2) (.bool false))then bif ae
 i64 (cs.getD (i.toNat*6+3) (.bool false))then bif ae i64 (cs.getD (i.toNat*6+4) (.bool false))then bif bh (cs.getD (i.toNat
 *6+5) (.bool false))then bif o.length.beq (m*6)then bif (m+1).ble 9223372036854775807&&((m+1)*80).ble 140737488355328 then R .normal [some
 (.lst x n cs),some (.slice 2 0 (m+1) false 0 0),some (.int i64 (i64.wrap (i+1)))] [.dead,.row (zP_1 cs i) 31 6,.row (o++
 (zP_1 cs i)) 31 6]else False else False else False else False else False else False else False else False else False else False else R (.exit 0) [some
 (.lst x n cs),some (.slice 0 0 m false 0 0),some (.int i64 i)] [.row o 31 6]):=by kernel_rfl
theorem gA:∀cs:List V,isCz cs=true→aq cs=true
 |[],_=>rfl
 |[_],h=>by cases h
 |[_,_],h=>by cases h
 |[_,_,_],h=>by cases h
 |[_,_,_,_],h=>by cases h
 |[_,_,_,_,_],h=>by cases h
 |a::b::c::d::e::f::r,h=>by
  have h:(ao a&&(ao b&&(nmZ c&&(ae .i64 d&&(ae .i64 e&&(bh f&&isCz r))))))=true:=h;simp only[Bool.and_eq_true]at h;obtain⟨h1,h2,h3,h4,h5,h6,h7⟩:=h;obtain⟨k,rfl⟩:=dV h1;obtain⟨g,rfl⟩:=dV h2;obtain⟨i,rfl⟩:=dW h4;obtain⟨j,rfl⟩:=dW h5;obtain⟨t,rfl⟩:=gB h6;have hc:c.flat=true:=by
   unfold nmZ at h3;rw[Bool.and_eq_true]at h3;cases c<;>first|rfl|exact absurd h3.1 (by simp[bM])
  simp only[aq,V.flat,hc,gA r h7,Bool.and_self]
theorem six_take(d:List V)(h:6≤d.length):d.take 6=[d.getD 0 (.bool false),d.getD 1 (.bool false),d.getD 2 (.bool false),d.getD 3 (.bool false),d.getD 4 (.bool false),d.getD 5 (.bool false)]:=by
 match d,h with
 |[],h=>simp at h
 |[_],h=>simp at h
 |[_,_],h=>simp at h
 |[_,_,_],h=>simp at h
 |[_,_,_,_],h=>simp at h
 |[_,_,_,_,_],h=>simp at h
 |a::b::c::e::f::g::r,_=>rfl
theorem lz{cs r:List V}{rr:List CR}{c:CR}{i n:Nat}{x:Value}(C:CrAt cs i c)(hx:cs.getD (i*6+2) (.bool false)=.lst x c.l.length (strs c.l))(hl:i*6+6≤cs.length):
  cs.take (i*6)++[.str c.k,.str c.g,.lst x c.l.length (strs c.l),.int .i64 c.f,.int .i64 c.u,.bool c.ca]=cs.take ((i+1)*6):=by
 have get:∀j,(cs.drop (i*6)).getD j (.bool false)=cs.getD (i*6+j) (.bool false):=fun j=>by
  rw[List.getD_eq_getElem?_getD,List.getD_eq_getElem?_getD,List.getElem?_drop]
 rw[show(i+1)*6=i*6+6 by omega,List.take_add,six_take _ (by rw[List.length_drop];omega),get,get,get,get,get,get,C.k,C.g,hx,C.f,C.u,C.ca]
structure TOX where
 x:Value
 n:Nat
 cs:List V
 i:Nat
def toSl:Nat→V
 |0=>.nilSlice
 |i+1=>.slice 0 0 (i+1) false 0 0
def toRw(cs:List V):Nat→St
 |0=>[]
 |i+1=>[.row (cs.take ((i+1)*6)) 31 6]
def toV(q:TOX):List V:=[.lst q.x q.n q.cs,toSl q.i,.int .i64 q.i]
def toJ(q:TOX):St:=toRw q.cs q.i
def ix(q:TOX):Bool:=okR q.n q.cs&&(Nat.ble q.i q.n&&Nat.ble q.n 1000000)
def toMu(q:TOX):Nat:=q.n-q.i
def toDec:List (Option V)→St→Option TOX
 |[some (.lst x n cs),some .nilSlice,some (.int .i64 0)],_=>some ⟨x,n,cs,0⟩
 |_,_=>none
def toOutG(x:Value)(n:Nat)(cs:List V)(K:Exit→List V→St→Prop):Prop:=
 (n=0→K (.exit 0) [.lst x n cs,.nilSlice,.int .i64 n] [])∧∀j,n=j+1→K (.exit 0) [.lst x n cs,.slice 0 0 (j+1) false 0 0,.int .i64 n] [.row cs 31 6]
def toOut:Asks TOX:=fun q K=>toOutG q.x q.n q.cs K
theorem kg(x:Value)(n:Nat)(cs o:List V)(m b:Nat)(j:Int)(hf:aq o=true){st:St}(hb:st[b]?=some (.row o 31 6)):
  Fits 0 [.lst x n cs,.slice 0 0 m false 0 0,.int .i64 j] [.row o 31 6] [some (.lst x n cs),some (.slice b 0 m false 0 0),some (.int .i64 j)] st:=
 ⟨[b],[.lst x n cs,.slice b 0 m false 0 0,.int .i64 j],rfl,rfl,FitsM.of ⟨.inr ⟨.row o 31 6,.inl (by simp only[renB,a9 _ hf]),hb⟩,trivial⟩,by simp,fun i hi=>by omega⟩
theorem to_roundOk(q:TOX)(hx:ix q=true):ak Tryd.prog TO0 9 10 (ac 9) 26 58 [0,3,4] (toV q) (toJ q) (ap 0 ix toV toJ toMu toOut q):=by
 obtain⟨x,n,cs,i⟩:=q;unfold ix at hx;simp only[Bool.and_eq_true]at hx;have hx1:okR n cs=true:=hx.1;have p1:i≤n:=Nat.le_of_ble_eq_true hx.2.1;have p0:n≤1000000:=Nat.le_of_ble_eq_true hx.2.2;obtain⟨p2,p3,p4,p5⟩:=dc hx1;have fl:∀k,aq (cs.take (k*6))=true:=fun k=>gA _ (iW [] k cs p2).2;have pre2:i+1≤n→ix ⟨x,n,cs,i+1⟩=true:=fun h=>by
  unfold ix;simp only[Bool.and_eq_true];exact⟨hx1,Nat.ble_eq_true_of_le h,Nat.ble_eq_true_of_le p0⟩
 have w2:i64.wrap ((i:Int)+1)=((i+1:Nat):Int):=by rw[IntWalk.i64_in _ ⟨by omega,by omega⟩];omega
 have d2:decide ((0:Int)≤(i:Int))=true:=decide_eq_true (by omega);cases i with
 |zero=>
  show ak Tryd.prog TO0 9 10 (ac 9) 26 58 [0,3,4] [.lst x n cs,.nilSlice,.int .i64 ((0:Nat):Int)] [] _;rw[to_round0];unfold zP_0;cases hd:(crD [] cs).drop 0 with
  |nil=>
   have hi:=bH hd (Nat.zero_le _);rw[decide_eq_false (show ¬(((0:Nat):Int)<(n:Int)) by omega),cond_false];refine⟨_,[],fun K hK=>?_,au [.lst x n cs,.nilSlice,.int .i64 n] rfl _ (by rw[show((n:Nat):Int)=((0:Nat):Int) by omega];rfl) _⟩;have hK:toOutG x n cs K:=hK;exact hK.1 (by omega)
  |cons c r=>
   obtain⟨e1,e2,e3⟩:=aY hd;have C:=fL p2 hd;obtain⟨xn,hn⟩:=C.l;have d1:decide (((0:Nat):Int)<(n:Int))=true:=decide_eq_true (by omega);have l6:(0*6+6).ble cs.length=true:=Nat.ble_eq_true_of_le (by omega);simp only[d1,d2,Int.toNat_natCast,l6,C.k,C.g,hn,C.f,C.u,C.ca,ao,am,bM,xOfV,nOfV,cP,ae,ai,bh,bN,decide_true,w2,Bool.and_self,cond_true];have hc:=lz (r:=[]) (rr:=[]) (n:=n) C hn (by omega);rw[Nat.zero_mul,List.take_zero,List.nil_append]at hc;rw[hc];exact⟨⟨x,n,cs,0+1⟩,pre2 (by omega),kg x n cs _ 1 1 _ (fl _) rfl,by simp only[toMu];omega,fun K hK=>hK⟩
 |succ j=>
  show ak Tryd.prog TO0 9 10 (ac 9) 26 58 [0,3,4] [.lst x n cs,.slice 0 0 (j+1) false 0 0,.int .i64 ((j+1:Nat):Int)] [.row (cs.take ((j+1)*6)) 31 6] _;rw[to_round1];unfold zP_1;cases hd:(crD [] cs).drop (j+1)with
  |nil=>
   have hi:=bH hd (by omega);rw[decide_eq_false (show ¬(((j+1:Nat):Int)<(n:Int)) by omega),cond_false,List.take_of_length_le (by omega)];refine⟨_,_,fun K hK=>?_,kg x n cs cs (j+1) 0 ((j+1:Nat):Int) (gA _ p2) rfl⟩;have hK:toOutG x n cs K:=hK;have:=hK.2 j (by omega);rw[show((n:Nat):Int)=((j+1:Nat):Int) by omega]at this;exact this
  |cons c r=>
   obtain⟨e1,e2,e3⟩:=aY hd;have C:=fL p2 hd;obtain⟨xn,hn⟩:=C.l;have d1:decide (((j+1:Nat):Int)<(n:Int))=true:=decide_eq_true (by omega);have l6:((j+1)*6+6).ble cs.length=true:=Nat.ble_eq_true_of_le (by omega);have q5:(cs.take ((j+1)*6)).length.beq ((j+1)*6)=true:=by rw[List.length_take,Nat.min_eq_left (by omega)];exact Nat.beq_refl _
   have q6:(j+1+1).ble 9223372036854775807=true:=Nat.ble_eq_true_of_le (by omega);have q7:((j+1+1)*80).ble 140737488355328=true:=Nat.ble_eq_true_of_le (by omega);simp only[d1,d2,Int.toNat_natCast,l6,C.k,C.g,hn,C.f,C.u,C.ca,ao,am,bM,xOfV,nOfV,cP,ae,ai,bh,bN,decide_true,w2,q5,q6,q7,Bool.and_self,cond_true];have hc:=lz (r:=[]) (rr:=[]) (n:=n) C hn (by omega);rw[hc];exact⟨⟨x,n,cs,j+1+1⟩,pre2 (by omega),kg x n cs _ (j+1+1) 2 _ (fl _) rfl,by simp only[toMu];omega,fun K hK=>hK⟩
noncomputable def lkTO:Nat→Trans→Trans:=aJ 58 (bu 0 (szOf Tryd.prog 26) [0,3,4] toDec ix toV toJ toOut) (ac 9)
theorem lkTO_ok:aF Tryd.prog 0 lkTO 26:=by
 unfold lkTO;exact bk (aM 9 0 26) (by kernel_rfl) fun f st Q h=>aP (P:=Tryd.prog) (T:=TO0) (k:=0) (lim:=9) (n:=10) (g:=26) (p0:=58) (lk:=ac 9) av TO0_ok (aL 9 _ _) toMu to_roundOk h
noncomputable def TO1:Tab:=⟨noT,noL,cp (aK 9) 26 0 lkTO⟩
theorem TO1_ok:TabOk3 Tryd.prog TO1:=⟨aB,aC,bf (al 9) lkTO_ok⟩
theorem to_tree(x:Value)(n:Nat)(cs:List V)(R:V→St→Prop):runM Tryd.prog TO1 9 10 26 [.lst x n cs] R=
  (
 Fits 0 [.lst x n cs,.nilSlice,.int i64 0] [] [some (.lst x n cs),some .nilSlice,some (.int i64 0)] []∧bif ix {x:=x,n:=n,cs:=cs,i:=0}
 then(n=0→R .nilSlice [])∧∀(j:Nat),n=j+1→R (.slice 0 0 (j+1) false 0 0) [.row cs 31 6]else False):=by kernel_rfl
def toldT:List V→Option (List (Bool×(V×St)))
 |[.lst x n cs]=>some [(okR n cs&&(Nat.ble n 1000000&&Nat.beq n 0),(.nilSlice,[])),(okR n cs&&Nat.ble n 1000000,(.slice 0 0 n false 0 0,[.row cs 31 6]))]
 |_=>none
theorem told_ok(args:List V)(L:List (Bool×(V×St)))(o:V×St)(h:toldT args=some L)(ho:aI L=some o):FnSat Tryd.prog 26 args [] (Is o):=by
 unfold toldT at h;split at h
 ·rename_i x n cs;cases h;cases hk:okR n cs&&Nat.ble n 1000000 with
  |false=>
   have:(okR n cs&&(Nat.ble n 1000000&&Nat.beq n 0))=false:=by rw[←Bool.and_assoc,hk];rfl
   rw[hk,this]at ho;simp[aI]at ho
  |true=>
  rw[Bool.and_eq_true]at hk;obtain⟨p2,p3,p4,p5⟩:=dc hk.1;have pre:ix ⟨x,n,cs,0⟩=true:=by
   unfold ix;simp only[Bool.and_eq_true];exact⟨hk.1,Nat.ble_eq_true_of_le (Nat.zero_le _),hk.2⟩
  refine FnSat.fits (iF av TO1_ok (lim:=9) (n:=10) (cast (to_tree x n cs _).symm ?_));rw[hk.1,hk.2,Bool.true_and,Bool.true_and]at ho;refine⟨au _ rfl _ rfl _,aa pre ⟨fun h0=>?_,fun j hj=>?_⟩⟩
  ·subst h0;cases ho;exact⟨[],[.nilSlice],rfl,rfl,FitsM.of trivial,by decide,fun i hi=>by omega⟩
  ·subst hj;cases ho;exact⟨[0],[.slice 0 0 (j+1) false 0 0],rfl,rfl,FitsM.of ⟨.inr ⟨.row cs 31 6,.inl (by simp only[renB,a9 _ (gA _ p2)]),rfl⟩,trivial⟩,by simp,fun i hi=>by omega⟩
 ·cases h
noncomputable def LR0:Tab:=⟨noT,noL,aK 9⟩
theorem LR0_ok:TabOk3 Tryd.prog LR0:=⟨aB,aC,al 9⟩
noncomputable def zQ_0(cs:List V)(i:Int):=cs.getD (i.toNat*6+2) (V.bool false)
theorem lri_round(x:Value)(n:Nat)(cs:List V)(a i k:Int)(R:Exit→List (Option V)→St→Prop):ak Tryd.prog LR0 9 10 (ac 9) 23 7462 [0,3,4,5] [.lst x n cs,.int .i64 a,.int .i64 i,.int .i64 k] [] R=
 (
 bif decide (0≤i)&&decide (i<(↑n:Int))then bif (i.toNat*6+2).blt cs.length then bif bM (zQ_0 cs i)then bif decide (k<(↑(nOfV (zQ_0 cs i)):
 Int))then bif decide (a<6000)then bif decide (0≤i)&&decide (i<(↑n:Int))then bif (i.toNat*6+2).blt cs.length then bif bM (zQ_0 cs i)then bif
 decide (0≤k)&&decide (k<(↑(nOfV (zQ_0 cs i)):Int))then bif (k.toNat*1).blt (cP (zQ_0 cs i)).length then bif ao ((cP (zQ_0 cs i)).getD
 (k.toNat*1) (.bool false))then R .normal [some (.lst x n cs),some (.int i64 (i64.wrap (i64.wrap (a+5)+if(↑(am ((cP
 (zQ_0 cs i)).getD (k.toNat*1) (.bool false))).length:Int)<6000 then(↑(am ((cP (zQ_0 cs i)).getD (k.toNat*1) (.bool false))).length:Int)else
 6000))),some (.int i64 i),some (.int i64 (i64.wrap (k+1)))] []else False else False else False else False else False else False
 else R (.exit 2) [some (.lst x n cs),some (.int i64 a),some (.int i64 i),some (.int i64 k)] []else R (.exit 2) [some
 (.lst x n cs),some (.int i64 a),some (.int i64 i),some (.int i64 k)] []else False else False else False):=by kernel_rfl
def lrI:Nat→List (List UInt8)→Nat
 |n,[]=>n
 |n,s::r=>if n<6000 then lrI (n+5+min 6000 s.length) r else n
def lrN:Nat→List CR→Nat
 |n,[]=>n
 |n,c::r=>if n<6000 then lrN (lrI (n+100+min 6000 c.k.length+min 6000 c.g.length) c.l) r else n
def iM(cs:List V)(i:Nat):List (List UInt8):=(((crD [] cs)[i]?).map (·.l)).getD []
theorem nmsAt_of{cs:List V}{i:Nat}{c:CR}{r:List CR}(h:(crD [] cs).drop i=c::r):iM cs i=c.l:=by
 unfold iM;rw[(aY h).1];rfl
theorem head_of{cs:List V}{i n:Nat}(h:i<n)(hn:(crD [] cs).length=n):∃c r,(crD [] cs).drop i=c::r:=by
 cases hd:(crD [] cs).drop i with
 |nil=>have:=congrArg List.length hd;simp at this;omega
 |cons c r=>exact⟨c,r,rfl⟩
theorem lrI_le:∀(l:List (List UInt8)) (n:Nat),n≤20000→lrI n l≤20000
 |[],n,h=>h
 |s::r,n,h=>by
  unfold lrI;split
  ·exact lrI_le r _ (by omega)
  ·exact h
structure LRI where
 x:Value
 n:Nat
 cs:List V
 a:Nat
 i:Nat
 k:Nat
def lriV(q:LRI):List V:=[.lst q.x q.n q.cs,.int .i64 q.a,.int .i64 q.i,.int .i64 q.k]
def lriJ(_:LRI):St:=[]
def fZ(q:LRI):Bool:=okR q.n q.cs&&(Nat.blt q.i q.n&&(Nat.ble q.k (iM q.cs q.i).length&&Nat.ble q.a 20000))
def lriMu(q:LRI):Nat:=(iM q.cs q.i).length-q.k
def lriDec:List (Option V)→St→Option LRI
 |[some (.lst x n cs),some (.int .i64 a),some (.int .i64 i),some (.int .i64 0)],_=>some ⟨x,n,cs,a.toNat,i.toNat,0⟩
 |_,_=>none
def j4(x:Value)(n:Nat)(cs:List V)(i a:Nat)(K:Exit→List V→St→Prop):Prop:=∀j:Nat,K (.exit 2) [.lst x n cs,.int .i64 a,.int .i64 i,.int .i64 j] []
def lriS(a:Nat)(cs:List V)(i k:Nat):Nat:=lrI a ((iM cs i).drop k)
def nN:Asks LRI:=fun q K=>j4 q.x q.n q.cs q.i (lriS q.a q.cs q.i q.k) K
theorem lri_roundOk(q:LRI)(hx:fZ q=true):ak Tryd.prog LR0 9 10 (ac 9) 23 7462 [0,3,4,5] (lriV q) (lriJ q) (ap 0 fZ lriV lriJ lriMu nN q):=by
 obtain⟨x,n,cs,a,i,k⟩:=q;unfold fZ at hx;simp only[Bool.and_eq_true]at hx;have hx1:okR n cs=true:=hx.1;have p0:i<n:=Nat.le_of_ble_eq_true hx.2.1;have p1:k≤(iM cs i).length:=Nat.le_of_ble_eq_true hx.2.2.1;have p9:a≤20000:=Nat.le_of_ble_eq_true hx.2.2.2;obtain⟨p2,p3,p4,p5⟩:=dc hx1;obtain⟨c,r,hd⟩:=head_of p0 p3;have C:=fL p2 hd;obtain⟨xn,hn⟩:=C.l;have hL:=C.ln;have hnm:=nmsAt_of hd;show ak Tryd.prog LR0 9 10 (ac 9) 23 7462 [0,3,4,5] [.lst x n cs,.int .i64 a,.int .i64 i,.int .i64 k] [] _;rw[lri_round];unfold zQ_0;have out:∀K,nN ⟨x,n,cs,a,i,k⟩ K→j4 x n cs i (lrI a (c.l.drop k)) K:=fun K hK=>by
  have hK:j4 x n cs i (lrI a ((iM cs i).drop k)) K:=hK;rw[hnm]at hK;exact hK
 have fin:lrI a (c.l.drop k)=a→ap 0 fZ lriV lriJ lriMu nN ⟨x,n,cs,a,i,k⟩ (.exit 2) [some (.lst x n cs),some (.int .i64 a),some (.int .i64 i),some (.int .i64 k)] []:=fun h=>by
  refine⟨[.lst x n cs,.int .i64 a,.int .i64 i,.int .i64 k],[],fun K hK=>?_,au _ rfl _ rfl _⟩;have hK:=out K hK;rw[h]at hK;exact hK k
 have d1:decide ((0:Int)≤(i:Int))=true:=decide_eq_true (by omega);have d2:decide ((i:Int)<(n:Int))=true:=decide_eq_true (by omega);have l2:(i*6+2).blt cs.length=true:=Nat.ble_eq_true_of_le (by omega);simp only[d1,d2,Int.toNat_natCast,l2,hn,bM,nOfV,cP,Bool.and_self,cond_true];rw[hnm]at p1;cases hk:c.l.drop k with
 |nil=>
  have hi:=bH hk p1;rw[decide_eq_false (show ¬((k:Int)<(c.l.length:Int)) by omega),cond_false];exact fin (by rw[hk];rfl)
 |cons s t=>
  obtain⟨e1,e2,e3⟩:=aY hk;obtain⟨e4,e5⟩:=dM hk;rw[decide_eq_true (show((k:Int)<(c.l.length:Int)) by omega),cond_true];refine af (fun h=>?_) (fun h=>?_)
  ·have h:=of_decide_eq_true h;have q2:decide ((0:Int)≤(k:Int))=true:=decide_eq_true (by omega);simp only[q2,e4,e5,ao,am,cond_true,Bool.and_true,show i64.wrap ((k:Int)+1)=((k+1:Nat):Int) by rw[IntWalk.i64_in _ ⟨by omega,by omega⟩];omega];have q3:i64.wrap (i64.wrap ((a:Int)+5)+if(s.length:Int)<6000 then(s.length:Int)else 6000)=((a+5+min 6000 s.length:Nat):Int):=by
    rw[IntWalk.i64_in ((a:Int)+5) ⟨by omega,by omega⟩];split
    ·rw[IntWalk.i64_in _ ⟨by omega,by omega⟩];omega
    ·rw[IntWalk.i64_in _ ⟨by omega,by omega⟩];omega
   rw[q3];refine⟨⟨x,n,cs,a+5+min 6000 s.length,i,k+1⟩,?_,au _ rfl _ rfl _,by simp only[lriMu];rw[hnm];omega,fun K hK=>?_⟩
   ·unfold fZ;simp only[Bool.and_eq_true];exact⟨hx1,Nat.ble_eq_true_of_le p0,Nat.ble_eq_true_of_le (show k+1≤(iM cs i).length by rw[hnm];omega),Nat.ble_eq_true_of_le (show a+5+min 6000 s.length≤20000 by omega)⟩
   ·have hK:=out K hK;show j4 x n cs i (lrI (a+5+min 6000 s.length) ((iM cs i).drop (k+1))) K;rw[hnm,e2];rw[hk,lrI,if_pos (by omega)]at hK;exact hK
  ·have h:=of_decide_eq_false h;exact fin (by rw[hk,lrI,if_neg (by omega)])
noncomputable def mq:Nat→Trans→Trans:=aJ 7462 (bu 0 (szOf Tryd.prog 23) [0,3,4,5] lriDec fZ lriV lriJ nN) (ac 9)
theorem lkLRI_ok:cC Tryd.prog none 0 mq (2*58) (bL Tryd.prog 23 58):=by
 unfold mq;refine bo _ _ (aL 9 _ _) fun c' hc f st Q h=>?_;rw[show aZ 7462 (2*58) (bL Tryd.prog 23 58)=[bL Tryd.prog 23 7462] by kernel_rfl]at hc;rw[List.mem_singleton.1 hc];exact aP (P:=Tryd.prog) (T:=LR0) (k:=0) (lim:=9) (n:=10) (g:=23) (p0:=7462) (lk:=ac 9) av LR0_ok (aL 9 _ _) lriMu lri_roundOk h
noncomputable def zQ_1(cs:List V)(i:Int):=(↑(am (cs.getD (i.toNat*6+0) (V.bool false))).length:Int)
noncomputable def zQ_2(cs:List V)(i:Int):=(↑(am (cs.getD (i.toNat*6+1) (V.bool false))).length:Int)
theorem lro_round(x:Value)(n:Nat)(cs:List V)(a i:Int)(R:Exit→List (Option V)→St→Prop):ak Tryd.prog LR0 9 10 mq 23 58 [0,3,4] [.lst x n cs,.int .i64 a,.int .i64 i] [] R=
 (
 bif decide (i<(↑n:Int))then bif decide (a<6000)then bif decide (0≤i)&&decide (i<(↑n:Int))then bif (i.toNat*6+0).blt cs.length then bif
 ao (cs.getD (i.toNat*6+0) (.bool false))then bif decide (0≤i)&&decide (i<(↑n:Int))then bif (i.toNat*6+1).blt cs.length then bif ao
 (cs.getD (i.toNat*6+1) (.bool false))then Fits 0 [.lst x n cs,.int i64 (↑(i64.wrap (i64.wrap (i64.wrap (a+100)+if
 (zQ_1 cs i)<6000 then(zQ_1 cs i)else 6000)+if(zQ_2 cs i)<6000 then(zQ_2 cs i)else 6000)).toNat:Int),.int i64 (↑i.toNat:Int),.int
 i64 0] [] [some (.lst x n cs),some (.int i64 (i64.wrap (i64.wrap (i64.wrap (a+100)+if(zQ_1 cs i)<6000 then
 (zQ_1 cs i)else 6000)+if(zQ_2 cs i)<6000 then(zQ_2 cs i)else 6000))),some (.int i64 i),some (.int i64 0)] []∧bif fZ
 {x:=x,n:=n,cs:=cs,a:=(i64.wrap (i64.wrap (i64.wrap (a+100)+if(zQ_1 cs i)<6000 then(zQ_1 cs i)else 6000)+if(zQ_2 cs i)<6000 then(zQ_2 cs i)else 6000)).toNat,i:=i.toNat,k:=0}
 then ∀(j:Nat),R .normal [some (.lst x n cs),some (.int i64 (↑(lriS (i64.wrap (i64.wrap (i64.wrap (a+100)+if(zQ_1
 cs i)<6000 then(zQ_1 cs i)else 6000)+if(zQ_2 cs i)<6000 then(zQ_2 cs i)else 6000)).toNat cs i.toNat 0):Int)),some (.int i64
 (i64.wrap ((↑i.toNat:Int)+1)))] []else False else False else False else False else False else False else False else R (.exit 0) [some (.lst x n
 cs),some (.int i64 a),some (.int i64 i)] []else R (.exit 0) [some (.lst x n cs),some (.int i64 a),some (.int i64
 i)] []):=by kernel_rfl
structure LRO where
 x:Value
 n:Nat
 cs:List V
 a:Nat
 i:Nat
def lroV(q:LRO):List V:=[.lst q.x q.n q.cs,.int .i64 q.a,.int .i64 q.i]
def lroJ(_:LRO):St:=[]
def fY(q:LRO):Bool:=okR q.n q.cs&&(Nat.ble q.i q.n&&Nat.ble q.a 20000)
def lroMu(q:LRO):Nat:=q.n-q.i
def lroDec:List (Option V)→St→Option LRO
 |[some (.lst x n cs),some (.int .i64 a),some (.int .i64 0)],_=>some ⟨x,n,cs,a.toNat,0⟩
 |_,_=>none
def nL(x:Value)(n:Nat)(cs:List V)(a:Nat)(K:Exit→List V→St→Prop):Prop:=∀j:Nat,K (.exit 0) [.lst x n cs,.int .i64 a,.int .i64 j] []
def lroS(a:Nat)(cs:List V)(i:Nat):Nat:=lrN a ((crD [] cs).drop i)
def nM:Asks LRO:=fun q K=>nL q.x q.n q.cs (lroS q.a q.cs q.i) K
theorem lro_roundOk(q:LRO)(hx:fY q=true):ak Tryd.prog LR0 9 10 mq 23 58 [0,3,4] (lroV q) (lroJ q) (ap 0 fY lroV lroJ lroMu nM q):=by
 obtain⟨x,n,cs,a,i⟩:=q;unfold fY at hx;simp only[Bool.and_eq_true]at hx;have hx1:okR n cs=true:=hx.1;have p1:i≤n:=Nat.le_of_ble_eq_true hx.2.1;have p9:a≤20000:=Nat.le_of_ble_eq_true hx.2.2;obtain⟨p2,p3,p4,p5⟩:=dc hx1;show ak Tryd.prog LR0 9 10 mq 23 58 [0,3,4] [.lst x n cs,.int .i64 a,.int .i64 i] [] _;rw[lro_round];unfold zQ_2 zQ_1;have out:∀K,nM ⟨x,n,cs,a,i⟩ K→nL x n cs (lrN a ((crD [] cs).drop i)) K:=fun K hK=>hK;have fin:lrN a ((crD [] cs).drop i)=a→ap 0 fY lroV lroJ lroMu nM ⟨x,n,cs,a,i⟩ (.exit 0) [some (.lst x n cs),some (.int .i64 a),some (.int .i64 i)] []:=fun h=>by
  refine⟨[.lst x n cs,.int .i64 a,.int .i64 i],[],fun K hK=>?_,au _ rfl _ rfl _⟩;have hK:=out K hK;rw[h]at hK;exact hK i
 cases hd:(crD [] cs).drop i with
 |nil=>
  have hi:=bH hd (by omega);rw[decide_eq_false (show ¬((i:Int)<(n:Int)) by omega),cond_false];exact fin (by rw[hd];rfl)
 |cons c r=>
  obtain⟨e1,e2,e3⟩:=aY hd;have C:=fL p2 hd;have hnm:=nmsAt_of hd;have d1:decide ((0:Int)≤(i:Int))=true:=decide_eq_true (by omega);have d2:decide ((i:Int)<(n:Int))=true:=decide_eq_true (by omega);have l0:(i*6+0).blt cs.length=true:=Nat.ble_eq_true_of_le (by omega);have l1:(i*6+1).blt cs.length=true:=Nat.ble_eq_true_of_le (by omega);rw[d2,cond_true];refine af (fun h=>?_) (fun h=>?_)
  ·have h:=of_decide_eq_true h;simp only[d1,Int.toNat_natCast,l0,l1,C.k,C.g,ao,am,Bool.and_self,cond_true,show i64.wrap ((i:Int)+1)=((i+1:Nat):Int) by rw[IntWalk.i64_in _ ⟨by omega,by omega⟩];omega];have q3:i64.wrap (i64.wrap (i64.wrap ((a:Int)+100)+if(c.k.length:Int)<6000 then(c.k.length:Int)else 6000)+if(c.g.length:Int)<6000 then(c.g.length:Int)else 6000)=((a+100+min 6000 c.k.length+min 6000 c.g.length:Nat):Int):=by
    have m6:∀t:Nat,(if(t:Int)<6000 then(t:Int)else 6000)=((min 6000 t:Nat):Int):=fun t=>by split<;>omega
    rw[m6,m6,IntWalk.i64_in ((a:Int)+100) ⟨by omega,by omega⟩,IntWalk.i64_in ((a:Int)+100+((min 6000 c.k.length:Nat):Int)) ⟨by omega,by omega⟩,IntWalk.i64_in _ ⟨by omega,by omega⟩];omega
   rw[q3,Int.toNat_natCast];have q4:a+100+min 6000 c.k.length+min 6000 c.g.length≤20000:=by omega
   refine⟨au _ rfl _ rfl _,aa ?_ (fun j=>?_)⟩
   ·unfold fZ;simp only[Bool.and_eq_true];exact⟨hx1,Nat.ble_eq_true_of_le (show i+1≤n by omega),Nat.ble_eq_true_of_le (Nat.zero_le _),Nat.ble_eq_true_of_le q4⟩
   ·have hS:lriS (a+100+min 6000 c.k.length+min 6000 c.g.length) cs i 0=lrI (a+100+min 6000 c.k.length+min 6000 c.g.length) c.l:=by unfold lriS;rw[hnm];rfl
    rw[hS];refine⟨⟨x,n,cs,lrI (a+100+min 6000 c.k.length+min 6000 c.g.length) c.l,i+1⟩,?_,au _ rfl _ rfl _,by simp only[lroMu];omega,fun K hK=>?_⟩
    ·unfold fY;simp only[Bool.and_eq_true];exact⟨hx1,Nat.ble_eq_true_of_le (show i+1≤n by omega),Nat.ble_eq_true_of_le (lrI_le _ _ q4)⟩
    ·have hK:=out K hK;show nL x n cs (lrN _ ((crD [] cs).drop (i+1))) K;rw[e2];rw[hd,lrN,if_pos (by omega)]at hK;exact hK
  ·have h:=of_decide_eq_false h;exact fin (by rw[hd,lrN,if_neg (by omega)])
noncomputable def lkLRO:Nat→Trans→Trans:=aJ 58 (bu 0 (szOf Tryd.prog 23) [0,3,4] lroDec fY lroV lroJ nM) (ac 9)
theorem lkLRO_ok:aF Tryd.prog 0 lkLRO 23:=by
 unfold lkLRO;exact bk (aM 9 0 23) (by kernel_rfl) fun f st Q h=>aP (P:=Tryd.prog) (T:=LR0) (k:=0) (lim:=9) (n:=10) (g:=23) (p0:=58) (lk:=mq) av LR0_ok lkLRI_ok lroMu lro_roundOk h
noncomputable def LR1:Tab:=⟨noT,noL,cp (aK 9) 23 0 lkLRO⟩
theorem LR1_ok:TabOk3 Tryd.prog LR1:=⟨aB,aC,bf (al 9) lkLRO_ok⟩
theorem lr_tree(x:Value)(n:Nat)(cs:List V)(R:V→Prop):runW Tryd.prog LR1 9 10 23 [.lst x n cs] R=
  (
 Fits 0 [.lst x n cs,.int i64 0,.int i64 0] [] [some (.lst x n cs),some (.int i64 0),some (.int i64 0)] []∧bif fY {x:=x,n:=n,cs:=cs,a:=0,i:=0}
 then ∀(j:Nat),R (.bool (decide ((↑(lroS 0 cs 0):Int)≥6000)))else False):=by kernel_rfl
def jd(l:List CR):Bool:=decide ((lrN 0 l:Int)≥6000)
theorem lr_sat(x:Value)(n:Nat)(cs:List V)(h:okR n cs=true):FnSat Tryd.prog 23 [.lst x n cs] [] (Is (.bool (jd (crD [] cs)),[])):=by
 refine ay (lim:=9) (n:=10) av LR1_ok rfl rfl ?_;rw[lr_tree];refine⟨au _ rfl _ rfl _,aa ?_ (fun j=>rfl)⟩;unfold fY;show(okR n cs&&(Nat.ble 0 n&&Nat.ble 0 20000))=true;rw[h];rfl
def lrOK(p:V)(st:St):Bool:=match dC st p with
 |some (b,l)=>b&&Nat.ble l.length 9223372036854775807
 |none=>false
def lrB(p:V)(st:St):Bool:=match dC st p with
 |some (_,l)=>jd l
 |none=>false
def lrGV(OK LB:V→St→Bool):List V→St→Option (List (Bool×(V×St)))
 |[p],st=>some [(OK p st,(.bool (LB p st),st))]
 |_,_=>none
theorem lrG_ok(args:List V)(s:St)(l:List (Bool×(V×St)))(o:V×St)(h:lrGV lrOK lrB args s=some l)(ho:aI l=some o):FnSat Tryd.prog 23 args s (Is o):=by
 unfold lrGV at h;split at h
 ·rename_i p;cases h;obtain⟨hb,rfl⟩:=aT ho;unfold lrOK at hb;split at hb
  ·rename_i b ls hv;rw[Bool.and_eq_true]at hb;obtain⟨rfl,h1⟩:=hb;have hL:lrB p s=jd ls:=by unfold lrB;rw[hv]
   rw[hL];refine cG rfl fun B W0 w m rargs hr ha=>?_;obtain⟨a,r,q1,q2,rfl⟩:=ah ha;obtain⟨L,e1,e2,e3⟩:=fM hr hv q1;have q3:=aV (Ψ:=Frz.of w) (m':=[]) _ _ rfl q2;have hl:L.length≤9223372036854775807:=by rw[←List.length_map (f:=(·.c)),e1];exact Nat.le_of_ble_eq_true h1
   have:=@lr_sat (Frz.of w) a L.length (crs L) (i9 hl e3);rw[di,e1]at this;exact⟨[lstR a L],@aw _ (Frz.of w) [] _ _ _ _ e2 q3,this⟩
  ·cases hb
 ·cases h
theorem nO:∀(l:List (List UInt8)) (n:Nat),n≤lrI n l
 |[],n=>Nat.le_refl _
 |s::r,n=>by
  unfold lrI;split
  ·have:=nO r (n+5+min 6000 s.length);omega
  ·exact Nat.le_refl _
theorem lrI_all:∀(l:List (List UInt8)) (n:Nat),lrI n l<6000→∀s∈l,s.length<6000
 |[],n,_,s,hs=>by cases hs
 |a::r,n,h,s,hs=>by
  unfold lrI at h;split at h
  ·have h1:=nO r (n+5+min 6000 a.length);rcases List.mem_cons.1 hs with rfl|hs
   ·omega
   ·exact lrI_all r _ h s hs
  ·omega
theorem lrN_ge:∀(l:List CR) (n:Nat),n≤lrN n l
 |[],n=>Nat.le_refl _
 |c::r,n=>by
  unfold lrN;split
  ·have:=lrN_ge r (lrI (n+100+min 6000 c.k.length+min 6000 c.g.length) c.l);have:=nO c.l (n+100+min 6000 c.k.length+min 6000 c.g.length);omega
  ·exact Nat.le_refl _
theorem lrN_all:∀(l:List CR) (n:Nat),lrN n l<6000→∀c∈l,c.l.all aO=true
 |[],n,_,c,hc=>by cases hc
 |a::r,n,h,c,hc=>by
  unfold lrN at h;split at h
  ·have h1:=lrN_ge r (lrI (n+100+min 6000 a.k.length+min 6000 a.g.length) a.l);rcases List.mem_cons.1 hc with rfl|hc
   ·rw[List.all_eq_true];intro s hs;have:=lrI_all c.l (n+100+min 6000 c.k.length+min 6000 c.g.length) (by omega) s hs;exact decide_eq_true (by omega)
   ·exact lrN_all r _ h c hc
  ·omega
theorem large_names{l:List CR}(h:jd l=false):∀c∈l,c.l.all aO=true:=by
 unfold jd at h;have h:=of_decide_eq_false h;exact lrN_all l 0 (by omega)
noncomputable def SO0:Tab:=⟨noT,noL,aK 9⟩
theorem SO0_ok:TabOk3 Tryd.prog SO0:=⟨aB,aC,al 9⟩
theorem so1_round(x:Value)(n:Nat)(cs:List V)(y:Value)(m:Nat)(ds:List V)(i:Int)(R:Exit→List (Option V)→St→Prop):ak Tryd.prog SO0 9 10 (ac 9) 35 58 [0,1,4,5] [.lst x n cs,.lst y m ds,.bool false,.int .i64 i] [] R=
  (
 bif decide (i<(↑n:Int))then bif decide (0≤i)&&decide (i<(↑n:Int))then bif (i.toNat*1).blt cs.length then bif ao (cs.getD (i.toNat*1) (.bool false))
 then bif decide (0≤i)&&decide (i<(↑m:Int))then bif (i.toNat*1).blt ds.length then bif ao (ds.getD (i.toNat*1) (.bool false))then bif !am (cs.getD
 (i.toNat*1) (.bool false))==am (ds.getD (i.toNat*1) (.bool false))then R .ret [some (.lst x n cs),some (.lst y m ds),some (.bool false),some (.int
 i64 i)] []else R .normal [some (.lst x n cs),some (.lst y m ds),some (.bool false),some (.int i64 (i64.wrap (i+1)))] []else False
 else False else False else False else False else False else R (.exit 0) [some (.lst x n cs),some (.lst y m ds),some (.bool false),some (.int i64 i)] []):=by kernel_rfl
structure SO1 where
 x:Value
 n:Nat
 cs:List V
 y:Value
 ds:List V
 i:Nat
def so1V(q:SO1):List V:=[.lst q.x q.n q.cs,.lst q.y q.n q.ds,.bool false,.int .i64 q.i]
def so1J(_:SO1):St:=[]
def gX(q:SO1):Bool:=okS q.n q.cs&&(okS q.n q.ds&&Nat.ble q.i q.n)
def so1Mu(q:SO1):Nat:=q.n-q.i
def so1Dec:List (Option V)→St→Option SO1
 |[some (.lst x n cs),some (.lst y _ ds),some (.bool false),some (.int .i64 0)],_=>some ⟨x,n,cs,y,ds,0⟩
 |_,_=>none
def so1B(cs ds:List V):Bool:=cs.map am==ds.map am
def jU(x:Value)(n:Nat)(cs:List V)(y:Value)(ds:List V)(b:Bool)(K:Exit→List V→St→Prop):Prop:=
 bif b then ∀j:Int,K (.exit 0) [.lst x n cs,.lst y n ds,.bool false,.int .i64 j] []else ∀j:Int,K .ret [.lst x n cs,.lst y n ds,.bool false,.int .i64 j] []
def so1Out:Asks SO1:=fun q K=>jU q.x q.n q.cs q.y q.ds (so1B (q.cs.drop q.i) (q.ds.drop q.i)) K
theorem so1_roundOk(q:SO1)(hx:gX q=true):ak Tryd.prog SO0 9 10 (ac 9) 35 58 [0,1,4,5] (so1V q) (so1J q) (ap 0 gX so1V so1J so1Mu so1Out q):=by
 obtain⟨x,n,cs,y,ds,i⟩:=q;unfold gX at hx;simp only[Bool.and_eq_true]at hx;have hx1:okS n cs=true:=hx.1;have hx2:okS n ds=true:=hx.2.1;have p1:i≤n:=Nat.le_of_ble_eq_true hx.2.2;obtain⟨l,rfl,hn,p2,p3⟩:=cL hx1;obtain⟨r,rfl,hm,p4,p5⟩:=cL hx2;show ak Tryd.prog SO0 9 10 (ac 9) 35 58 [0,1,4,5] [.lst x n (strs l),.lst y n (strs r),.bool false,.int .i64 i] [] _;rw[so1_round];have ha:∀j,so1B ((strs l).drop j) ((strs r).drop j)=(l.drop j==r.drop j):=fun j=>by
  unfold so1B;rw[List.map_drop,List.map_drop,aA,aA]
 have out:∀K,so1Out ⟨x,n,strs l,y,strs r,i⟩ K→jU x n (strs l) y (strs r) (l.drop i==r.drop i) K:=fun K hK=>by
  have hK:jU x n (strs l) y (strs r) (so1B ((strs l).drop i) ((strs r).drop i)) K:=hK;rw[ha]at hK;exact hK
 cases hd:l.drop i with
 |nil=>
  have hi:=bH hd (by omega);have hr:r.drop i=[]:=List.drop_eq_nil_of_le (by omega);rw[decide_eq_false (show ¬((i:Int)<(n:Int)) by omega),cond_false];refine⟨_,[],fun K hK=>?_,au [.lst x n (strs l),.lst y n (strs r),.bool false,.int .i64 i] rfl _ rfl _⟩;have hK:=out K hK;rw[hd,hr]at hK;exact hK i
 |cons c t=>
  obtain⟨e1,e2,e3⟩:=aY hd;obtain⟨e4,e5⟩:=dM hd;obtain⟨c',t',hd'⟩:∃c' t',r.drop i=c'::t':=by
   cases hh:r.drop i with
   |nil=>have:=congrArg List.length hh;simp at this;omega
   |cons a b=>exact⟨a,b,rfl⟩
  obtain⟨f1,f2,f3⟩:=aY hd';obtain⟨f4,f5⟩:=dM hd';have q1:decide ((i:Int)<(n:Int))=true:=decide_eq_true (by omega);have q2:decide ((0:Int)≤(i:Int))=true:=decide_eq_true (by omega);simp only[q1,q2,Int.toNat_natCast,e4,e5,f4,f5,ao,am,cond_true,Bool.and_true,show i64.wrap ((i:Int)+1)=((i+1:Nat):Int) by rw[IntWalk.i64_in _ ⟨by omega,by omega⟩];omega];have next:(l.drop i==r.drop i)=(c==c'&&l.drop (i+1)==r.drop (i+1)):=by rw[hd,hd',e2,f2];rfl
  cases hc:(c==c')with
  |false=>
   refine⟨_,[],fun K hK=>?_,au [.lst x n (strs l),.lst y n (strs r),.bool false,.int .i64 i] rfl _ rfl _⟩;have hK:=out K hK;rw[next,hc]at hK;exact hK i
  |true=>
   refine⟨⟨x,n,strs l,y,strs r,i+1⟩,?_,au _ rfl _ rfl _,by simp only[so1Mu];omega,fun K hK=>?_⟩
   ·unfold gX;simp only[Bool.and_eq_true];exact⟨hx1,hx2,Nat.ble_eq_true_of_le (show i+1≤n by omega)⟩
   ·have hK:=out K hK;show jU x n (strs l) y (strs r) (so1B ((strs l).drop (i+1)) ((strs r).drop (i+1))) K;rw[ha];rw[next,hc,Bool.true_and]at hK;exact hK
noncomputable def lkSO1:Nat→Trans→Trans:=aJ 58 (bu 0 (szOf Tryd.prog 35) [0,1,4,5] so1Dec gX so1V so1J so1Out) (ac 9)
theorem lkSO1_ok:aF Tryd.prog 0 lkSO1 35:=by
 unfold lkSO1;exact bk (aM 9 0 35) (by kernel_rfl) fun f st Q h=>aP (P:=Tryd.prog) (T:=SO0) (k:=0) (lim:=9) (n:=10) (g:=35) (p0:=58) (lk:=ac 9) av SO0_ok (aL 9 _ _) so1Mu so1_roundOk h
noncomputable def SO1T:Tab:=⟨noT,noL,cp (aK 9) 35 0 lkSO1⟩
theorem SO1T_ok:TabOk3 Tryd.prog SO1T:=⟨aB,aC,bf (al 9) lkSO1_ok⟩
theorem so1_tree(x:Value)(n:Nat)(cs:List V)(y:Value)(m:Nat)(ds:List V)(R:V→Prop):runW Tryd.prog SO1T 9 10 35 [.lst x n cs,.lst y m ds] R=
  (
 bif (↑n:Int)!=(↑m:Int)then R (.bool false)else Fits 0 [.lst x n cs,.lst y n ds,.bool false,.int i64 0] [] [some (.lst x n cs),some (.lst y m
 ds),some (.bool false),some (.int i64 0)] []∧bif gX {x:=x,n:=n,cs:=cs,y:=y,ds:=ds,i:=0}then bif so1B cs ds then ∀(j:Int),R
 (.bool true)else ∀(j:Int),R (.bool false)else False):=by kernel_rfl
theorem same01_sat(x:Value)(l:List (List UInt8))(y:Value)(r:List (List UInt8))(h1:l.length≤9223372036854775807)(h2:r.length≤9223372036854775807):FnSat Tryd.prog 35 [lstS x l,lstS y r] [] (Is (.bool (l==r),[])):=by
 refine ay (lim:=9) (n:=10) av SO1T_ok rfl rfl ?_;unfold lstS;rw[so1_tree];by_cases hl:l.length=r.length
 ·have hb:so1B (strs l) (strs r)=(l==r):=by unfold so1B;rw[aA,aA]
  rw[hl,hb];refine af (fun h=>by simp at h) (fun _=>⟨au _ rfl _ rfl _,aa (by unfold gX;rw[←hl,ey h1,hl,ey h2];exact Nat.ble_eq_true_of_le (Nat.zero_le _)) ?_⟩);cases l==r with
  |false=>intro _;rfl
  |true=>intro _;rfl
 ·have hb:(l==r)=false:=by
   cases h:l==r with
   |false=>rfl
   |true=>exact absurd (congrArg List.length (beq_iff_eq.1 h)) hl
  rw[hb];refine af (fun _=>rfl) (fun h=>absurd ?_ hl);have h:(l.length:Int)=(r.length:Int):=by simpa[bne]using h
  omega
def kz(p q:V)(st:St):Bool:=match bw st p,bw st q with
 |some (b,l),some (c,r)=>b&&(c&&(Nat.ble l.length 9223372036854775807&&Nat.ble r.length 9223372036854775807))
 |_,_=>false
def s01B(p q:V)(st:St):Bool:=match bw st p,bw st q with
 |some (_,l),some (_,r)=>l==r
 |_,_=>false
def s01GV(OK BV:V→V→St→Bool):List V→St→Option (List (Bool×(V×St)))
 |[p,q],st=>some [(OK p q st,(.bool (BV p q st),st))]
 |_,_=>none
theorem s01G_ok(args:List V)(s:St)(l:List (Bool×(V×St)))(o:V×St)(h:s01GV kz s01B args s=some l)(ho:aI l=some o):FnSat Tryd.prog 35 args s (Is o):=by
 unfold s01GV at h;split at h
 ·rename_i p q;cases h;obtain⟨hb,rfl⟩:=aT ho;unfold kz at hb;split at hb
  ·rename_i b ls c rs hv hw;simp only[Bool.and_eq_true]at hb;obtain⟨rfl,rfl,h1,h2⟩:=hb;have hL:s01B p q s=(ls==rs):=by unfold s01B;rw[hv,hw]
   rw[hL];refine cG rfl fun B W0 w m rargs hr ha=>?_;obtain⟨a,r,q1,q2,rfl⟩:=ah ha;obtain⟨a2,r2,q3,q4,rfl⟩:=ah q2;have g1:=cZ hr hv q1;have g2:=cZ hr hw q3;have q5:=aV (Ψ:=Frz.of w) (m':=[]) _ _ rfl q4;exact⟨[lstS a ls,lstS a2 rs],@aw _ (Frz.of w) [] _ _ _ _ g1 (@aw _ (Frz.of w) [] _ _ _ _ g2 q5),@same01_sat (Frz.of w) a ls a2 rs (Nat.le_of_ble_eq_true h1) (Nat.le_of_ble_eq_true h2)⟩
  ·cases hb
 ·cases h
end Go.Proofs.YtnenadbbhdcaoaaDoor
namespace Go.Proofs.YtnenadbbhdcaoaaDoor
open Go Go.Vm Go.RowKit
set_option linter.unusedVariables false
set_option maxRecDepth 100000
set_option linter.unusedSectionVars false
variable [Φ:Frz]
section
variable {h:List UInt8} {now:Int} {an:List (List UInt8)} {c:CR} {r:List CR}
end
end Go.Proofs.YtnenadbbhdcaoaaDoor
namespace Go.Proofs.YtnenadbbhdcaoaaDoor
open Go.IntKind (u8 u16 u32 u64 i8 i16 i32 i64)
open Go Go.Vm Go.RowKit
set_option linter.unusedVariables false
set_option maxRecDepth 100000
set_option linter.unusedSectionVars false
variable [Φ:Frz]
theorem lo_round(x:Value)(n:Nat)(cs:List V)(a i:Int)(R:Exit→List (Option V)→St→Prop):ak Tryd.prog T3 9 10 (ac 9) 24 58 [0,3,4] [.lst x n cs,.int .i64 a,.int .i64 i] [] R=
  (
 bif decide (i<(↑n:Int))then bif decide (a<6000)then bif decide (0≤i)&&decide (i<(↑n:Int))then bif (i.toNat*1).blt cs.length then bif ao (cs.getD
 (i.toNat*1) (.bool false))then R .normal [some (.lst x n cs),some (.int i64 (i64.wrap (i64.wrap (a+5)+if(↑(am (cs.getD
 (i.toNat*1) (.bool false))).length:Int)<6000 then(↑(am (cs.getD (i.toNat*1) (.bool false))).length:Int)else 6000))),some (.int i64
 (i64.wrap (i+1)))] []else False else False else False else R (.exit 0) [some (.lst x n cs),some (.int i64 a),some (.int i64 i)] []
 else R (.exit 0) [some (.lst x n cs),some (.int i64 a),some (.int i64 i)] []):=by kernel_rfl
def loN:Nat→List (List UInt8)→Nat
 |n,[]=>n
 |n,s::r=>if n<6000 then loN (n+5+min 6000 s.length) r else n
structure LO where
 x:Value
 n:Nat
 cs:List V
 a:Nat
 i:Nat
def loV(q:LO):List V:=[.lst q.x q.n q.cs,.int .i64 q.a,.int .i64 q.i]
def loJ(_:LO):St:=[]
def jA(q:LO):Bool:=okS q.n q.cs&&(Nat.ble q.i q.n&&Nat.ble q.a 20000)
def loMu(q:LO):Nat:=q.n-q.i
def loDec:List (Option V)→St→Option LO
 |[some (.lst x n cs),some (.int .i64 a),some (.int .i64 0)],_=>some ⟨x,n,cs,a.toNat,0⟩
 |_,_=>none
def loS(a:Nat)(cs:List V):Nat:=loN a (cs.map am)
def nP(x:Value)(n:Nat)(cs:List V)(a:Nat)(K:Exit→List V→St→Prop):Prop:=∀j:Nat,K (.exit 0) [.lst x n cs,.int .i64 a,.int .i64 j] []
def loOut:Asks LO:=fun q K=>nP q.x q.n q.cs (loS q.a (q.cs.drop q.i)) K
theorem lo_roundOk(q:LO)(hx:jA q=true):ak Tryd.prog T3 9 10 (ac 9) 24 58 [0,3,4] (loV q) (loJ q) (ap 0 jA loV loJ loMu loOut q):=by
 obtain⟨x,n,cs,a,i⟩:=q;unfold jA at hx;simp only[Bool.and_eq_true]at hx;have hx1:okS n cs=true:=hx.1;have p1:i≤n:=Nat.le_of_ble_eq_true hx.2.1;have p0:a≤20000:=Nat.le_of_ble_eq_true hx.2.2;obtain⟨l,rfl,rfl,p2,p3⟩:=cL hx1;show ak Tryd.prog T3 9 10 (ac 9) 24 58 [0,3,4] [.lst x l.length (strs l),.int .i64 a,.int .i64 i] [] _;rw[lo_round];have ha:∀b j,loS b ((strs l).drop j)=loN b (l.drop j):=fun b j=>by
  unfold loS;rw[List.map_drop,aA]
 have out:∀K,loOut ⟨x,l.length,strs l,a,i⟩ K→nP x l.length (strs l) (loN a (l.drop i)) K:=fun K hK=>by
  have hK:nP x l.length (strs l) (loS a ((strs l).drop i)) K:=hK;rw[ha]at hK;exact hK
 have fin:loN a (l.drop i)=a→ap 0 jA loV loJ loMu loOut ⟨x,l.length,strs l,a,i⟩ (.exit 0) [some (.lst x l.length (strs l)),some (.int .i64 a),some (.int .i64 i)] []:=fun h=>by
  refine⟨[.lst x l.length (strs l),.int .i64 a,.int .i64 i],[],fun K hK=>?_,au _ rfl _ rfl _⟩;have hK:=out K hK;rw[h]at hK;exact hK i
 cases hd:l.drop i with
 |nil=>
  have hi:=bH hd p1;rw[decide_eq_false (show ¬((i:Int)<(l.length:Int)) by omega),cond_false];exact fin (by rw[hd];rfl)
 |cons c r=>
  obtain⟨e1,e2,e3⟩:=aY hd;obtain⟨e4,e5⟩:=dM hd;rw[decide_eq_true (show((i:Int)<(l.length:Int)) by omega),cond_true];refine af (fun h=>?_) (fun h=>?_)
  ·have h:=of_decide_eq_true h;have q2:decide ((0:Int)≤(i:Int))=true:=decide_eq_true (by omega);simp only[q2,Int.toNat_natCast,e4,e5,ao,am,cond_true,Bool.and_true,show i64.wrap ((i:Int)+1)=((i+1:Nat):Int) by rw[IntWalk.i64_in _ ⟨by omega,by omega⟩];omega];have q3:i64.wrap (i64.wrap ((a:Int)+5)+if(c.length:Int)<6000 then(c.length:Int)else 6000)=((a+5+min 6000 c.length:Nat):Int):=by
    rw[IntWalk.i64_in ((a:Int)+5) ⟨by omega,by omega⟩];split
    ·rw[IntWalk.i64_in _ ⟨by omega,by omega⟩];omega
    ·rw[IntWalk.i64_in _ ⟨by omega,by omega⟩];omega
   rw[q3];refine⟨⟨x,l.length,strs l,a+5+min 6000 c.length,i+1⟩,?_,au _ rfl _ rfl _,by simp only[loMu];omega,fun K hK=>?_⟩
   ·unfold jA;simp only[Bool.and_eq_true];exact⟨hx1,Nat.ble_eq_true_of_le (show i+1≤l.length by omega),Nat.ble_eq_true_of_le (show a+5+min 6000 c.length≤20000 by omega)⟩
   ·have hK:=out K hK;show nP x l.length (strs l) (loS (a+5+min 6000 c.length) ((strs l).drop (i+1))) K;rw[ha,e2];rw[hd,loN,if_pos (by omega)]at hK;exact hK
  ·have h:=of_decide_eq_false h;exact fin (by rw[hd,loN,if_neg (by omega)])
noncomputable def lkLO:Nat→Trans→Trans:=aJ 58 (bu 0 (szOf Tryd.prog 24) [0,3,4] loDec jA loV loJ loOut) (ac 9)
theorem lkLO_ok:aF Tryd.prog 0 lkLO 24:=by
 unfold lkLO;exact bk (aM 9 0 24) (by kernel_rfl) fun f st Q h=>aP (P:=Tryd.prog) (T:=T3) (k:=0) (lim:=9) (n:=10) (g:=24) (p0:=58) (lk:=ac 9) av T3_ok (aL 9 _ _) loMu lo_roundOk h
noncomputable def LO1:Tab:=⟨noT,noL,cp (aK 9) 24 0 lkLO⟩
theorem LO1_ok:TabOk3 Tryd.prog LO1:=⟨aB,aC,bf (al 9) lkLO_ok⟩
theorem lo_tree(x:Value)(n:Nat)(cs:List V)(R:V→Prop):runW Tryd.prog LO1 9 10 24 [.lst x n cs] R=
  (
 Fits 0 [.lst x n cs,.int i64 0,.int i64 0] [] [some (.lst x n cs),some (.int i64 0),some (.int i64 0)] []∧bif jA {x:=x,n:=n,cs:=cs,a:=0,i:=0}
 then ∀(j:Nat),R (.bool (decide ((↑(loS 0 cs):Int)≥6000)))else False):=by kernel_rfl
def longS(l:List (List UInt8)):Bool:=decide ((loN 0 l:Int)≥6000)
theorem lo_sat(x:Value)(l:List (List UInt8))(h1:l.length≤9223372036854775807):FnSat Tryd.prog 24 [lstS x l] [] (Is (.bool (longS l),[])):=by
 refine ay (lim:=9) (n:=10) av LO1_ok rfl rfl ?_;unfold lstS;rw[lo_tree];have hs:loS 0 (strs l)=loN 0 l:=by unfold loS;rw[aA]
 rw[hs];refine⟨au _ rfl _ rfl _,aa ?_ (fun j=>rfl)⟩;unfold jA;show(okS l.length (strs l)&&(Nat.ble 0 l.length&&Nat.ble 0 20000))=true;rw[ey h1];rfl
def loOK(p:V)(st:St):Bool:=match bw st p with
 |some (b,l)=>b&&Nat.ble l.length 9223372036854775807
 |none=>false
def loB(p:V)(st:St):Bool:=match bw st p with
 |some (_,l)=>longS l
 |none=>false
def loGV(OK LB:V→St→Bool):List V→St→Option (List (Bool×(V×St)))
 |[p],st=>some [(OK p st,(.bool (LB p st),st))]
 |_,_=>none
theorem loG_ok(args:List V)(s:St)(l:List (Bool×(V×St)))(o:V×St)(h:loGV loOK loB args s=some l)(ho:aI l=some o):FnSat Tryd.prog 24 args s (Is o):=by
 unfold loGV at h;split at h
 ·rename_i p;cases h;obtain⟨hb,rfl⟩:=aT ho;unfold loOK at hb;split at hb
  ·rename_i b ls hv;rw[Bool.and_eq_true]at hb;obtain⟨rfl,h1⟩:=hb;have hL:loB p s=longS ls:=by unfold loB;rw[hv]
   rw[hL];refine cG rfl fun B W0 w m rargs hr ha=>?_;obtain⟨x,r,q1,q2,rfl⟩:=ah ha;have g1:=cZ hr hv q1;have q3:=aV (Ψ:=Frz.of w) (m':=[]) _ _ rfl q2;exact⟨[lstS x ls],@aw _ (Frz.of w) [] _ _ _ _ g1 q3,@lo_sat (Frz.of w) x ls (Nat.le_of_ble_eq_true h1)⟩
  ·cases hb
 ·cases h
end Go.Proofs.YtnenadbbhdcaoaaDoor
