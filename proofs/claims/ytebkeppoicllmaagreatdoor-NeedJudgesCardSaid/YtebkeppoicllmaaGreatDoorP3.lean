/- Parts of this work: what the functions come to. -/
import Derived.Test.YtebkeppoicllmaaGreatDoorP2
import Derived.Test.YtebkeppoicllmaaGreatDoorP1
import Derived.Test.YtebkeppoicllmaaGreatDoorVmc
noncomputable section
set_option linter.unusedVariables false
set_option linter.unusedSectionVars false
set_option maxRecDepth 100000
namespace Go.Proofs.YtebkeppoicllmaaGreatDoor
open Go.IntKind (u8 u16 u32 u64 i8 i16 i32 i64)
open Go Go.Vm Go.RowKit
variable [Φ:Frz]
def RT0:Tab:=⟨addT noT 185 putF,noL,aT 9⟩
theorem RT0_ok:TabOk3 Qq RT0:=⟨aR aJ rput_ok,aK,au 9⟩
theorem rth_tree(t:Int)(s:List UInt8)(R:V→Prop):runW Qq RT0 9 10 143 [.int .u8 t,.str s] R=
  (
 bif fK t then R (.str (putB t s))else False):=by kernel_rfl
def rthT:List V→Option (Qx)
 |[.int .u8 t,.str s]=>some [(fK t,(.str (putB t s),[]))]
 |_=>none
theorem rth_ok(args:List V)(l:Qx)(o:V×St)(h:rthT args=some l)(ho:aL l=some o):FnSat Qq 143 args [] (Is o):=by
 unfold rthT at h;split at h
 ·rename_i t s;cases h;obtain⟨hk,rfl⟩:=aO ho;refine ax (lim:=9) (n:=10) aA RT0_ok rfl rfl ?_;rw[rth_tree];exact aa hk rfl
 ·cases h
def RT1:Tab:=⟨addT (addT noT 143 rthT) 184 rpatT,noL,aT 9⟩
theorem RT1_ok:TabOk3 Qq RT1:=⟨aR (aR aJ rth_ok) rpat_ok,aK,au 9⟩
theorem rspki_tree(k:List UInt8)(R:V→Prop):runW Qq RT1 9 10 144 [.str k] R=
  (
 bif decide ((↑k.length:Int)<1)then R (.str [])else bif decide ((↑k.length:Int)>64)then R (.str [])else R (.str (putB 48 (putB 4 k)))):=by kernel_rfl
theorem rmy_round(k g:List UInt8)(x:Value)(n:Nat)(cs:List V)(f u:Int)(ca:Bool)(i:Int)(R:Qz):al Qq RT1 9 10 (ah 9) 142 26 [1,2,3] [.ptr 0 0,.bool false,.int .i64 i] [.row [.str k,.str g,.lst x n cs,.int .i64 f,.int .i64 u,.bool ca] 31 6] R=
  (
 bif decide (i<(↑n:Int))then bif decide (0≤i)&&decide (i<(↑n:Int))then bif (i.toNat*1).blt cs.length then bif ar (cs.getD (i.toNat*1) (.bool false))
 then bif az (ab (cs.getD (i.toNat*1) (.bool false)))then bif !patN (ab (cs.getD (i.toNat*1) (.bool false)))then R .ret [some (.ptr 0 0),some
 (.bool false),some (.int i64 i)] [.row [.str k,.str g,.lst x n cs,.int i64 f,.int i64 u,.bool ca] 31 6]else R .normal [some
 (.ptr 0 0),some (.bool false),some (.int i64 (i64.wrap (i+1)))] [.row [.str k,.str g,.lst x n cs,.int i64 f,.int i64 u,
 .bool ca] 31 6]else False else False else False else False else R (.exit 0) [some (.ptr 0 0),some (.bool false),some (.int i64 i)] [.row [.str k,
 .str g,.lst x n cs,.int i64 f,.int i64 u,.bool ca] 31 6]):=by kernel_rfl
theorem ren_round(k g:List UInt8)(x:Value)(n:Nat)(cs:List V)(f u:Int)(ca:Bool)(o:List UInt8)(i:Int)(R:Qz):al Qq RT1 9 10 (ah 9) 85 122 [1,2,3,4,5] [.ptr 0 0,.str [],.int .i64 0,.str o,.int .i64 i] [.row [.str k,.str g,.lst x n cs,.int .i64 f,.int .i64 u,.bool ca] 31 6] R=
  (
 bif decide (i<(↑n:Int))then bif decide (0≤i)&&decide (i<(↑n:Int))then bif (i.toNat*1).blt cs.length then bif ar (cs.getD (i.toNat*1) (.bool false))
 then bif (o.length+(putB 130 (ab (cs.getD (i.toNat*1) (.bool false)))).length).ble 9223372036854775807 then R .normal [some (.ptr 0 0),some (.str []),
 some (.int i64 0),some (.str (o++putB 130 (ab (cs.getD (i.toNat*1) (.bool false))))),some (.int i64 (i64.wrap (i+1)))] [.row
 [.str k,.str g,.lst x n cs,.int i64 f,.int i64 u,.bool ca] 31 6]else False else False else False else False else R (.exit 0) [some (.ptr
 0 0),some (.str []),some (.int i64 0),some (.str o),some (.int i64 i)] [.row [.str k,.str g,.lst x n cs,.int i64 f,.int
 i64 u,.bool ca] 31 6]):=by kernel_rfl
theorem po(args:List V)(v:V)(h:mj args=some v):FnSat Qq 144 args [] (Is (v,[])):=by
 unfold mj at h;split at h
 ·rename_i k;cases h;refine ax (lim:=9) (n:=10) aA RT1_ok rfl rfl ?_;rw[rspki_tree];unfold cy;refine ac (fun h=>?_) (fun h=>ac (fun h1=>?_) (fun h1=>?_))
  ·have h:=aN h;have:k=[]:=List.length_eq_zero_iff.1 (by omega);rw[if_pos this]
  ·have h:=bk h;have h1:=aN h1;rw[if_neg (fun e=>by subst e;simp at h),if_pos (by omega)]
  ·have h:=bk h;have h1:=bk h1;rw[if_neg (fun e=>by subst e;simp at h),if_neg (by omega)]
 ·cases h
structure RMY where
 c:CT
 i:Nat
def rmyV(y:RMY):List V:=[.ptr 0 0,.bool false,.int .i64 y.i]
def rmyJ(y:RMY):St:=[.row y.c.cells 31 6]
def okLs2(cs:List V):Bool:=(cs.map ab).all az
def lv(y:RMY):Bool:=okS y.c.n y.c.cs&&(okLs2 y.c.cs&&Nat.ble y.i y.c.n)
def rmyMu(y:RMY):Nat:=y.c.n-y.i
def rmyDec:List (Option V)→St→Option RMY
 |[some (.ptr 0 0),some (.bool false),some (.int .i64 0)],(.row [.str k,.str g,.lst x n cs,.int .i64 f,.int .i64 u,.bool ca] _ _)::_=>some ⟨⟨k,g,x,n,cs,f,u,ca⟩,0⟩
 |_,_=>none
def tq(c:CT)(b:Bool)(K:Exit→List V→St→Prop):Prop:=
 bif b then ∀j:Int,K (.exit 0) [.ptr 0 0,.bool false,.int .i64 j] [.row c.cells 31 6]else ∀j:Int,K .ret [.ptr 0 0,.bool false,.int .i64 j] [.row c.cells 31 6]
def rmyOut:Asks RMY:=fun y K=>tq y.c (allP (y.c.cs.drop y.i)) K
theorem mv(c:CT)(j:Int):Fits 0 [.ptr 0 0,.bool false,.int .i64 j] [.row c.cells 31 6] [some (.ptr 0 0),some (.bool false),some (.int .i64 j)] [.row c.cells 31 6]:=
 ⟨[0],[.ptr 0 0,.bool false,.int .i64 j],rfl,rfl,FitsM.of ⟨.inr ⟨_,.inl rfl,rfl⟩,trivial⟩,by simp,fun i hi=>by omega⟩
theorem rmy_roundOk(y:RMY)(hx:lv y=true):al Qq RT1 9 10 (ah 9) 142 26 [1,2,3] (rmyV y) (rmyJ y) (aD 0 lv rmyV rmyJ rmyMu rmyOut y):=by
 obtain⟨⟨k,g,x,n,cs,f,u,ca⟩,i⟩:=y;unfold lv at hx;simp only[ad]at hx;have hx1:okS n cs=true:=hx.1;have hx2:okLs2 cs=true:=hx.2.1;have p1:i≤n:=aw hx.2.2;obtain⟨l,rfl,rfl,p2,p3⟩:=cn hx1;have hl:∀c∈l,az c=true:=by
  unfold okLs2 at hx2;rw[ai]at hx2;exact List.all_eq_true.1 hx2
 show al Qq RT1 9 10 (ah 9) 142 26 [1,2,3] [.ptr 0 0,.bool false,.int .i64 i] [.row [.str k,.str g,.lst x l.length (strs l),.int .i64 f,.int .i64 u,.bool ca] 31 6] _;rw[rmy_round];have hA:∀j,allP ((strs l).drop j)=(l.drop j).all patN:=fun j=>by
  have:(strs l).drop j=strs (l.drop j):=by unfold strs;rw[List.map_drop]
  unfold allP;rw[this,ai]
 have out:∀K,rmyOut ⟨⟨k,g,x,l.length,strs l,f,u,ca⟩,i⟩ K→tq ⟨k,g,x,l.length,strs l,f,u,ca⟩ ((l.drop i).all patN) K:=fun K hK=>by
  have hK:tq ⟨k,g,x,l.length,strs l,f,u,ca⟩ (allP ((strs l).drop i)) K:=hK;rw[hA]at hK;exact hK
 cases hd:l.drop i with
 |nil=>
  have hi:=bY hd p1;rw[bH (show ¬((i:Int)<(l.length:Int)) by omega),ak];refine⟨_,_,fun K hK=>?_,mv ⟨k,g,x,l.length,strs l,f,u,ca⟩ i⟩;have hK:=out K hK;rw[hd]at hK;exact hK i
 |cons c r=>
  obtain⟨e1,e2,e3⟩:=bn hd;obtain⟨e4,e5⟩:=fY hd;have w1:i64.wrap ((i:Int)+1)=((i+1:Nat):Int):=by rw[IntWalk.i64_in _ ⟨by omega,by omega⟩];omega
  have d0:decide ((i:Int)<(l.length:Int))=true:=am (by omega);have d1:decide ((0:Int)≤(i:Int))=true:=am (by omega);have d2:az c=true:=hl c (List.mem_of_getElem? e1);simp only[d0,d1,d2,w1,e4,e5,bp,ar,ab,ae,bv];refine ac (fun h=>?_) (fun h=>?_)
  ·have h:patN c=false:=by simpa using h
   refine⟨_,_,fun K hK=>?_,mv ⟨k,g,x,l.length,strs l,f,u,ca⟩ i⟩;have hK:=out K hK;rw[hd,List.all_cons,h,Bool.false_and]at hK;exact hK i
  ·have h:patN c=true:=by simpa using h
   refine⟨⟨⟨k,g,x,l.length,strs l,f,u,ca⟩,i+1⟩,?_,mv ⟨k,g,x,l.length,strs l,f,u,ca⟩ _,by simp only[rmyMu];omega,fun K hK=>?_⟩
   ·unfold lv;simp only[ad];exact⟨hx1,hx2,ag e3⟩
   ·have hK:=out K hK;rw[hd,List.all_cons,h,aH,←e2,←hA]at hK;exact hK
def lkRMY:Nat→Trans→Trans:=ba 26 (bK 0 (szOf Qq 142) [1,2,3] rmyDec lv rmyV rmyJ rmyOut) (ah 9)
theorem lkRMY_ok:aQ Qq 0 lkRMY 142:=by
 unfold lkRMY;exact bB (aY 9 0 142) (by kernel_rfl) fun f st Q h=>bc (P:=Qq) (T:=RT1) (k:=0) (lim:=9) (n:=10) (g:=142) (p0:=26) (lk:=ah 9) aA RT1_ok (bf 9 _ _) rmyMu rmy_roundOk h
def RT2:Tab:=⟨noT,noL,cI (aT 9) 142 0 lkRMY⟩
theorem RT2_ok:TabOk3 Qq RT2:=⟨aJ,aK,bq (au 9) lkRMY_ok⟩
theorem rcmay_tree(k g:List UInt8)(x:Value)(n:Nat)(cs:List V)(f u:Int)(ca:Bool)(R:V→Prop):runW Qq RT2 9 10 142 [.agg [.str k,.str g,.lst x n cs,.int .i64 f,.int .i64 u,.bool ca]] R=
  (
 Fits 0 [.ptr 0 0,.bool false,.int i64 0] [.row [.str k,.str g,.lst x n cs,.int i64 f,.int i64 u,.bool ca] 31 6] [some (.ptr 0
 0),some (.bool false),some (.int i64 0)] [.row [.str k,.str g,.lst x n cs,.int i64 f,.int i64 u,.bool ca] 31 6]∧bif lv {c:={k:=k,g:=g,x:=x,n:=n,cs:=cs,f:=f,u:=u,ca:=ca},i:=0}
 then bif allP cs then ∀(j:Int),bif decide ((↑k.length:Int)≥1)then bif decide ((↑k.length:Int)≤64)then bif (↑g.length:Int)==32 then bif decide (f≥0)
 then bif decide (f≤1099511627776)then bif decide (u≥0)then R (.bool (decide (u≤1099511627776)))else R (.bool false)else R (.bool false)else R (.bool false)
 else R (.bool false)else R (.bool false)else R (.bool false)else ∀(j:Int),R (.bool false)else False):=by kernel_rfl
theorem rcmay_sat(k g:List UInt8)(x:Value)(l:List (List UInt8))(f u:Int)(ca:Bool)(hl:l.length≤9223372036854775807)(ho:l.all az=true):FnSat Qq 142 [.agg [.str k,.str g,lstS x l,.int .i64 f,.int .i64 u,.bool ca]] [] (Is (.bool (mayC k g f u&&l.all patN),[])):=by
 refine ax (lim:=9) (n:=10) aA RT2_ok rfl rfl ?_;unfold lstS;rw[rcmay_tree];refine⟨mv ⟨k,g,x,l.length,strs l,f,u,ca⟩ 0,aa ?_ ?_⟩
 ·unfold lv okLs2;simp only[ad,ai];exact⟨dH hl,ho,ag (Nat.zero_le _)⟩
 have ha:allP (strs l)=l.all patN:=by unfold allP;rw[ai]
 rw[ha];cases l.all patN with
 |false=>exact fun _=>by rw[bL]
 |true=>
 intro _;rw[Bool.and_true];unfold mayC;have e:decide ((k.length:Int)>0)=decide ((k.length:Int)≥1):=by
  rw[Bool.eq_iff_iff,decide_eq_true_eq,decide_eq_true_eq];omega
 rw[e];refine ac (fun h=>?_) (fun h=>by rw[h];rfl);rw[h];refine ac (fun h=>?_) (fun h=>by rw[h];rfl);rw[h];refine ac (fun h=>?_) (fun h=>by rw[h];rfl);rw[h];refine ac (fun h=>?_) (fun h=>by rw[h];rfl);rw[h];refine ac (fun h=>?_) (fun h=>by rw[h];rfl);rw[h];refine ac (fun h=>?_) (fun h=>by rw[h];rfl);rw[h];simp only[aH]
def rcmayG:List V→St→Option (Qx)
 |[.agg [.str k,.str g,p,.int .i64 f,.int .i64 u,.bool _]],st=>match bC st p with
  |some (b,l)=>some [(b&&(Nat.ble l.length 9223372036854775807&&l.all az),(.bool (mayC k g f u&&l.all patN),st))]
  |none=>none
 |_,_=>none
theorem rcmayG_ok(args:List V)(s:St)(l:Qx)(o:V×St)(h:rcmayG args s=some l)(ho:aL l=some o):FnSat Qq 142 args s (Is o):=by
 unfold rcmayG at h;split at h
 ·rename_i k g p f u ca;split at h
  ·rename_i b ls hv;cases h;obtain⟨hb,rfl⟩:=aO ho;simp only[ad]at hb;obtain⟨rfl,h1,h2⟩:=hb;refine cx rfl fun B W0 w m rargs hr ha=>?_;obtain⟨a,r,q1,q2,rfl⟩:=aj ha;simp only[ap,af]at q2;subst q2;obtain⟨y,hy⟩:=qG hr hv q1;exact⟨[.agg [.str k,.str g,lstS y ls,.int .i64 f,.int .i64 u,.bool ca]],by simp only[ap,hy],@rcmay_sat (Frz.of w) k g y ls f u ca (aw h1) h2⟩
  ·cases h
 ·cases h
structure REN where
 c:CT
 o:List UInt8
 i:Nat
def renV'(y:REN):List V:=[.ptr 0 0,.str [],.int .i64 0,.str y.o,.int .i64 y.i]
def renJ(y:REN):St:=[.row y.c.cells 31 6]
def lw(y:REN):Bool:=okS y.c.n y.c.cs&&(allP y.c.cs&&(Nat.ble y.i y.c.n&&(Nat.ble y.c.n 64&&Nat.ble y.o.length (y.i*300))))
def renMu(y:REN):Nat:=y.c.n-y.i
def renDec:List (Option V)→St→Option REN
 |[some (.ptr 0 0),some (.str []),some (.int .i64 0),some (.str []),some (.int .i64 0)],(.row [.str k,.str g,.lst x n cs,.int .i64 f,.int .i64 u,.bool ca] _ _)::_=>some ⟨⟨k,g,x,n,cs,f,u,ca⟩,[],0⟩
 |_,_=>none
def nmsB(cs:List V):List UInt8:=((cs.map ab).map eg).flatten
def tA(c:CT)(o:List UInt8)(K:Exit→List V→St→Prop):Prop:=∀j:Int,K (.exit 0) [.ptr 0 0,.str [],.int .i64 0,.str o,.int .i64 j] [.row c.cells 31 6]
def renOut:Asks REN:=fun y K=>tA y.c (y.o++nmsB (y.c.cs.drop y.i)) K
theorem py(c:CT)(o:List UInt8)(j:Int):Fits 0 [.ptr 0 0,.str [],.int .i64 0,.str o,.int .i64 j] [.row c.cells 31 6] [some (.ptr 0 0),some (.str []),some (.int .i64 0),some (.str o),some (.int .i64 j)] [.row c.cells 31 6]:=
 ⟨[0],[.ptr 0 0,.str [],.int .i64 0,.str o,.int .i64 j],rfl,rfl,FitsM.of ⟨.inr ⟨_,.inl rfl,rfl⟩,trivial⟩,by simp,fun i hi=>by omega⟩
theorem ren_roundOk(y:REN)(hx:lw y=true):al Qq RT1 9 10 (ah 9) 85 122 [1,2,3,4,5] (renV' y) (renJ y) (aD 0 lw renV' renJ renMu renOut y):=by
 obtain⟨⟨k,g,x,n,cs,f,u,ca⟩,o,i⟩:=y;unfold lw at hx;simp only[ad]at hx;have hx1:okS n cs=true:=hx.1;have hx2:allP cs=true:=hx.2.1;have p1:i≤n:=aw hx.2.2.1;have p4:n≤64:=aw hx.2.2.2.1;have p5:o.length≤i*300:=aw hx.2.2.2.2;obtain⟨l,rfl,rfl,p2,p3⟩:=cn hx1;have hl:∀c∈l,patN c=true:=by
  unfold allP at hx2;rw[ai]at hx2;exact List.all_eq_true.1 hx2
 show al Qq RT1 9 10 (ah 9) 85 122 [1,2,3,4,5] [.ptr 0 0,.str [],.int .i64 0,.str o,.int .i64 i] [.row [.str k,.str g,.lst x l.length (strs l),.int .i64 f,.int .i64 u,.bool ca] 31 6] _;rw[ren_round];have hA:∀j,nmsB ((strs l).drop j)=((l.drop j).map eg).flatten:=fun j=>by
  have:(strs l).drop j=strs (l.drop j):=by unfold strs;rw[List.map_drop]
  unfold nmsB;rw[this,ai]
 have out:∀K,renOut ⟨⟨k,g,x,l.length,strs l,f,u,ca⟩,o,i⟩ K→tA ⟨k,g,x,l.length,strs l,f,u,ca⟩ (o++((l.drop i).map eg).flatten) K:=fun K hK=>by
  have hK:tA ⟨k,g,x,l.length,strs l,f,u,ca⟩ (o++nmsB ((strs l).drop i)) K:=hK;rw[hA]at hK;exact hK
 cases hd:l.drop i with
 |nil=>
  have hi:=bY hd p1;rw[bH (show ¬((i:Int)<(l.length:Int)) by omega),ak];refine⟨_,_,fun K hK=>?_,py ⟨k,g,x,l.length,strs l,f,u,ca⟩ o i⟩;have hK:=out K hK;rw[hd,List.map_nil,List.flatten_nil,List.append_nil]at hK;exact hK i
 |cons c r=>
  obtain⟨e1,e2,e3⟩:=bn hd;obtain⟨e4,e5⟩:=fY hd;have w1:i64.wrap ((i:Int)+1)=((i+1:Nat):Int):=by rw[IntWalk.i64_in _ ⟨by omega,by omega⟩];omega
  have d0:decide ((i:Int)<(l.length:Int))=true:=am (by omega);have d1:decide ((0:Int)≤(i:Int))=true:=am (by omega);have hc:=jh (hl c (List.mem_of_getElem? e1));have hp:=cj 130 c;have d2:(o.length+(putB 130 c).length).ble 9223372036854775807=true:=ag (by omega);simp only[d0,d1,d2,w1,e4,e5,bp,ar,ab,ae,bv];refine⟨⟨⟨k,g,x,l.length,strs l,f,u,ca⟩,o++putB 130 c,i+1⟩,?_,py ⟨k,g,x,l.length,strs l,f,u,ca⟩ _ _,by simp only[renMu];omega,fun K hK=>?_⟩
  ·unfold lw;simp only[ad];exact⟨hx1,hx2,ag e3,hx.2.2.2.1,ag (by simp only[bQ];omega)⟩
  ·have hK:=out K hK;rw[hd,List.map_cons,List.flatten_cons,←List.append_assoc,←e2,←hA]at hK;exact hK
def lkREN:Nat→Trans→Trans:=ba 122 (bK 0 (szOf Qq 85) [1,2,3,4,5] renDec lw renV' renJ renOut) (ah 9)
theorem lkREN_ok:aQ Qq 0 lkREN 85:=by
 unfold lkREN;exact bB (aY 9 0 85) (by kernel_rfl) fun f st Q h=>bc (P:=Qq) (T:=RT1) (k:=0) (lim:=9) (n:=10) (g:=85) (p0:=122) (lk:=ah 9) aA RT1_ok (bf 9 _ _) renMu ren_roundOk h
def RT3:Tab:=⟨addP (addT (addT (addP noT 144 mj) 143 rthT) 145 rintF) 146 boolF,addS noL 142 rcmayG,cI (aT 9) 85 0 lkREN⟩
theorem RT3_ok:TabOk3 Qq RT3:=⟨bg (aR (aR (bg aJ po) rth_ok) rint_ok) rbool_ok,bP aK rcmayG_ok,bq (au 9) lkREN_ok⟩
theorem renc_tree(k g:List UInt8)(x:Value)(n:Nat)(cs:List V)(f u:Int)(ca:Bool)(R:V→Prop):runW Qq RT3 9 10 85 [.agg [.str k,.str g,.lst x n cs,.int .i64 f,.int .i64 u,.bool ca]] R=
  (
 bif cs.length.beq (n*1)&&(cs.all ar&&cs.length.beq n)&&((List.map ab cs).length.ble 9223372036854775807&&(List.map ab cs).all az)then bif !(mayC
 (k) (g) f u&&(List.map ab cs).all patN)then R (.tuple [.str [],.int i64 4])else bif decide ((↑n:Int)>64)then R (.tuple [.str [],.int
 i64 4])else Fits 0 [.ptr 0 0,.str [],.int i64 0,.str [],.int i64 0] [.row [.str k,.str g,.lst x n cs,.int i64 f,.int
 i64 u,.bool ca] 31 6] [some (.ptr 0 0),some (.str []),some (.int i64 0),some (.str []),some (.int i64 0)] [.row [.str k,.str g,
 .lst x n cs,.int i64 f,.int i64 u,.bool ca] 31 6]∧bif lw {c:={k:=k,g:=g,x:=x,n:=n,cs:=cs,f:=f,u:=u,ca:=ca},o:=[],i:=0}
 then ∀(j:Int),bif ((cy (k)).length+(putB 4 (g)).length).ble 9223372036854775807 then bif ((cy (k)++putB 4 (g)).length+(putB 48 ([]++nmsB
 cs)).length).ble 9223372036854775807 then bif okI f then bif ((cy (k)++putB 4 (g)++putB 48 ([]++nmsB cs)).length+(putB 2 (intL f)).length).ble
 9223372036854775807 then bif okI u then bif ((cy (k)++putB 4 (g)++putB 48 ([]++nmsB cs)++putB 2 (intL f)).length+(putB 2 (intL u)).length).ble
 9223372036854775807 then bif ((cy (k)++putB 4 (g)++putB 48 ([]++nmsB cs)++putB 2 (intL f)++putB 2 (intL u)).length+(putB 1 (ip ca)).length).ble
 9223372036854775807 then bif decide ((↑(putB 48 (cy (k)++putB 4 (g)++putB 48 ([]++nmsB cs)++putB 2 (intL f)++putB 2 (intL u)++putB 1 (ip ca))).length:
 Int)>512)then R (.tuple [.str [],.int i64 40])else R (.tuple [.str (putB 48 (cy (k)++putB 4 (g)++putB 48 ([]++nmsB cs)++putB 2 (intL f)++
 putB 2 (intL u)++putB 1 (ip ca))),.int i64 0])else False else False else False else False else False else False else False else False else False):=by kernel_rfl
theorem renc_sat(k g:List UInt8)(x:Value)(l:List (List UInt8))(f u:Int)(ca:Bool)(hl:l.length≤9223372036854775807)(ho:l.all az=true):
  FnSat Qq 85 [.agg [.str k,.str g,lstS x l,.int .i64 f,.int .i64 u,.bool ca]] [] (Is (.tuple [.str (encB k g l f u ca),.int .i64 (encE k g l f u ca)],[])):=by
 refine ax (lim:=9) (n:=10) aA RT3_ok rfl rfl ?_;unfold lstS;rw[renc_tree];have e0:(strs l).length.beq (l.length*1)=true:=by rw[aE,Nat.mul_one];exact a9 _
 have e1:(strs l).length.beq l.length=true:=by rw[aE];exact a9 _
 have e2:l.length.ble 9223372036854775807=true:=ag hl;have e3:nmsB (strs l)=(l.map eg).flatten:=by unfold nmsB;rw[ai]
 simp only[e0,e1,e3,bD,ai,e2,ho,List.nil_append,bv,ae];refine ac (fun h=>?_) (fun h=>?_)
 ·have h:(mayC k g f u&&l.all patN)=false:=by rw[Bool.not_eq_true']at h;exact h
  have e:ig k g l f u=false:=by unfold ig;rw[h,Bool.false_and]
  unfold encB encE;rw[e];rfl
 have h:(mayC k g f u&&l.all patN)=true:=by rw[Bool.not_eq_false']at h;exact h
 have hm:=h;rw[ad]at hm;refine ac (fun h1=>?_) (fun h1=>?_)
 ·have h1:=aN h1;have e:ig k g l f u=false:=by unfold ig;rw[h,aH];exact bH (by omega)
  unfold encB encE;rw[e];rfl
 have h1:=bk h1;have e:ig k g l f u=true:=by unfold ig;rw[h,aH];exact am (by omega)
 have hmay:=hm.1;unfold mayC at hmay;simp only[ad,decide_eq_true_eq]at hmay;have hk:k.length≤64:=by omega
 have hg:g.length=32:=by have:=beq_iff_eq.1 hmay.2.2.1;omega
 have hsp:(cy k).length≤72:=by
  have a:=cj 4 k;have b:=cj 48 (putB 4 k);unfold cy;split
  ·simp
  ·split
   ·simp
   ·omega
 have hF:(l.map eg).flatten.length≤64*300:=by
  have:=mV (l.map eg) 300 (fun s hs=>by
   obtain⟨t,ht,rfl⟩:=List.mem_map.1 hs;have:=jh (List.all_eq_true.1 hm.2 t ht);have b:=cj 130 t;unfold eg;omega)
  rw[cg]at this;have h64:l.length≤64:=by omega
  exact Nat.le_trans this (Nat.mul_le_mul_right _ h64)
 have hf8:=kz f;have hu8:=kz u;have hca:(ip ca).length≤1:=by cases ca<;>exact Nat.le_refl _
 have b1:=cj 4 g;have b2:=cj 2 (intL f);have b3:=cj 2 (intL u);have b4:=cj 1 (ip ca);have b5:=cj 48 (l.map eg).flatten;have oi:∀z:Int,0≤z→z≤1099511627776→okI z=true:=fun z h1 h2=>by
  unfold okI;rw[am (by omega),am (by omega)];rfl
 have hin:(cy k++putB 4 g++putB 48 (l.map eg).flatten++putB 2 (intL f)++putB 2 (intL u)++putB 1 (ip ca))=fP k g l f u ca:=by
  unfold fP;simp only[List.flatten_cons,List.flatten_nil,List.append_assoc,List.append_nil]
 rw[hin];refine⟨py ⟨k,g,x,l.length,strs l,f,u,ca⟩ [] 0,aa ?_ (fun j=>?_)⟩
 ·unfold lw allP;simp only[ad,ai];exact⟨dH hl,hm.2,ag (Nat.zero_le _),ag (by omega),ag (Nat.zero_le _)⟩
 ·refine aa (ag (by omega)) (aa (ag (by simp only[bQ];omega)) (aa (oi f hmay.2.2.2.1 hmay.2.2.2.2.1) (aa (ag (by simp only[bQ];omega)) (aa (oi u hmay.2.2.2.2.2.1 hmay.2.2.2.2.2.2) (aa (ag (by simp only[bQ];omega)) (aa (ag (by simp only[bQ];omega)) ?_))))));unfold encB encE;rw[e];refine ac (fun h=>?_) (fun h=>?_)<;>(rw[h];rfl)
def rencG:List V→St→Option (Qx)
 |[.agg [.str k,.str g,p,.int .i64 f,.int .i64 u,.bool ca]],st=>match bC st p with
  |some (b,l)=>some [(b&&(Nat.ble l.length 9223372036854775807&&l.all az),(.tuple [.str (encB k g l f u ca),.int .i64 (encE k g l f u ca)],st))]
  |none=>none
 |_,_=>none
theorem rencG_ok(args:List V)(s:St)(l:Qx)(o:V×St)(h:rencG args s=some l)(ho:aL l=some o):FnSat Qq 85 args s (Is o):=by
 unfold rencG at h;split at h
 ·rename_i k g p f u ca;split at h
  ·rename_i b ls hv;cases h;obtain⟨hb,rfl⟩:=aO ho;simp only[ad]at hb;obtain⟨rfl,h1,h2⟩:=hb;refine cx rfl fun B W0 w m rargs hr ha=>?_;obtain⟨a,r,q1,q2,rfl⟩:=aj ha;simp only[ap,af]at q2;subst q2;obtain⟨y,hy⟩:=qG hr hv q1;exact⟨[.agg [.str k,.str g,lstS y ls,.int .i64 f,.int .i64 u,.bool ca]],by simp only[ap,hy],@renc_sat (Frz.of w) k g y ls f u ca (aw h1) h2⟩
  ·cases h
 ·cases h
def catI:List IT→List UInt8
 |[]=>[]
 |x::r=>putB x.1 x.2++catI r
def ia(x:IT):Prop:=fK x.1=true∧putE x.1 x.2=0
theorem get_cat{x:IT}(h:ia x)(s:List UInt8)(hl:(putB x.1 x.2++s).length≤1099511627776):bj (putB x.1 x.2++s)=0∧bU (putB x.1 x.2++s)=x.1∧av (putB x.1 x.2++s)=x.2∧cD (putB x.1 x.2++s)=s:=by
 obtain⟨a,b,c,d⟩:=put_get (s:=s) h.1 h.2;obtain⟨e1,e2,e3,e4⟩:=get2_eq hl;rw[e1,e2,e3,e4];exact⟨a,b,c,d⟩
theorem put_ne{x:IT}(h:ia x)(s:List UInt8):putB x.1 x.2++s≠[]:=by
 intro e;have:=(List.append_eq_nil_iff.1 e).1;exact(put_none.2 this) h.2
theorem alF_catI:∀(L acc:List IT) (k:Nat),(∀x∈L,ia x)→(catI L).length≤k→(catI L).length≤1099511627776→acc.length+L.length≤64→alF k (catI L) acc=(acc++L,0)
 |[],acc,k,_,_,_,_=>by
  cases k with
  |zero=>simp[alF]
  |succ k=>simp[catI,alF]
 |x::r,acc,k,hg,hk,hb,hn=>by
  have h1:=hg x (by simp);have hne:=put_ne h1 (catI r);simp only[catI]at hk hb ⊢;obtain⟨e1,e2,e3,e4⟩:=get_cat h1 (catI r) hb;cases k with
  |zero=>exact absurd (List.eq_nil_of_length_eq_zero (by omega)) hne
  |succ k=>
   have hlt:=gg hne;rw[e4]at hlt;rw[alF,if_neg hne,if_pos e1,e2,e3,e4];simp only[bi]at hn;rw[if_neg (by omega)];rw[alF_catI r (acc++[(x.1,x.2)]) k (fun y hy=>hg y (by simp[hy])) (by omega) (by omega) (by rw[bQ];simp;omega)];simp
theorem all_catI{L:List IT}(hg:∀x∈L,ia x)(hb:(catI L).length≤1099511627776)(hn:L.length≤64):allI (catI L)=L∧allE (catI L)=0:=by
 have:=alF_catI L [] (catI L).length hg (Nat.le_refl _) hb (by simpa using hn);unfold allI allE;rw[this];exact⟨rfl,rfl⟩
theorem get_good{s:List UInt8}(h:bj s=0)(hl:s.length≤1099511627776):ia (bU s,av s)∧putB (bU s) (av s)++cD s=s:=by
 obtain⟨e1,e2,e3,e4⟩:=get2_eq hl;rw[e1]at h;obtain⟨a,b,c⟩:=get_put h;rw[e2,e3,e4];exact⟨⟨a,b⟩,c⟩
theorem sv(s:List UInt8):(av s).length≤s.length:=by
 unfold av;split
 ·simp only[List.length_take,List.length_drop];omega
 ·exact Nat.zero_le _
theorem alF_inv:∀(k:Nat) (s:List UInt8) (acc L:List IT),s.length≤k→s.length≤1099511627776→alF k s acc=(L,0)→∃M,L=acc++M∧s=catI M∧∀x∈M,ia x
 |0,s,acc,L,hk,_,h=>by
  have:s=[]:=List.eq_nil_of_length_eq_zero (by omega);rw[alF]at h;cases h;exact⟨[],by simp,this,by simp⟩
 |k+1,s,acc,L,hk,hb,h=>by
  rw[alF]at h;by_cases hs:s=[]
  ·rw[if_pos hs]at h;cases h;exact⟨[],by simp,hs,by simp⟩
  ·rw[if_neg hs]at h;by_cases h0:bj s=0
   ·rw[if_pos h0]at h;by_cases ha:acc.length=64
    ·rw[if_pos ha]at h;simp at h
    ·rw[if_neg ha]at h;have hlt:=gg hs;obtain⟨M,m1,m2,m3⟩:=alF_inv k (cD s) _ L (by omega) (by omega) h;obtain⟨g1,g2⟩:=get_good h0 hb;refine⟨(bU s,av s)::M,by rw[m1];simp,?_,fun x hx=>?_⟩
     ·simp only[catI];rw[←m2,g2]
     ·rcases List.mem_cons.1 hx with rfl|hx
      ·exact g1
      ·exact m3 x hx
   ·rw[if_neg h0]at h;injection h with _ h
    exact absurd h h0
theorem uJ{s:List UInt8}(hb:s.length≤1099511627776)(h:allE s=0):s=catI (allI s)∧∀x∈allI s,ia x:=by
 obtain⟨M,m1,m2,m3⟩:=alF_inv s.length s [] (allI s) (Nat.le_refl _) hb (by rw[all_eq s,h]);rw[List.nil_append]at m1;rw[m1];exact⟨m2,m3⟩
theorem only_put{t:Int}{x:List UInt8}(h:ia (t,x))(hl:(putB t x).length≤1099511627776):fe (putB t x) t=true∧av (putB t x)=x:=by
 have:=get_cat h [] (by simpa using hl);simp only[List.append_nil]at this;obtain⟨a,b,c,d⟩:=this;unfold fe;rw[a,b,c,d];exact⟨by simp,rfl⟩
theorem only_inv{s:List UInt8}{t:Int}(hb:s.length≤1099511627776)(h:fe s t=true):s=putB t (av s)∧ia (t,av s):=by
 unfold fe at h;simp only[ad]at h;have h1:bj s=0:=by simpa using h.1
 have h2:cD s=[]:=by simpa using h.2.1
 have h3:bU s=t:=by simpa using h.2.2
 obtain⟨g1,g2⟩:=get_good h1 hb;rw[h2,List.append_nil,h3]at g2;rw[h3]at g1;exact⟨g2.symm,g1⟩
theorem sizeE_nn(s:List UInt8):0≤ec s:=by
 unfold ec cC
 (repeat' split)<;>simp
theorem getE2_nn(s:List UInt8):0≤bj s:=by
 cases s with
 |nil=>simp[bj]
 |cons t r=>
  have:=sizeE_nn r;simp only[bj]
  (repeat' split)<;>omega
theorem alF_nn:∀(k:Nat) (s:List UInt8) (acc:List IT),0≤(alF k s acc).2
 |0,s,acc=>by rw[alF];exact Int.le_refl 0
 |k+1,s,acc=>by
  rw[alF];split
  ·exact Int.le_refl 0
  ·split
   ·split
    ·simp
    ·exact alF_nn k _ _
   ·exact getE2_nn s
theorem allE_nn(s:List UInt8):0≤allE s:=alF_nn _ _ _
theorem readE_nn(s:List UInt8):0≤bo s:=by
 unfold bo
 (repeat' split)<;>simp
theorem rbE_nn(s:List UInt8):0≤rbE s:=by
 unfold rbE;split<;>simp
theorem m2_le(x y:Int):x≤m2 x y∧y≤m2 x y:=by
 unfold m2;split<;>omega
theorem tY:m2 0 0=0:=by unfold m2;simp
theorem s8:fK 48=true∧fK 4=true∧fK 130=true∧fK 2=true∧fK 1=true:=by decide
theorem gD{t:Int}{x:List UInt8}(ht:fK t=true)(h1:¬t%32=31)(h2:x.length≤65535):ia (t,x):=by
 refine⟨ht,?_⟩;unfold putE;rw[if_neg h1,if_neg (by simp only;omega)]
theorem nz:∀l:List (List UInt8),(l.map eg).flatten=catI (l.map fun s=>((130:Int),s))
 |[]=>rfl
 |s::r=>by simp only[List.map_cons,List.flatten_cons,catI,nz r];rfl
theorem sK:∀L:List IT,L.all (fun y=>y.1==130)=true→catI L=((L.map (·.2)).map eg).flatten
 |[],_=>rfl
 |x::r,h=>by
  simp only[List.all_cons,ad]at h;have h1:x.1=130:=by simpa using h.1
  simp only[catI,List.map_cons,List.flatten_cons,sK r h.2,eg,h1]
theorem kw{k g:List UInt8}{f u:Int}(h:mayC k g f u=true):k≠[]∧k.length≤64∧g.length=32∧0≤f∧f≤1099511627776∧0≤u∧u≤1099511627776:=by
 unfold mayC at h;simp only[ad,decide_eq_true_eq,beq_iff_eq]at h;refine⟨fun e=>by subst e;simp at h,by omega,by omega,by omega,by omega,by omega,by omega⟩
theorem spki_may{k:List UInt8}(h0:k≠[])(h1:k.length≤64):cy k=putB 48 (putB 4 k):=by
 unfold cy;rw[if_neg h0,if_neg (by omega)]
def sixI(k g:List UInt8)(l:List (List UInt8))(f u:Int)(ca:Bool):List IT:=[(48,putB 4 k),(4,g),(48,(l.map eg).flatten),(2,intL f),(2,intL u),(1,ip ca)]
theorem sG{k g:List UInt8}{l:List (List UInt8)}{f u:Int}{ca:Bool}(h0:k≠[])(h1:k.length≤64):fP k g l f u ca=catI (sixI k g l f u ca):=by
 unfold fP sixI;rw[spki_may h0 h1];simp only[catI,List.flatten_cons,List.flatten_nil,List.append_nil]
theorem bool_back(ca:Bool):(ip ca==[255])=ca∧rbE (ip ca)=0:=by cases ca<;>exact⟨rfl,rfl⟩
theorem enc_ok{k g:List UInt8}{l:List (List UInt8)}{f u:Int}{ca:Bool}(h:encE k g l f u ca=0):ig k g l f u=true∧encB k g l f u ca=putB 48 (fP k g l f u ca)∧(encB k g l f u ca).length≤512:=by
 unfold encE at h;cases ho:ig k g l f u with
 |false=>rw[ho]at h;simp at h
 |true=>
  rw[ho,ae]at h;cases hd:decide (((putB 48 (fP k g l f u ca)).length:Int)>512)with
  |true=>rw[hd]at h;simp at h
  |false=>
   have:=bk hd;refine⟨rfl,?_,?_⟩
   ·unfold encB;rw[ho,hd];rfl
   ·unfold encB;rw[ho,hd];simp only[ae,ak];omega
theorem lS{k g:List UInt8}{l:List (List UInt8)}{f u:Int}(h:ig k g l f u=true):mayC k g f u=true∧l.all patN=true∧l.length≤64:=by
 unfold ig at h;simp only[ad,decide_eq_true_eq]at h;exact⟨h.1.1,h.1.2,by omega⟩
theorem six_good{k g:List UInt8}{l:List (List UInt8)}{f u:Int}{ca:Bool}(h:ig k g l f u=true)(hb:(fP k g l f u ca).length≤65535):(∀x∈sixI k g l f u ca,ia x)∧(∀x∈l.map (fun s=>((130:Int),s)),ia x):=by
 obtain⟨h1,h2,h3⟩:=lS h;obtain⟨c1,c2,c3,c4,c5,c6,c7⟩:=kw h1;obtain⟨t1,t2,t3,t4,t5⟩:=s8;have p4:=cj 4 k;have hf8:=kz f;have hu8:=kz u;have hca:(ip ca).length≤1:=by cases ca<;>exact Nat.le_refl _
 have hN:(l.map eg).flatten.length≤65535:=by
  have:=mV (l.map eg) 300 (fun s hs=>by
   obtain⟨t,ht,rfl⟩:=List.mem_map.1 hs;have:=jh (List.all_eq_true.1 h2 t ht);have b:=cj 130 t;unfold eg;omega)
  rw[cg]at this;have:l.length*300≤64*300:=Nat.mul_le_mul_right _ h3;omega
 constructor
 ·intro x hx;simp only[sixI,List.mem_cons,List.not_mem_nil,or_false]at hx;rcases hx with rfl|rfl|rfl|rfl|rfl|rfl
  ·exact gD t1 (by decide) (by omega)
  ·exact gD t2 (by decide) (by omega)
  ·exact gD t1 (by decide) hN
  ·exact gD t4 (by decide) (by omega)
  ·exact gD t4 (by decide) (by omega)
  ·exact gD t5 (by decide) (by omega)
 ·intro x hx;obtain⟨s,hs,rfl⟩:=List.mem_map.1 hx;have:=jh (List.all_eq_true.1 h2 s hs);exact gD t3 (by decide) (by omega)
theorem mC{t:Int}{x:List UInt8}(h:putE t x=0):x.length≤(putB t x).length:=by
 unfold putE at h;unfold putB;by_cases h1:t%32=31
 ·rw[if_pos h1]at h;simp at h
 ·rw[if_neg h1]at h ⊢;by_cases h2:x.length>65535
  ·rw[if_pos h2]at h;simp at h
  ·rw[if_neg h2];simp;omega
theorem enc_len{k g:List UInt8}{l:List (List UInt8)}{f u:Int}{ca:Bool}(h:encE k g l f u ca=0):(fP k g l f u ca).length≤512:=by
 obtain⟨h1,h2,h3⟩:=enc_ok h;obtain⟨m1,m2,m3⟩:=lS h1;rw[h2]at h3;by_cases hp:putE 48 (fP k g l f u ca)=0
 ·have:=mC hp;omega
 ·exfalso;have hx:(fP k g l f u ca).length>65535:=by
   unfold putE at hp;rw[if_neg (by decide)]at hp;by_cases h2:(fP k g l f u ca).length>65535
   ·exact h2
   ·rw[if_neg h2]at hp;exact absurd rfl hp
  obtain⟨c1,c2,c3,c4,c5,c6,c7⟩:=kw m1;have hsp:=spki_may c1 c2;have q1:=cj 4 k;have q2:=cj 48 (putB 4 k);have q3:=cj 4 g;have q4:=cj 2 (intL f);have q5:=cj 2 (intL u);have q6:=cj 1 (ip ca);have q7:=cj 48 (l.map eg).flatten;have hf8:=kz f;have hu8:=kz u;have hca:(ip ca).length≤1:=by cases ca<;>exact Nat.le_refl _
  have:=mV (l.map eg) 300 (fun s hs=>by
   obtain⟨t,ht,rfl⟩:=List.mem_map.1 hs;have:=jh (List.all_eq_true.1 m2 t ht);have b:=cj 130 t;unfold eg;omega)
  rw[cg]at this;have:l.length*300≤64*300:=Nat.mul_le_mul_right _ m3;unfold fP at hx;rw[hsp]at hx;simp only[List.flatten_cons,List.flatten_nil,bQ,List.length_nil]at hx;omega
theorem enc_dec{k g:List UInt8}{l:List (List UInt8)}{f u:Int}{ca:Bool}(h:encE k g l f u ca=0):decR (encB k g l f u ca)=some ⟨k,g,l,f,u,ca⟩:=by
 obtain⟨h1,h2,h3⟩:=enc_ok h;obtain⟨m1,m2,m3⟩:=lS h1;obtain⟨c1,c2,c3,c4,c5,c6,c7⟩:=kw m1;have hin:=enc_len h;obtain⟨g1,g2⟩:=six_good (ca:=ca) h1 (by omega);have hgE:ia (48,fP k g l f u ca):=gD s8.1 (by decide) (by omega);rw[h2]at h3 ⊢;obtain⟨o1,o2⟩:=only_put hgE (by omega);have hcat:=sG (g:=g) (l:=l) (f:=f) (u:=u) (ca:=ca) c1 c2;obtain⟨a1,a2⟩:=all_catI g1 (by rw[←hcat];omega) (by simp[sixI]);have hk:ia (4,k):=gD s8.2.1 (by decide) (by omega);obtain⟨k1,k2⟩:=only_put hk (by have:=cj 4 k;omega);have hnl:(l.map eg).flatten.length≤512:=by
  have:(l.map eg).flatten.length≤(fP k g l f u ca).length:=by
   have hg3:(l.map eg).flatten.length≤(putB 48 (l.map eg).flatten).length:=mC (g1 (48,(l.map eg).flatten) (by simp[sixI])).2;unfold fP;simp only[List.flatten_cons,List.flatten_nil,bQ,List.length_nil];omega
  omega
 obtain⟨n1,n2⟩:=all_catI g2 (by rw[←nz];omega) (by rw[cg];exact m3);obtain⟨r1,r2⟩:=read_int (n:=f) (by omega) (by omega);obtain⟨r3,r4⟩:=read_int (n:=u) (by omega) (by omega);obtain⟨b1,b2⟩:=bool_back ca;have hmap:(l.map fun s=>((130:Int),s)).map (·.2)=l:=by rw[List.map_map];simp[Function.comp_def]
 have hall:(l.map fun s=>((130:Int),s)).all (fun y=>y.1==130)=true:=by rw[List.all_eq_true];intro y hy;obtain⟨s,_,rfl⟩:=List.mem_map.1 hy;rfl
 unfold decR;rw[bH (by omega),ak];unfold decC;rw[o1,o2,hcat,a1,a2];have e0:((0:Int)!=0)=false:=rfl;rw[e0,ae,ak];unfold sixI decT;simp only
 rw[k1,k2,nz,n1,n2,r1,r3,b2,tY,tY,tY,e0,hall,hmap,r2,r4,m1,m2,b1];rfl
theorem lg{α:Type}{b:Bool}{x y:Option α}{z:Option α}(h:(bif b then x else y)=z):(b=true∧x=z)∨(b=false∧y=z):=by
 cases b with
 |true=>exact .inl ⟨rfl,h⟩
 |false=>exact .inr ⟨rfl,h⟩
theorem ut{s:List UInt8}{c:CD}(h:decR s=some c):encE c.k c.g c.l c.f c.u c.ca=0∧encB c.k c.g c.l c.f c.u c.ca=s∧(mayC c.k c.g c.f c.u&&c.l.all patN)=true∧s.length≤512∧c.l.length≤64:=by
 unfold decR at h;cases hl:decide ((s.length:Int)>512)with
 |true=>rw[hl]at h;cases h
 |false=>
 rw[hl,ak]at h;have hl:=bk hl;have hs:s.length≤512:=by omega
 unfold decC at h;cases ho:fe s 48 with
 |false=>rw[ho]at h;cases h
 |true=>
 rw[ho,ae]at h;cases hE:(allE (av s)!=0)with
 |true=>rw[hE]at h;cases h
 |false=>
 rw[hE,ak]at h;have hE:allE (av s)=0:=by simpa using hE
 obtain⟨o1,o2⟩:=only_inv (by omega) ho;have hx:=sv s;obtain⟨i1,i2⟩:=uJ (by omega) hE;unfold decT at h;split at h
 ·rename_i x0 x1 x2 x3 x4 x5 hI;rw[hI]at i1 i2;rcases lg h with⟨t,h⟩|⟨_,h⟩
  rotate_left
  ·cases h
  simp only[ad,beq_iff_eq]at t;rcases lg h with⟨hk,h⟩|⟨_,h⟩
  rotate_left
  ·cases h
  rcases lg h with⟨_,h⟩|⟨hm,h⟩
  ·cases h
  rcases lg h with⟨ha,h⟩|⟨_,h⟩
  rotate_left
  ·cases h
  rcases lg h with⟨hmay,h⟩|⟨_,h⟩
  rotate_left
  ·cases h
  injection h with h
  subst h;have hm:m2 (m2 (m2 (allE x2.2) (bo x3.2)) (bo x4.2)) (rbE x5.2)=0:=by simpa using hm
  have l1:=m2_le (m2 (m2 (allE x2.2) (bo x3.2)) (bo x4.2)) (rbE x5.2);have l2:=m2_le (m2 (allE x2.2) (bo x3.2)) (bo x4.2);have l3:=m2_le (allE x2.2) (bo x3.2);have n1:=allE_nn x2.2;have n2:=readE_nn x3.2;have n3:=readE_nn x4.2;have n4:=rbE_nn x5.2;have z1:allE x2.2=0:=by omega
  have z2:bo x3.2=0:=by omega
  have z3:bo x4.2=0:=by omega
  have z4:rbE x5.2=0:=by omega
  have hlen:(av s).length≤512:=by omega
  rw[i1]at hlen;have g0:=mC (i2 x0 (by simp)).2;have g2:=mC (i2 x2 (by simp)).2;simp only[catI,bQ]at hlen;obtain⟨k1,k2⟩:=only_inv (s:=x0.2) (by omega) hk;obtain⟨j1,j2⟩:=uJ (s:=x2.2) (by omega) z1;rw[ad]at hmay;obtain⟨c1,c2,c3,c4,c5,c6,c7⟩:=kw hmay.1;have hca:ip (x5.2==[255])=x5.2:=by
   unfold rbE at z4;by_cases hq:x5.2=[255]∨x5.2=[0]
   ·rcases hq with hq|hq<;>rw[hq]<;>rfl
   ·rw[if_neg hq]at z4;simp at z4
  have hin:fP (av x0.2) x1.2 ((allI x2.2).map (·.2)) (aW x3.2) (aW x4.2) (x5.2==[255])=av s:=by
   rw[sG c1 c2,i1];unfold sixI;rw[←k1,←sK _ ha,←j1,rJ z2,rJ z3,hca];simp only[catI];rw[t.1,t.2.1,t.2.2.1,t.2.2.2.1,t.2.2.2.2.1,t.2.2.2.2.2]
  have hok:ig (av x0.2) x1.2 ((allI x2.2).map (·.2)) (aW x3.2) (aW x4.2)=true:=by
   unfold ig;rw[hmay.1,hmay.2,aH];have:=fX x2.2;exact am (by rw[cg];omega)
  have hlen2:decide (((putB 48 (av s)).length:Int)>512)=false:=by rw[←o1];exact bH (by omega)
  refine⟨?_,?_,?_,hs,?_⟩
  ·unfold encE;rw[hok,hin,hlen2];rfl
  ·unfold encB;rw[hok,hin,hlen2];show putB 48 (av s)=s;exact o1.symm
  ·simp only[hmay.1,hmay.2];rfl
  ·simp only[cg];exact fX x2.2
 ·cases h
def RV0:Tab:=⟨noT,noL,aT 9⟩
theorem RV0_ok:TabOk3 Qq RV0:=⟨aJ,aK,au 9⟩
theorem rval_tree(x:Value)(n:Nat)(cs:List V)(i:Int)(R:V→Prop):runW Qq RV0 9 10 82 [.lst x n cs,.int .i64 i] R=
  (
 bif decide (i<(↑n:Int))then bif decide (0≤i)&&decide (i<(↑n:Int))then bif (i.toNat*2+1).blt cs.length then bif ar (cs.getD (i.toNat*2+1) (.bool
 false))then R (.str (ab (cs.getD (i.toNat*2+1) (.bool false))))else False else False else False else R (.str [])):=by kernel_rfl
def isItV:List V→Bool
 |[]=>true
 |.int .u8 _::.str _::r=>isItV r
 |_=>false
theorem oz:∀L:List IT,isItV (aB L)=true
 |[]=>rfl
 |x::r=>oz r
theorem isItV_of:∀cs:List V,isItV cs=true→cs=aB (dy cs)
 |[],_=>rfl
 |.int .u8 t::.str s::r,h=>by
  have:=isItV_of r h;simp only[dy,aB];rw[←this]
theorem qj:∀cs:List V,isItV cs=true→cs.all i3=true
 |[],_=>rfl
 |.int .u8 t::.str s::r,h=>by
  simp only[List.all_cons,i3,aH];exact qj r h
def rf(st:St)(v:V):Option (Bool×List IT):=match cQ st 2 v with
 |some (b,(n,cs))=>some (b&&(isItV cs&&Nat.beq (dy cs).length n),dy cs)
 |none=>none
def lstI(x:Value)(L:List IT):V:=.lst x L.length (aB L)
theorem viewI_ok{Φ:Frz}{B:Nat}{W0 w:World}{m:List MB}{st:St}(hr:@Rel gl Φ B W0 m st w){v:V}{L:List IT}{x:Value}(hv:rf st v=some (true,L))(hx:@real gl Φ m v=some x):
  @real gl (Frz.of w) [] (lstI x L)=some x:=by
 unfold rf at hv;split at hv
 ·rename_i b n cs hc;simp only[af,Prod.mk.injEq,ad]at hv;obtain⟨⟨rfl,h1,h2⟩,rfl⟩:=hv;have:=pc hr hc (qj _ h1) hx (by omega);unfold lstI;rw[aP h2,←isItV_of _ h1];exact this
 ·cases hv
def vX(L:List IT)(i:Nat):List UInt8:=(L.getD i (0,[])).2
theorem rval_sat(x:Value)(L:List IT)(i:Int)(h0:0≤i)(hl:L.length≤9223372036854775807):FnSat Qq 82 [lstI x L,.int .i64 i] [] (Is (.str (vX L i.toNat),[])):=by
 refine ax (lim:=9) (n:=10) aA RV0_ok rfl rfl ?_;unfold lstI;rw[rval_tree];rcases Nat.lt_or_ge i.toNat L.length with h|h
 ·obtain⟨c,r,hd⟩:∃c r,L.drop i.toNat=c::r:=by
   cases hd:L.drop i.toNat with
   |nil=>have:=congrArg List.length hd;simp at this;omega
   |cons c r=>exact⟨c,r,rfl⟩
  obtain⟨_,e2,e3⟩:=ik hd;rw[Nat.zero_add]at e2 e3;have e4:vX L i.toNat=c.2:=by
   unfold vX;rw[bX,(bn hd).1];rfl
  have d0:decide (i<(L.length:Int))=true:=am (by omega);have d1:decide (0≤i)=true:=am h0;have d2:(i.toNat*2+1).blt (aB L).length=true:=ag (by rw[eQ];omega);simp only[d0,d1,d2,e2,e4,ar,ab,ae,bv]
 ·have d0:decide (i<(L.length:Int))=false:=bH (by omega);have e4:vX L i.toNat=[]:=by
   unfold vX;rw[bX,List.getElem?_eq_none h];rfl
  rw[d0,e4,ak]
def rvalLV(OK:V→St→Bool)(VX:V→Nat→St→List UInt8):List V→St→Option (Bool×V)
 |[p,.int .i64 i],st=>some (OK p st&&decide (0≤i),.str (VX p i.toNat st))
 |_,_=>none
def ivOK(p:V)(st:St):Bool:=match rf st p with
 |some (b,L)=>b&&(Nat.ble L.length 9223372036854775807&&st.all fun b=>aM b.cs)
 |none=>false
def ivX(p:V)(i:Nat)(st:St):List UInt8:=match rf st p with
 |some (_,L)=>vX L i
 |none=>[]
theorem rvalL_ok(args:List V)(s:St)(v:V)(h:rvalLV ivOK ivX args s=some (true,v)):v.flat=true∧(∀b∈s,aM b.cs=true)∧FnSat Qq 82 args s (fun u _=>u=v):=by
 unfold rvalLV at h;split at h
 ·rename_i p i;simp only[af,Prod.mk.injEq,ad]at h;obtain⟨⟨hb,hi⟩,rfl⟩:=h;have hi:=aN hi;unfold ivOK at hb;split at hb
  ·rename_i b L hv;simp only[ad]at hb;obtain⟨rfl,h1,h2⟩:=hb;have hX:ivX p i.toNat s=vX L i.toNat:=by unfold ivX;rw[hv]
   rw[hX];refine⟨rfl,fun b hb=>List.all_eq_true.1 h2 b hb,?_⟩;have:FnSat Qq 82 [p,.int .i64 i] s (Is (.str (vX L i.toNat),s)):=by
    refine cx rfl fun B W0 w m rargs hr ha=>?_;obtain⟨a,r,q1,q2,rfl⟩:=aj ha;have q3:=bw (Ψ:=Frz.of w) (m':=[]) _ _ rfl q2;exact⟨[lstI a L,.int .i64 i],@aI _ (Frz.of w) [] _ _ _ _ (viewI_ok hr hv q1) q3,@rval_sat (Frz.of w) a L i hi (aw h1)⟩
   exact this.mono fun u st hq=>by cases hq;rfl
  ·cases hb
 ·cases h
def rdZ:Blk:=.row [.str [],.str [],.nilSlice,.int .i64 0,.int .i64 0,.bool false] 31 6
theorem rde_round0(s:List UInt8)(lc ds:List V)(nl n:Nat)(k g:List UInt8)(i:Int)(R:Qz):al Qq RV0 9 10 (ah 9) 41 4090 [0,2,3,7,12,14,15] [.str s,.ptr 0 0,.int .i64 0,.slice 1 0 nl false 0 0,.slice 2 0 n false 0 0,.ptr 3 0,.int .i64 i] [rdZ,.row lc 119 2,.row ds 119 2,.row [.str k,.str g,.nilSlice,.int .i64 0,.int .i64 0,.bool false] 31 6] R=
  (
 bif decide (i<(↑n:Int))then bif decide (0≤i)&&decide (i<(↑n:Int))then bif (0+i.toNat*2+1).blt ds.length then bif ar (ds.getD (0+i.toNat*2+1)
 (.bool false))then R .normal [some (.str s),some (.ptr 0 0),some (.int i64 0),some (.slice 1 0 nl false 0 0),some (.slice 2 0 n false 0 0),some
 (.ptr 3 0),some (.int i64 (i64.wrap (i+1)))] [.row [.str [],.str [],.nilSlice,.int i64 0,.int i64 0,.bool false] 31 6,
 .row lc 119 2,.row ds 119 2,.row [.str k,.str g,.slice 5 0 1 false 0 0,.int i64 0,.int i64 0,.bool false] 31 6,.row [.str
 (ab (ds.getD (0+i.toNat*2+1) (.bool false)))] 9 1,.row [.str (ab (ds.getD (0+i.toNat*2+1) (.bool false)))] 9 1]else False else False else
 False else R (.exit 0) [some (.str s),some (.ptr 0 0),some (.int i64 0),some (.slice 1 0 nl false 0 0),some (.slice 2 0 n false 0 0),some (.ptr 3
 0),some (.int i64 i)] [.row [.str [],.str [],.nilSlice,.int i64 0,.int i64 0,.bool false] 31 6,.row lc 119 2,.row ds 119
 2,.row [.str k,.str g,.nilSlice,.int i64 0,.int i64 0,.bool false] 31 6]):=by kernel_rfl
theorem rde_round1(s:List UInt8)(lc ds o:List V)(nl n m:Nat)(k g:List UInt8)(i:Int)(R:Qz):al Qq RV0 9 10 (ah 9) 41 4090 [0,2,3,7,12,14,15] [.str s,.ptr 0 0,.int .i64 0,.slice 1 0 nl false 0 0,.slice 2 0 n false 0 0,.ptr 3 0,.int .i64 i] [rdZ,.row lc 119 2,.row ds 119 2,.row [.str k,.str g,.slice 4 0 m false 0 0,.int .i64 0,.int .i64 0,.bool false] 31 6,.row o 9 1] R=
  (
 bif decide (i<(↑n:Int))then bif decide (0≤i)&&decide (i<(↑n:Int))then bif (0+i.toNat*2+1).blt ds.length then bif ar (ds.getD (0+i.toNat*2+1)
 (.bool false))then bif o.length.beq (m*1)then bif (m+1).ble 9223372036854775807&&((m+1)*16).ble 140737488355328 then R .normal [some (.str s),some
 (.ptr 0 0),some (.int i64 0),some (.slice 1 0 nl false 0 0),some (.slice 2 0 n false 0 0),some (.ptr 3 0),some (.int i64 (i64.wrap (i+
 1)))] [.row [.str [],.str [],.nilSlice,.int i64 0,.int i64 0,.bool false] 31 6,.row lc 119 2,.row ds 119 2,.row [.str k,.str
 g,.slice 6 0 (m+1) false 0 0,.int i64 0,.int i64 0,.bool false] 31 6,.dead,.row [.str (ab (ds.getD (0+i.toNat*2+1) (.bool
 false)))] 9 1,.row (o++[V.str (ab (ds.getD (0+i.toNat*2+1) (V.bool false)))]) 9 1]else False else False else False else False else False else R
 (.exit 0) [some (.str s),some (.ptr 0 0),some (.int i64 0),some (.slice 1 0 nl false 0 0),some (.slice 2 0 n false 0 0),some (.ptr 3 0),some
 (.int i64 i)] [.row [.str [],.str [],.nilSlice,.int i64 0,.int i64 0,.bool false] 31 6,.row lc 119 2,.row ds 119 2,.row
 [.str k,.str g,.slice 4 0 m false 0 0,.int i64 0,.int i64 0,.bool false] 31 6,.row o 9 1]):=by kernel_rfl
structure RDX where
 s:List UInt8
 lc:List V
 nl:Nat
 ds:List V
 n:Nat
 k:List UInt8
 g:List UInt8
 i:Nat
def rdxV(y:RDX):List V:=[.str y.s,.ptr 0 0,.int .i64 0,.slice 1 0 y.nl false 0 0,.slice 2 0 y.n false 0 0,.ptr 3 0,.int .i64 y.i]
def rdxC(k g:List UInt8)(p:V):Blk:=.row [.str k,.str g,p,.int .i64 0,.int .i64 0,.bool false] 31 6
def rdxJ(y:RDX):St:=rdZ::.row y.lc 119 2::.row y.ds 119 2::rdxC y.k y.g (deSl 4 y.i)::deRw y.ds y.i
def jJ(y:RDX):Bool:=aM y.lc&&(okLs y.n y.ds&&Nat.ble y.i y.n)
def rdxMu(y:RDX):Nat:=y.n-y.i
def rdxDec:List (Option V)→St→Option RDX
 |[some (.str s),some (.ptr a 0),some (.int .i64 0),some (.slice b 0 nl false 0 0),some (.slice c 0 n false 0 0),some (.ptr d 0),some (.int .i64 0)],st=>match st[b]?,st[c]?,st[d]? with
  |some (.row lc _ _),some (.row ds _ _),some (.row (.str k::.str g::_) _ _)=>some ⟨s,lc,nl,ds,n,k,g,0⟩
  |_,_,_=>none
 |_,_=>none
def inS(ds:List V):List V:=strs ((dy ds).map (·.2))
def rdxOutG(s:List UInt8)(lc:List V)(nl:Nat)(ds:List V)(n:Nat)(k g:List UInt8)(K:Exit→List V→St→Prop):Prop:=
 (n=0→∀j:Int,K (.exit 0) [.str s,.ptr 0 0,.int .i64 0,.slice 1 0 nl false 0 0,.slice 2 0 n false 0 0,.ptr 3 0,.int .i64 j] [rdZ,.row lc 119 2,.row ds 119 2,rdxC k g .nilSlice])∧
 (∀m,n=m+1→∀j:Int,K (.exit 0) [.str s,.ptr 0 0,.int .i64 0,.slice 1 0 nl false 0 0,.slice 2 0 n false 0 0,.ptr 3 0,.int .i64 j] [rdZ,.row lc 119 2,.row ds 119 2,rdxC k g (.slice 4 0 (m+1) false 0 0),.row (inS ds) 9 1])
def rdxOut:Asks RDX:=fun y K=>rdxOutG y.s y.lc y.nl y.ds y.n y.k y.g K
theorem rdx_fits0(s:List UInt8)(lc:List V)(nl:Nat)(ds:List V)(n:Nat)(k g:List UInt8)(j:Int)(hl:aM lc=true)(hd:aM ds=true):Fits 0 [.str s,.ptr 0 0,.int .i64 0,.slice 1 0 nl false 0 0,.slice 2 0 n false 0 0,.ptr 3 0,.int .i64 j] [rdZ,.row lc 119 2,.row ds 119 2,rdxC k g .nilSlice]
  [some (.str s),some (.ptr 0 0),some (.int .i64 0),some (.slice 1 0 nl false 0 0),some (.slice 2 0 n false 0 0),some (.ptr 3 0),some (.int .i64 j)] [rdZ,.row lc 119 2,.row ds 119 2,rdxC k g .nilSlice]:=
 ⟨[0,1,2,3],[.str s,.ptr 0 0,.int .i64 0,.slice 1 0 nl false 0 0,.slice 2 0 n false 0 0,.ptr 3 0,.int .i64 j],rfl,rfl,FitsM.of ⟨.inr ⟨_,.inl rfl,rfl⟩,.inr ⟨_,.inl (by simp only[renB,aC lc hl]),rfl⟩,.inr ⟨_,.inl (by simp only[renB,aC ds hd]),rfl⟩,.inr ⟨_,.inl rfl,rfl⟩,trivial⟩,by decide,fun i hi=>by omega⟩
theorem np(s:List UInt8)(lc:List V)(nl:Nat)(ds:List V)(n:Nat)(k g:List UInt8)(j:Int)(hl:aM lc=true)(hd:aM ds=true)(o:List (List UInt8))(b m L:Nat)(hL:L=m)(hb4:4≤b){st:St}(h0:st[0]?=some rdZ)(h1:st[1]?=some (.row lc 119 2))(h2:st[2]?=some (.row ds 119 2))(h3:st[3]?=some (rdxC k g (.slice b 0 L false 0 0)))(hb:st[b]?=some (.row (strs o) 9 1)):
  Fits 0 [.str s,.ptr 0 0,.int .i64 0,.slice 1 0 nl false 0 0,.slice 2 0 n false 0 0,.ptr 3 0,.int .i64 j] [rdZ,.row lc 119 2,.row ds 119 2,rdxC k g (.slice 4 0 m false 0 0),.row (strs o) 9 1]
  [some (.str s),some (.ptr 0 0),some (.int .i64 0),some (.slice 1 0 nl false 0 0),some (.slice 2 0 n false 0 0),some (.ptr 3 0),some (.int .i64 j)] st:=by
 subst hL;refine⟨[0,1,2,3,b],[.str s,.ptr 0 0,.int .i64 0,.slice 1 0 nl false 0 0,.slice 2 0 n false 0 0,.ptr 3 0,.int .i64 j],rfl,rfl,FitsM.of ⟨.inr ⟨_,.inl rfl,h0⟩,.inr ⟨_,.inl (by simp only[renB,aC lc hl]),h1⟩,.inr ⟨_,.inl (by simp only[renB,aC ds hd]),h2⟩,.inr ⟨_,.inl rfl,h3⟩,.inr ⟨_,.inl (by simp only[renB,gX]),hb⟩,trivial⟩,?_,fun i hi=>by omega⟩;simp;omega
theorem rdx_roundOk(y:RDX)(hx:jJ y=true):al Qq RV0 9 10 (ah 9) 41 4090 [0,2,3,7,12,14,15] (rdxV y) (rdxJ y) (aD 0 jJ rdxV rdxJ rdxMu rdxOut y):=by
 obtain⟨s,lc,nl,ds,n,k,g,i⟩:=y;unfold jJ at hx;simp only[ad]at hx;have f1:aM lc=true:=hx.1;have hx2:okLs n ds=true:=hx.2.1;have p1:i≤n:=aw hx.2.2;obtain⟨L,rfl,rfl,p2⟩:=rV hx2;have f2:=fB L;have nm:∀j,deNm (aB L) j=(L.take j).map (·.2):=fun j=>by unfold deNm;rw[cP]
 have nms:inS (aB L)=strs (L.map (·.2)):=by unfold inS;rw[cP]
 have rowN:∀{j c r},L.drop j=c::r→(L.take (j+1)).map (·.2)=(L.take j).map (·.2)++[c.2]:=fun{j c r} h=>by
  rw[List.take_add_one,(bn h).1,List.map_append];rfl
 have w1:i<L.length→i64.wrap ((i:Int)+1)=((i+1:Nat):Int):=fun h=>by rw[IntWalk.i64_in _ ⟨by omega,by omega⟩];omega
 have pre:i<L.length→jJ ⟨s,lc,nl,aB L,L.length,k,g,i+1⟩=true:=fun h=>by
  unfold jJ;simp only[ad];exact⟨f1,hx2,ag h⟩
 cases i with
 |zero=>
  show al Qq RV0 9 10 (ah 9) 41 4090 [0,2,3,7,12,14,15] [.str s,.ptr 0 0,.int .i64 0,.slice 1 0 nl false 0 0,.slice 2 0 L.length false 0 0,.ptr 3 0,.int .i64 ((0:Nat):Int)] [rdZ,.row lc 119 2,.row (aB L) 119 2,.row [.str k,.str g,.nilSlice,.int .i64 0,.int .i64 0,.bool false] 31 6] _;rw[rde_round0];cases L with
  |nil=>exact⟨_,_,fun K hK=>hK.1 rfl _,rdx_fits0 s lc nl [] 0 k g _ f1 rfl⟩
  |cons c r=>
   have e2:=(ik (L:=c::r) (i:=0) (c:=c) (r:=r) rfl).2;have d0:decide (((0:Nat):Int)<((c::r).length:Int))=true:=am (by simp);have d1:decide ((0:Int)≤((0:Nat):Int))=true:=rfl;have d2:(0+0*2+1).blt (aB (c::r)).length=true:=ag (by simp[aB]);simp only[d0,d1,d2,e2.1,w1 (by simp),bp,ar,ab,ae,bv];refine⟨⟨s,lc,nl,aB (c::r),(c::r).length,k,g,0+1⟩,pre (by simp),?_,by simp[rdxMu],fun K hK=>hK⟩;show Fits 0 _ (rdZ::.row lc 119 2::.row (aB (c::r)) 119 2::rdxC k g (.slice 4 0 1 false 0 0)::deRw (aB (c::r)) 1) _ _;have e:deRw (aB (c::r)) 1=[.row (strs [c.2]) 9 1]:=by show[Blk.row (strs (deNm (aB (c::r)) 1)) 9 1]=_;rw[nm];rfl
   rw[e];exact np s lc nl (aB (c::r)) _ k g _ f1 f2 [c.2] 5 1 1 rfl (by omega) rfl rfl rfl rfl rfl
 |succ j=>
  have eR:deRw (aB L) (j+1)=[.row (strs ((L.take (j+1)).map (·.2))) 9 1]:=by show[Blk.row (strs (deNm (aB L) (j+1))) 9 1]=_;rw[nm]
  have eJ:rdxJ ⟨s,lc,nl,aB L,L.length,k,g,j+1⟩=[rdZ,.row lc 119 2,.row (aB L) 119 2,.row [.str k,.str g,.slice 4 0 (j+1) false 0 0,.int .i64 0,.int .i64 0,.bool false] 31 6,.row (strs ((L.take (j+1)).map (·.2))) 9 1]:=by
   unfold rdxJ;simp only;rw[eR];rfl
  rw[eJ];show al Qq RV0 9 10 (ah 9) 41 4090 [0,2,3,7,12,14,15] [.str s,.ptr 0 0,.int .i64 0,.slice 1 0 nl false 0 0,.slice 2 0 L.length false 0 0,.ptr 3 0,.int .i64 ((j+1:Nat):Int)] _ _;rw[rde_round1];cases hd:L.drop (j+1)with
  |nil=>
   have hi:=bY hd p1;rw[bH (show ¬(((j+1:Nat):Int)<(L.length:Int)) by omega),ak];refine⟨_,_,fun K hK=>hK.2 j hi.symm ((j+1:Nat):Int),?_⟩;rw[nms,show L.map (·.2)=(L.take (j+1)).map (·.2) by rw[hi,List.take_length]];exact np s lc nl (aB L) _ k g _ f1 f2 ((L.take (j+1)).map (·.2)) 4 (j+1) (j+1) rfl (by omega) rfl rfl rfl rfl rfl
  |cons c r=>
   have h3:=(bn hd).2.2;have e2:=(ik hd).2;have d0:decide (((j+1:Nat):Int)<(L.length:Int))=true:=am (by omega);have d1:decide ((0:Int)≤((j+1:Nat):Int))=true:=am (by omega);have d2:(0+(j+1)*2+1).blt (aB L).length=true:=ag (by rw[eQ];omega);have hlen:((L.take (j+1)).map (·.2)).length=j+1:=by rw[cg,List.length_take];omega
   have d3:(strs ((L.take (j+1)).map (·.2))).length.beq ((j+1)*1)=true:=by rw[aE,hlen,Nat.mul_one,a9]
   have d4:((j+1+1).ble 9223372036854775807&&((j+1+1)*16).ble 140737488355328)=true:=by rw[ag (by omega),ag (by omega)];rfl
   simp only[d0,d1,d2,d3,d4,e2.1,w1 h3,bp,ar,ab,ae,bv];refine⟨⟨s,lc,nl,aB L,L.length,k,g,j+1+1⟩,pre h3,?_,by simp only[rdxMu];omega,fun K hK=>hK⟩;show Fits 0 _ (rdZ::.row lc 119 2::.row (aB L) 119 2::rdxC k g (.slice 4 0 (j+1+1) false 0 0)::deRw (aB L) (j+1+1)) _ _;have e:deRw (aB L) (j+1+1)=[.row (strs ((L.take (j+1)).map (·.2)++[c.2])) 9 1]:=by show[Blk.row (strs (deNm (aB L) (j+1+1))) 9 1]=_;rw[nm,rowN hd]
   have cat:strs ((L.take (j+1)).map (·.2))++[V.str c.2]=strs ((L.take (j+1)).map (·.2)++[c.2]):=by unfold strs;rw[List.map_append];rfl
   rw[e,cat];exact np s lc nl (aB L) _ k g _ f1 f2 _ 6 (j+1+1) (j+1+1) rfl (by omega) rfl rfl rfl rfl rfl
def lkRDX:Nat→Trans→Trans:=gH 4090 (isSl 12) (bK 0 (szOf Qq 41) [0,2,3,7,12,14,15] rdxDec jJ rdxV rdxJ rdxOut) (ah 9)
theorem lkRDX_ok:aQ Qq 0 lkRDX 41:=by
 unfold lkRDX;exact qt (aY 9 0 41) (by kernel_rfl) fun f st Q h=>bc (P:=Qq) (T:=RV0) (k:=0) (lim:=9) (n:=10) (g:=41) (p0:=4090) (lk:=ah 9) aA RV0_ok (bf 9 _ _) rdxMu rdx_roundOk h
def rencGV(EOK:V→St→Bool)(EB:List UInt8→List UInt8→V→Int→Int→Bool→St→List UInt8)(EE:List UInt8→List UInt8→V→Int→Int→Bool→St→Int):List V→St→Option (Qx)
 |[.agg [.str k,.str g,p,.int .i64 f,.int .i64 u,.bool ca]],st=>some [(EOK p st,(.tuple [.str (EB k g p f u ca st),.int .i64 (EE k g p f u ca st)],st))]
 |_,_=>none
def ecOK(p:V)(st:St):Bool:=match bC st p with
 |some (b,l)=>b&&(Nat.ble l.length 9223372036854775807&&l.all az)
 |none=>false
def ecB(k g:List UInt8)(p:V)(f u:Int)(ca:Bool)(st:St):List UInt8:=match bC st p with
 |some (_,l)=>encB k g l f u ca
 |none=>[]
def ecE(k g:List UInt8)(p:V)(f u:Int)(ca:Bool)(st:St):Int:=match bC st p with
 |some (_,l)=>encE k g l f u ca
 |none=>0
theorem rencGV_ok(args:List V)(s:St)(l:Qx)(o:V×St)(h:rencGV ecOK ecB ecE args s=some l)(ho:aL l=some o):FnSat Qq 85 args s (Is o):=by
 unfold rencGV at h;split at h
 ·rename_i k g p f u ca;cases h;obtain⟨hk,rfl⟩:=aO ho;unfold ecOK at hk;split at hk
  ·rename_i b ls hv;have e1:ecB k g p f u ca s=encB k g ls f u ca:=by unfold ecB;rw[hv]
   have e2:ecE k g p f u ca s=encE k g ls f u ca:=by unfold ecE;rw[hv]
   rw[e1,e2];exact rencG_ok [.agg [.str k,.str g,p,.int .i64 f,.int .i64 u,.bool ca]] s [(b&&(Nat.ble ls.length 9223372036854775807&&ls.all az),(.tuple [.str (encB k g ls f u ca),.int .i64 (encE k g ls f u ca)],s))] _ (by simp only[rencG,hv]) (by rw[hk];rfl)
  ·cases hk
 ·cases h
def RF1(GOKv:V→St→Bool)(VX:V→Nat→St→List UInt8)(EOK:V→St→Bool)(EB:List UInt8→List UInt8→V→Int→Int→Bool→St→List UInt8)(EE:List UInt8→List UInt8→V→Int→Int→Bool→St→Int)(AE:List UInt8→Int)(AN:List UInt8→Nat)(AC:List UInt8→List V):Tab:=⟨addT (addT (addP (addP noT 83 rL) 84 kq) 80 rgetT) 81 (rallG AE AN AC),addS (addL noL 82 (rvalLV GOKv VX)) 85 (rencGV EOK EB EE),cI (aT 9) 41 0 lkRDX⟩
theorem RF1_ok:TabOk3 Qq (RF1 ivOK ivX ecOK ecB ecE allE allN allC):=⟨aR (aR (bg (bg aJ rread_ok) rrdbool_ok) rget_ok) rallG_ok,bP (addL_ok aK rvalL_ok) rencGV_ok,bq (au 9) lkRDX_ok⟩
def zN_0(AC:List UInt8→List V)(s:List UInt8):=[Blk.ro false (aF 2 (AC (av s)))]
def zN_1(AN:List UInt8→Nat)(s:List UInt8):=V.slice 0 0 (AN (av s)) false 0 0
def zN_2:=[V.str [],V.str [],V.nilSlice,V.int i64 0,V.int i64 0,V.bool false]
def zN_3:=V.tuple [V.agg zN_2,V.int i64 4]
def zN_5(VX:V→Nat→St→List UInt8)(AN:List UInt8→Nat)(AC:List UInt8→List V)(s:List UInt8):=av (VX (zN_1 AN s) 0 (zN_0 AC s))
def zN_4(VX:V→Nat→St→List UInt8)(AN:List UInt8→Nat)(AC:List UInt8→List V)(s:List UInt8):=V.tuple [V.agg [V.str (zN_5 VX AN AC s),V.str (VX (zN_1 AN s) 1 (zN_0 AC s)),V.nilSlice,V.int i64 (aW (VX (zN_1 AN s) 3 (zN_0 AC s))),V.int i64 (aW (VX (zN_1 AN s) 4 (zN_0 AC s))),V.bool (VX (zN_1 AN s) 5 (zN_0 AC s)==[255])],V.int i64 0]
theorem rde_tree(GOKv:V→St→Bool)(VX:V→Nat→St→List UInt8)(EOK:V→St→Bool)(EB:List UInt8→List UInt8→V→Int→Int→Bool→St→List UInt8)(EE:List UInt8→List UInt8→V→Int→Int→Bool→St→Int)(AE:List UInt8→Int)(AN:List UInt8→Nat)(AC:List UInt8→List V)(s:List UInt8)(R:V→St→Prop):runM Qq (RF1 GOKv VX EOK EB EE AE AN AC) 9 10 41 [.str s] (fun u st=>R u (visF u st))=
 (
 bif decide ((↑s.length:Int)>512)then R (.tuple [.agg zN_2,.int i64 40]) [.ro true []]else bif az s then bif az (av s)&&(AN (av
 s)).beq 0 then bif bj s !=0 then R zN_3 [.ro true []]else bif AE (av s)!=0 then R zN_3 [.ro true []]else bif GOKv .nilSlice []&&true then bif
 az (VX .nilSlice 0 [])then bif GOKv .nilSlice []&&true then bif az (VX .nilSlice 2 [])&&(AN (VX .nilSlice 2 [])).beq 0 then bif GOKv .nilSlice []
 &&true then bif GOKv .nilSlice []&&true then bif GOKv .nilSlice []&&true then bif GOKv .nilSlice []&&true then bif EOK .nilSlice []then bif EE (av
 (VX .nilSlice 0 [])) (VX .nilSlice 1 []) .nilSlice (aW (VX .nilSlice 3 [])) (aW (VX .nilSlice 4 [])) (VX .nilSlice 5 []==[255]) []!=0 then R zN_3
 [.ro true []]else bif !EB (av (VX .nilSlice 0 [])) (VX .nilSlice 1 []) .nilSlice (aW (VX .nilSlice 3 [])) (aW (VX .nilSlice 4 [])) (VX
 .nilSlice 5 []==[255]) []==s then R zN_3 [.ro true []]else R (.tuple [.agg [.str (av (VX .nilSlice 0 [])),.str (VX .nilSlice 1 []),
 .nilSlice,.int i64 (aW (VX .nilSlice 3 [])),.int i64 (aW (VX .nilSlice 4 [])),.bool (VX .nilSlice 5 []==[255])],.int
 i64 0]) [.ro true []]else False else False else False else False else False else bif az (VX .nilSlice 2 [])then bif GOKv .nilSlice []&&true
 then False else False else False else False else False else False else bif az (av s)then bif bj s !=0 then R zN_3 [.ro true []]else bif AE (av
 s)!=0 then R zN_3 [.ro true []]else bif GOKv (zN_1 AN s) (zN_0 AC s)&&true then bif az (VX (zN_1 AN s) 0 (zN_0 AC s))then bif GOKv (zN_1 AN s) (zN_0
 AC s)&&true then bif az (VX (zN_1 AN s) 2 (zN_0 AC s))&&(AN (VX (zN_1 AN s) 2 (zN_0 AC s))).beq 0 then bif GOKv (zN_1 AN s) (zN_0 AC s)&&true then bif
 GOKv (zN_1 AN s) (zN_0 AC s)&&true then bif GOKv (zN_1 AN s) (zN_0 AC s)&&true then bif GOKv (zN_1 AN s) (zN_0 AC s)&&true then bif EOK .nilSlice []then
 bif EE (zN_5 VX AN AC s) (VX (zN_1 AN s) 1 (zN_0 AC s)) .nilSlice (aW (VX (zN_1 AN s) 3 (zN_0 AC s))) (aW (VX (zN_1 AN s) 4 (zN_0 AC s))) (VX (zN_1 AN s)
 5 (zN_0 AC s)==[255]) []!=0 then R zN_3 [.ro true []]else bif !EB (zN_5 VX AN AC s) (VX (zN_1 AN s) 1 (zN_0 AC s)) .nilSlice (aW (VX (zN_1 AN s) 3
 (zN_0 AC s))) (aW (VX (zN_1 AN s) 4 (zN_0 AC s))) (VX (zN_1 AN s) 5 (zN_0 AC s)==[255]) []==s then R zN_3 [.ro true []]else R (zN_4 VX AN AC s)
 [.ro true []]else False else False else False else False else False else bif az (VX (zN_1 AN s) 2 (zN_0 AC s))then bif GOKv (zN_1 AN s) (zN_0 AC s)&&
 true then Fits 0 [.str s,.ptr 0 0,.int i64 0,.slice 1 0 (AN (av s)) false 0 0,.slice 2 0 (AN (VX (zN_1 AN s) 2 (zN_0 AC s))) false 0 0,.ptr
 3 0,.int i64 0] [.row zN_2 31 6,.row (aF 2 (AC (av s))) 119 2,.row (aF 4 (AC (VX (zN_1 AN s) 2 (zN_0 AC s)))) 119 2,.row
 [.str (zN_5 VX AN AC s),.str (VX (zN_1 AN s) 1 (zN_0 AC s)),.nilSlice,.int i64 0,.int i64 0,.bool false] 31 6] [some (.str s),some
 (.ptr 0 0),some (.int i64 0),some (.slice 2 0 (AN (av s)) false 0 0),some (.slice 4 0 (AN (VX (zN_1 AN s) 2 (zN_0 AC s))) false 0 0),some
 (.ptr 5 0),some (.int i64 0)] [.row zN_2 31 6,.row [.int u8 (bU s),.str (av s)] 119 2,.row (aF 2 (AC (av s))) 119
 2,.row [.int u8 (bU (VX (zN_1 AN s) 0 (zN_0 AC s))),.str (zN_5 VX AN AC s)] 119 2,.row (aF 4 (AC (VX (zN_1 AN s) 2 (zN_0 AC s)))) 119
 2,.row [.str (zN_5 VX AN AC s),.str (VX (zN_1 AN s) 1 (zN_0 AC s)),.nilSlice,.int i64 0,.int i64 0,.bool false] 31 6]∧bif jJ
 {s:=s,lc:=aF 2 (AC (av s)),nl:=AN (av s),ds:=aF 4 (AC (VX (zN_1 AN s) 2 (zN_0 AC s))),n:=AN (VX (zN_1 AN s) 2 (zN_0 AC s)),k:=av (VX (zN_1 AN s) 0 (zN_0 AC s)),g:=VX (zN_1 AN s) 1 (zN_0 AC s),i:=0}
 then(AN (VX (zN_1 AN s) 2 (zN_0 AC s))=0→∀(j:Int),bif GOKv (zN_1 AN s) (zN_0 AC s)&&true then bif GOKv (zN_1 AN s) (zN_0 AC s)&&true then bif GOKv
 (zN_1 AN s) (zN_0 AC s)&&true then bif EOK .nilSlice []then bif EE (zN_5 VX AN AC s) (VX (zN_1 AN s) 1 (zN_0 AC s)) .nilSlice (aW (VX (zN_1 AN s) 3 (zN_0
 AC s))) (aW (VX (zN_1 AN s) 4 (zN_0 AC s))) (VX (zN_1 AN s) 5 (zN_0 AC s)==[255]) []!=0 then R zN_3 [.ro true []]else bif !EB (zN_5 VX AN AC s) (VX
 (zN_1 AN s) 1 (zN_0 AC s)) .nilSlice (aW (VX (zN_1 AN s) 3 (zN_0 AC s))) (aW (VX (zN_1 AN s) 4 (zN_0 AC s))) (VX (zN_1 AN s) 5 (zN_0 AC s)==[255]) []==
 s then R zN_3 [.ro true []]else R (zN_4 VX AN AC s) [.ro true []]else False else False else False else False)∧∀(m:Nat),AN (VX (zN_1 AN s) 2 (zN_0
 AC s))=m+1→∀(j:Int),bif GOKv (zN_1 AN s) (zN_0 AC s)&&true then bif GOKv (zN_1 AN s) (zN_0 AC s)&&true then bif GOKv (zN_1 AN s) (zN_0 AC s)&&
 true then bif EOK (.slice 4 0 (m+1) false 0 0) [.row zN_2 31 6,.row (aF 2 (AC (av s))) 119 2,.row (aF 4 (AC (VX (zN_1 AN s) 2 (zN_0 AC
 s)))) 119 2,.row [.str (zN_5 VX AN AC s),.str (VX (zN_1 AN s) 1 (zN_0 AC s)),.slice 4 0 (m+1) false 0 0,.int i64 (aW (VX (zN_1 AN s) 3
 (zN_0 AC s))),.int i64 (aW (VX (zN_1 AN s) 4 (zN_0 AC s))),.bool (VX (zN_1 AN s) 5 (zN_0 AC s)==[255])] 31 6,.row (inS (aF 4 (AC (VX
 (zN_1 AN s) 2 (zN_0 AC s))))) 9 1]then bif EE (zN_5 VX AN AC s) (VX (zN_1 AN s) 1 (zN_0 AC s)) (.slice 4 0 (m+1) false 0 0) (aW (VX (zN_1 AN s) 3 (zN_0 AC
 s))) (aW (VX (zN_1 AN s) 4 (zN_0 AC s))) (VX (zN_1 AN s) 5 (zN_0 AC s)==[255]) [.row zN_2 31 6,.row (aF 2 (AC (av s))) 119 2,.row (aF
 4 (AC (VX (zN_1 AN s) 2 (zN_0 AC s)))) 119 2,.row [.str (zN_5 VX AN AC s),.str (VX (zN_1 AN s) 1 (zN_0 AC s)),.slice 4 0 (m+1) false 0 0,.int
 i64 (aW (VX (zN_1 AN s) 3 (zN_0 AC s))),.int i64 (aW (VX (zN_1 AN s) 4 (zN_0 AC s))),.bool (VX (zN_1 AN s) 5 (zN_0 AC s)==[255])] 31
 6,.row (inS (aF 4 (AC (VX (zN_1 AN s) 2 (zN_0 AC s))))) 9 1]!=0 then R zN_3 [.ro true []]else bif !EB (zN_5 VX AN AC s) (VX (zN_1 AN s) 1 (zN_0 AC
 s)) (.slice 4 0 (m+1) false 0 0) (aW (VX (zN_1 AN s) 3 (zN_0 AC s))) (aW (VX (zN_1 AN s) 4 (zN_0 AC s))) (VX (zN_1 AN s) 5 (zN_0 AC s)==[255])
 [.row zN_2 31 6,.row (aF 2 (AC (av s))) 119 2,.row (aF 4 (AC (VX (zN_1 AN s) 2 (zN_0 AC s)))) 119 2,.row [.str (zN_5 VX AN AC s),
 .str (VX (zN_1 AN s) 1 (zN_0 AC s)),.slice 4 0 (m+1) false 0 0,.int i64 (aW (VX (zN_1 AN s) 3 (zN_0 AC s))),.int i64 (aW (VX (zN_1
 AN s) 4 (zN_0 AC s))),.bool (VX (zN_1 AN s) 5 (zN_0 AC s)==[255])] 31 6,.row (inS (aF 4 (AC (VX (zN_1 AN s) 2 (zN_0 AC s))))) 9 1]==s then R zN_3
 [.ro true []]else R (.tuple [.agg [.str (zN_5 VX AN AC s),.str (VX (zN_1 AN s) 1 (zN_0 AC s)),.slice 4 0 (m+1) false 0 0,.int i64 (aW
 (VX (zN_1 AN s) 3 (zN_0 AC s))),.int i64 (aW (VX (zN_1 AN s) 4 (zN_0 AC s))),.bool (VX (zN_1 AN s) 5 (zN_0 AC s)==[255])],.int i64 0])
 [.dead,.dead,.dead,.dead,.row (inS (aF 4 (AC (VX (zN_1 AN s) 2 (zN_0 AC s))))) 9 1]else False else False else False else False else False
 else False else False else False else False else False else False else False):=by kernel_rfl
theorem alF_bad:∀(k:Nat) (s:List UInt8) (acc:List IT),(alF k s acc).2≠0→(alF k s acc).1=[]
 |0,s,acc,h=>by simp[alF]at h
 |k+1,s,acc,h=>by
  simp only[alF]at h ⊢;split at h
  ·simp at h
  ·rename_i hs;rw[if_neg hs];split at h
   ·rename_i h0;rw[if_pos h0];split at h
    ·rename_i ha;rw[if_pos ha]
    ·rename_i ha;rw[if_neg ha];exact alF_bad k _ _ h
   ·rename_i h0;rw[if_neg h0]
theorem all_none{s:List UInt8}(h:allE s≠0):allI s=[]:=alF_bad _ _ _ h
theorem mem_cat:∀{L:List IT},(∀x∈L,ia x)→∀y∈L,y.2.length≤(catI L).length
 |[],_,y,h=>by cases h
 |x::r,hg,y,h=>by
  have e:catI (x::r)=putB x.1 x.2++catI r:=rfl;rw[e,bQ];rcases List.mem_cons.1 h with rfl|h
  ·have:=mC (hg y (by simp)).2;omega
  ·have:=mem_cat (fun z hz=>hg z (by simp[hz])) y h;omega
theorem item_len{s:List UInt8}(hb:s.length≤1099511627776):∀y∈allI s,y.2.length≤s.length:=by
 intro y hy;by_cases h:allE s=0
 ·obtain⟨h1,h2⟩:=uJ hb h;have:=mem_cat h2 y hy;rw[←h1]at this;exact this
 ·rw[all_none h]at hy;cases hy
theorem vX_len{s:List UInt8}(hb:s.length≤1099511627776)(i:Nat):(vX (allI s) i).length≤s.length:=by
 unfold vX;rw[bX];cases h:(allI s)[i]? with
 |none=>simp
 |some y=>exact item_len hb y (List.mem_of_getElem? h)
def rdC(s:List UInt8):CD:=⟨av (vX (allI (av s)) 0),vX (allI (av s)) 1,(allI (vX (allI (av s)) 2)).map (·.2),aW (vX (allI (av s)) 3),aW (vX (allI (av s)) 4),vX (allI (av s)) 5==[255]⟩
theorem decR_rd{s:List UInt8}{c:CD}(h:decR s=some c):bj s=0∧allE (av s)=0∧c=rdC s:=by
 unfold decR at h;cases hl:decide ((s.length:Int)>512)with
 |true=>rw[hl]at h;cases h
 |false=>
 rw[hl,ak]at h;unfold decC at h;cases ho:fe s 48 with
 |false=>rw[ho]at h;cases h
 |true=>
 rw[ho,ae]at h;unfold fe at ho;simp only[ad]at ho;have h0:bj s=0:=beq_iff_eq.1 ho.1;cases ha:(allE (av s)!=0)with
 |true=>rw[ha]at h;cases h
 |false=>
 rw[ha,ak]at h;have ha:allE (av s)=0:=by simpa using ha
 refine⟨h0,ha,?_⟩;unfold rdC;unfold decT at h;split at h
 ·rename_i x0 x1 x2 x3 x4 x5 hL;rw[hL];rcases lg h with⟨_,h⟩|⟨_,h⟩
  ·rcases lg h with⟨_,h⟩|⟨_,h⟩
   ·rcases lg h with⟨_,h⟩|⟨_,h⟩
    ·cases h
    ·rcases lg h with⟨_,h⟩|⟨_,h⟩
     ·rcases lg h with⟨_,h⟩|⟨_,h⟩
      ·cases h;rfl
      ·cases h
     ·cases h
   ·cases h
  ·cases h
 ·cases h
theorem rdw_view{st:St}{b:Nat}{f:List (List UInt8)}{t:TypeId}{sz:Nat}(hb:st[b]?=some (.row (strs f) t sz)):bC st (.slice b 0 f.length false 0 0)=some (true,f):=by
 unfold bC;simp only[cQ,hb,Nat.mul_one,List.drop_zero,Nat.zero_add];rw[cz (by rw[aE];exact Nat.le_refl _),aE,bD,ai,a9,ag (Nat.le_refl _)];rfl
theorem rde_all(s:List UInt8)(hk:az s=true):runM Qq (RF1 ivOK ivX ecOK ecB ecE allE allN allC) 9 10 41 [.str s] (fun u st=>deQ s u (visF u st)):=by
 refine cast (rde_tree ivOK ivX ecOK ecB ecE allE allN allC s (deQ s)).symm ?_;unfold zN_4 zN_5 zN_3 zN_2 zN_1 zN_0;have hb:=aN hk;have zero:∀(e:Int) (st:St),e≠0→decR s=none→decE s=e→deQ s (.tuple [.agg [.str [],.str [],.nilSlice,.int .i64 0,.int .i64 0,.bool false],.int .i64 e]) st:=by
  intro e st he h1 h2;have e1:outD s=(.tuple [iN,.int .i64 e],[]):=by unfold outD;rw[h1,h2]
  refine⟨?_,fun h=>absurd (h2.symm.trans h) he⟩;rw[e1];exact⟨[],[.tuple [iN,.int .i64 e]],rfl,rfl,FitsM.of trivial,by simp,fun i hi=>by omega⟩
 refine ac (fun h5=>?_) (fun h5=>?_)
 ·exact zero 40 _ (by omega) (by unfold decR;rw[h5];rfl) (by unfold decE;rw[h5];rfl)
 have four:∀(st:St),decR s=none→deQ s (.tuple [.agg [.str [],.str [],.nilSlice,.int .i64 0,.int .i64 0,.bool false],.int .i64 4]) st:=fun st h=>by
  refine zero 4 st (by omega) h ?_;unfold decR at h;unfold decE;rw[h5,ak]at h ⊢;rw[h]
 have none_of:(bj s≠0∨allE (av s)≠0)→decR s=none:=fun h=>by
  cases hd:decR s with
  |none=>rfl
  |some c=>
   obtain⟨h1,h2,_⟩:=decR_rd hd;rcases h with h|h
   ·exact absurd h1 h
   ·exact absurd h2 h
 have hx:(av s).length≤s.length:=sv s;have ox:az (av s)=true:=am (by omega);have ov:∀i,az (vX (allI (av s)) i)=true:=fun i=>am (by have:=vX_len (s:=av s) (by omega) i;omega);rw[hk,ox,ae,aH,ae]
 -- what the document reads, and whether it is told
 have bad:∀(st:St),(encE (rdC s).k (rdC s).g (rdC s).l (rdC s).f (rdC s).u (rdC s).ca≠0∨encB (rdC s).k (rdC s).g (rdC s).l (rdC s).f (rdC s).u (rdC s).ca≠s)→deQ s (.tuple [.agg [.str [],.str [],.nilSlice,.int .i64 0,.int .i64 0,.bool false],.int .i64 4]) st:=fun st h=>by
  refine four st ?_;cases hd:decR s with
  |none=>rfl
  |some c=>
   obtain⟨_,_,rfl⟩:=decR_rd hd;obtain⟨e1,e2,_⟩:=ut hd;rcases h with h|h
   ·exact absurd e1 h
   ·exact absurd e2 h
 have good:encE (rdC s).k (rdC s).g (rdC s).l (rdC s).f (rdC s).u (rdC s).ca=0→encB (rdC s).k (rdC s).g (rdC s).l (rdC s).f (rdC s).u (rdC s).ca=s→decR s=some (rdC s):=fun h1 h2=>by
  have:=enc_dec h1;rw[h2]at this;exact this
 have oke:∀(st:St),decR s=some (rdC s)→(rdC s).l=[]→(∃b:Nat,st[b]?=some (Blk.ro true []))→deQ s (.tuple [.agg [.str (rdC s).k,.str (rdC s).g,.nilSlice,.int .i64 (rdC s).f,.int .i64 (rdC s).u,.bool (rdC s).ca],.int .i64 0]) st:=fun st h1 h2 h3=>by
  have e1:outD s=(.tuple [.agg [.str (rdC s).k,.str (rdC s).g,.nilSlice,.int .i64 (rdC s).f,.int .i64 (rdC s).u,.bool (rdC s).ca],.int .i64 0],[]):=by unfold outD;rw[h1];simp only[h2]
  refine⟨?_,fun _ _=>h3⟩;rw[e1];exact⟨[],[.tuple [.agg [.str (rdC s).k,.str (rdC s).g,.nilSlice,.int .i64 (rdC s).f,.int .i64 (rdC s).u,.bool (rdC s).ca],.int .i64 0]],rfl,rfl,FitsM.of trivial,by simp,fun i hi=>by omega⟩
 have okn:∀(st:St) (b m:Nat),decR s=some (rdC s)→(rdC s).l.length=m+1→st[b]?=some (.row (strs (rdC s).l) 9 1)→deQ s (.tuple [.agg [.str (rdC s).k,.str (rdC s).g,.slice b 0 (m+1) false 0 0,.int .i64 (rdC s).f,.int .i64 (rdC s).u,.bool (rdC s).ca],.int .i64 0]) st:=fun st b m h1 h2 h3=>by
  cases hl:(rdC s).l with
  |nil=>rw[hl]at h2;cases h2
  |cons a r=>
   have e1:outD s=(.tuple [.agg [.str (rdC s).k,.str (rdC s).g,.slice 0 0 (a::r).length false 0 0,.int .i64 (rdC s).f,.int .i64 (rdC s).u,.bool (rdC s).ca],.int .i64 0],[.row (strs (a::r)) 9 1]):=by unfold outD;rw[h1];simp only[hl]
   refine⟨?_,fun _ h=>by rw[e1]at h;cases h⟩;rw[e1,←h2,hl];rw[hl]at h3;exact⟨[b],[.tuple [.agg [.str (rdC s).k,.str (rdC s).g,.slice b 0 (a::r).length false 0 0,.int .i64 (rdC s).f,.int .i64 (rdC s).u,.bool (rdC s).ca],.int .i64 0]],rfl,rfl,FitsM.of ⟨.inr ⟨_,.inl (by simp only[renB,gX]),h3⟩,trivial⟩,by simp,fun i hi=>by omega⟩
 have nil_gk:ivOK .nilSlice []=true:=rfl;have nil_ek:ecOK .nilSlice []=true:=rfl;have nil_eE:(rdC s).l=[]→ecE (rdC s).k (rdC s).g .nilSlice (rdC s).f (rdC s).u (rdC s).ca []=encE (rdC s).k (rdC s).g (rdC s).l (rdC s).f (rdC s).u (rdC s).ca:=fun h=>by rw[h];rfl
 have nil_eB:(rdC s).l=[]→ecB (rdC s).k (rdC s).g .nilSlice (rdC s).f (rdC s).u (rdC s).ca []=encB (rdC s).k (rdC s).g (rdC s).l (rdC s).f (rdC s).u (rdC s).ca:=fun h=>by rw[h];rfl
 -- where no name is told
 have nilEnd:(rdC s).l=[]→(bif ecE (av (vX (allI (av s)) 0)) (vX (allI (av s)) 1) .nilSlice (aW (vX (allI (av s)) 3)) (aW (vX (allI (av s)) 4)) (vX (allI (av s)) 5==[255]) []!=0 then deQ s (V.tuple [V.agg [V.str [],V.str [],V.nilSlice,V.int i64 0,V.int i64 0,V.bool false],V.int i64 4]) [Blk.ro true []]
   else bif !ecB (av (vX (allI (av s)) 0)) (vX (allI (av s)) 1) .nilSlice (aW (vX (allI (av s)) 3)) (aW (vX (allI (av s)) 4)) (vX (allI (av s)) 5==[255]) []==s then deQ s (V.tuple [V.agg [V.str [],V.str [],V.nilSlice,V.int i64 0,V.int i64 0,V.bool false],V.int i64 4]) [Blk.ro true []]
   else deQ s (V.tuple [V.agg [V.str (av (vX (allI (av s)) 0)),V.str (vX (allI (av s)) 1),V.nilSlice,V.int i64 (aW (vX (allI (av s)) 3)),V.int i64 (aW (vX (allI (av s)) 4)),V.bool (vX (allI (av s)) 5==[255])],V.int i64 0]) [Blk.ro true []]):=fun hl=>by
  refine ac (fun h=>bad _ (.inl ?_)) (fun h=>ac (fun h1=>bad _ (.inr ?_)) (fun h1=>oke _ (good ?_ ?_) hl ⟨0,rfl⟩))
  ·rw[←nil_eE hl];have h:(ecE (rdC s).k (rdC s).g .nilSlice (rdC s).f (rdC s).u (rdC s).ca []!=0)=true:=h;simpa using h
  ·rw[←nil_eB hl];have h1:(!ecB (rdC s).k (rdC s).g .nilSlice (rdC s).f (rdC s).u (rdC s).ca []==s)=true:=h1;simpa using h1
  ·rw[←nil_eE hl];have h:(ecE (rdC s).k (rdC s).g .nilSlice (rdC s).f (rdC s).u (rdC s).ca []!=0)=false:=h;simpa using h
  ·rw[←nil_eB hl];have h1:(!ecB (rdC s).k (rdC s).g .nilSlice (rdC s).f (rdC s).u (rdC s).ca []==s)=false:=h1;simpa using h1
 have names_nil:∀{y:List UInt8},(allN y).beq 0=true→allI y=[]:=fun h=>List.length_eq_zero_iff.1 (aP h);refine ac (fun hn=>?_) (fun hn=>?_)
 ·have hL:=names_nil hn;have vx:∀k,ivX .nilSlice k []=vX (allI (av s)) k:=fun k=>by rw[hL];rfl
  have e2:allI (vX (allI (av s)) 2)=[]:=by rw[hL];rfl
  have hl:(rdC s).l=[]:=by unfold rdC;simp only;rw[e2];rfl
  have hz:(allN (vX (allI (av s)) 2)).beq 0=true:=by unfold allN;rw[e2];rfl
  refine ac (fun h=>four _ (none_of (.inl (by simpa using h)))) (fun h=>ac (fun h2=>four _ (none_of (.inr (by simpa using h2)))) (fun h2=>?_));simp only[nil_gk,vx,ov,hz,nil_ek,bv,ae];exact nilEnd hl
 ·have cs:∀k y,aF k (allC y)=aB (allI y):=fun k y=>iu k _;have sm:=fX (av s);have view:rf [Blk.ro false (aB (allI (av s)))] (V.slice 0 0 (allN (av s)) false 0 0)=some (true,allI (av s)):=by
   unfold rf allN;simp only[cQ,ce,List.drop_zero];rw[cz (by rw[eQ];exact Nat.le_refl _),oz,cP,a9,ag (by rw[eQ];omega)];rfl
  have gk:ivOK (V.slice 0 0 (allN (av s)) false 0 0) [Blk.ro false (aB (allI (av s)))]=true:=by
   unfold ivOK;rw[view];show(true&&(Nat.ble (allI (av s)).length 9223372036854775807&&(aM (aB (allI (av s)))&&true)))=true;rw[fB,ag (by omega)];rfl
  have vx:∀k,ivX (V.slice 0 0 (allN (av s)) false 0 0) k [Blk.ro false (aB (allI (av s)))]=vX (allI (av s)) k:=fun k=>by unfold ivX;rw[view]
  refine ac (fun h=>four _ (none_of (.inl (by simpa using h)))) (fun h=>ac (fun h2=>four _ (none_of (.inr (by simpa using h2)))) (fun h2=>?_));simp only[cs,gk,vx,ov,nil_ek,bv,aH,ae];refine ac (fun hz=>?_) (fun hz=>?_)
  ·have hl:(rdC s).l=[]:=by unfold rdC;simp only;rw[names_nil hz];rfl
   exact nilEnd hl
  ·have sm2:=fX (vX (allI (av s)) 2);refine⟨⟨[0,2,4,5],[.str s,.ptr 0 0,.int .i64 0,.slice 2 0 (allN (av s)) false 0 0,.slice 4 0 (allN (vX (allI (av s)) 2)) false 0 0,.ptr 5 0,.int .i64 0],rfl,rfl,FitsM.of ⟨.inr ⟨_,.inl rfl,rfl⟩,.inr ⟨_,.inl (by simp only[renB,fq]),rfl⟩,.inr ⟨_,.inl (by simp only[renB,fq]),rfl⟩,.inr ⟨_,.inl rfl,rfl⟩,trivial⟩,by decide,fun i hi=>by omega⟩,aa ?_ ⟨fun h0=>?_,fun m hm j=>?_⟩⟩
   ·unfold jJ;simp only[ad];exact⟨fB _,okLs_mk sm2,ag (Nat.zero_le _)⟩
   ·rw[h0]at hz;cases hz
   ·have nms:inS (aB (allI (vX (allI (av s)) 2)))=strs (rdC s).l:=by unfold inS;rw[cP];rfl
    have hlen:(rdC s).l.length=m+1:=by rw[←hm];show List.length (List.map _ _)=_;rw[cg];rfl
    rw[nms];have okl:(rdC s).l.all az=true:=by
     rw[List.all_eq_true];intro z hz;obtain⟨y,hy,rfl⟩:=List.mem_map.1 hz;have h2:=vX_len (s:=av s) (by omega) 2;have:=item_len (s:=vX (allI (av s)) 2) (by omega) y hy;exact am (by omega)
    have views:∀(st:St),st[4]?=some (.row (strs (rdC s).l) 9 1)→bC st (.slice 4 0 (m+1) false 0 0)=some (true,(rdC s).l):=fun st h4=>by
     rw[←hlen];exact rdw_view h4
    have ek:∀(st:St),st[4]?=some (.row (strs (rdC s).l) 9 1)→ecOK (.slice 4 0 (m+1) false 0 0) st=true:=fun st h4=>by
     unfold ecOK;rw[views st h4];show(true&&(Nat.ble (rdC s).l.length 9223372036854775807&&(rdC s).l.all az))=true;have:(rdC s).l.length≤64:=by rw[hlen,←hm];exact sm2
     rw[okl,ag (by omega)];rfl
    have eE:∀(st:St),st[4]?=some (.row (strs (rdC s).l) 9 1)→ecE (rdC s).k (rdC s).g (.slice 4 0 (m+1) false 0 0) (rdC s).f (rdC s).u (rdC s).ca st=encE (rdC s).k (rdC s).g (rdC s).l (rdC s).f (rdC s).u (rdC s).ca:=fun st h4=>by
     unfold ecE;rw[views st h4]
    have eB:∀(st:St),st[4]?=some (.row (strs (rdC s).l) 9 1)→ecB (rdC s).k (rdC s).g (.slice 4 0 (m+1) false 0 0) (rdC s).f (rdC s).u (rdC s).ca st=encB (rdC s).k (rdC s).g (rdC s).l (rdC s).f (rdC s).u (rdC s).ca:=fun st h4=>by
     unfold ecB;rw[views st h4]
    refine aa (ek _ rfl) (ac (fun h=>bad _ (.inl ?_)) (fun h=>ac (fun h1=>bad _ (.inr ?_)) (fun h1=>okn _ 4 m (good ?_ ?_) hlen rfl)))
    ·have h:(ecE (rdC s).k (rdC s).g (.slice 4 0 (m+1) false 0 0) (rdC s).f (rdC s).u (rdC s).ca _ !=0)=true:=h;rw[eE _ rfl]at h;simpa using h
    ·have h1:(!ecB (rdC s).k (rdC s).g (.slice 4 0 (m+1) false 0 0) (rdC s).f (rdC s).u (rdC s).ca _==s)=true:=h1;rw[eB _ rfl]at h1;simpa using h1
    ·have h:(ecE (rdC s).k (rdC s).g (.slice 4 0 (m+1) false 0 0) (rdC s).f (rdC s).u (rdC s).ca _ !=0)=false:=h;rw[eE _ rfl]at h;simpa using h
    ·have h1:(!ecB (rdC s).k (rdC s).g (.slice 4 0 (m+1) false 0 0) (rdC s).f (rdC s).u (rdC s).ca _==s)=false:=h1;rw[eB _ rfl]at h1;simpa using h1
theorem decN_gen{g:FuncId}{s:List UInt8}(H:FnSat Qq g [.str s] [] (fun u st=>deQ s u (visF u st)))(o:V×St)(ho:aL [(Nat.blt 512 s.length,(.tuple [iN,.int .i64 40],[])),(decE s !=0,(.tuple [iN,.int .i64 4],[])),(true,outN s)]=some o):FnSat Qq g [.str s] [] (Is o):=by
 have H1:FnSat Qq g [.str s] [] (Is (outD s)):=FnSat.fits (H.mono fun u st hq=>sC (rP s) hq.1);have big:Nat.blt 512 s.length=decide ((s.length:Int)>512):=by
  cases hq:decide ((s.length:Int)>512)with
  |true=>have:=aN hq;exact ag (by omega)
  |false=>
   have:=bk hq;cases hb:Nat.blt 512 s.length with
   |false=>rfl
   |true=>have:=aw hb;omega
 have none_e:∀e,decE s=e→e≠0→outD s=(.tuple [iN,.int .i64 e],[]):=fun e h he=>by
  cases hd:decR s with
  |none=>unfold outD;rw[hd,h]
  |some c=>exact absurd (h.symm.trans ((j4 s).2 ⟨c,hd⟩)) he
 cases hb:Nat.blt 512 s.length with
 |true=>
  rw[hb]at ho;cases ho;have he:decE s=40:=by unfold decE;rw[←big,hb];rfl
  rw[←none_e 40 he (by omega)];exact H1
 |false=>
 rw[hb]at ho;cases he:(decE s !=0)with
 |true=>
  rw[he]at ho;cases ho;have h4:decE s=4:=by
   unfold decE at he ⊢;rw[←big,hb,ak]at he ⊢;cases hc:decC s with
   |none=>rfl
   |some _=>rw[hc]at he;cases he
  rw[←none_e 4 h4 (by omega)];exact H1
 |false=>
  rw[he]at ho;cases ho;have hE:decE s=0:=by simpa using he
  obtain⟨c,hc⟩:=(j4 s).1 hE;have hdc:dCd s=c:=by unfold dCd;rw[hc];rfl
  cases hn:Nat.beq (dN s) 0 with
  |true=>
   have h0:dL s=[]:=List.eq_nil_of_length_eq_zero (aP hn);have hd:dN s=0:=aP hn;have hcl:c.l=[]:=by have:=h0;unfold dL at this;rw[hdc]at this;exact this
   have eo:outD s=(.tuple [.agg [.str (dK s),.str (dG s),.nilSlice,.int .i64 (dF s),.int .i64 (dU s),.bool (dCa s)],.int .i64 0],[]):=by
    unfold outD dK dG dF dU dCa;rw[hdc,hc];simp only[hcl]
   intro B W0 m w rargs ha hr;refine(H B W0 m w rargs ha hr).mono ?_;rintro e w' ⟨u,x,m1,s1,rfl,_,h2,h3,hq⟩;obtain⟨b,hb⟩:=hq.2 hE (by rw[eo]);obtain⟨e1,hole,hrel⟩:=visF_rel h3 hb;have hm:m=[]:=List.eq_nil_of_length_eq_zero hr.len;subst hm;obtain⟨σ,us,k1,k2,_⟩:=hq.1;rw[eo]at k2;simp only[renL,renV,af]at k2;subst k2;simp only[List.map_cons,List.map_nil,List.cons.injEq,af,and_true]at k1;subst k1;refine⟨(outN s).1,x,[e1],(outN s).2,rfl,fun i e hi=>by simp at hi,?_,by unfold outN;rw[h0];exact hrel,rfl⟩;unfold outN;rw[hd];refine mb (fun y hy=>?_) h2;simp only[real,af]at hy;subst hy;simp[real,at?,hole]
  |false=>
   have hne:dL s≠[]:=fun e=>by unfold dN at hn;rw[e]at hn;cases hn
   obtain⟨a,r,har⟩:∃a r,c.l=a::r:=by
    cases hl:c.l with
    |nil=>exact absurd (by unfold dL;rw[hdc];exact hl) hne
    |cons a r=>exact⟨a,r,rfl⟩
   have eo:outD s=(.tuple [.agg [.str (dK s),.str (dG s),.slice 0 0 (dN s) false 0 0,.int .i64 (dF s),.int .i64 (dU s),.bool (dCa s)],.int .i64 0],[.row (strs (dL s)) 9 1]):=by
    unfold outD dN dK dG dF dU dCa dL;rw[hdc,hc];simp only[har]
   rw[eo]at H1;refine pb H1 fun B W0 w m x hr hx=>?_;refine⟨m,ro_rel hr,mb (fun y hy=>?_) hx⟩;obtain⟨e,cap,g1,g2,g3,rfl⟩:=bV hy;have hd:dN s≠0:=fun h0=>by rw[h0]at hn;cases hn
   simp only[Bool.false_eq_true,if_false,Nat.sub_zero]at g2;subst g2;have hc:(if e.cap=0 then 0 else 0)=0:=by split<;>rfl
   simp only[real,g1,if_neg hd,if_pos g3,hc,Nat.add_zero]
def rdecT:List V→Option (Qx)
 |[.str s]=>some [(az s&&Nat.blt 512 s.length,(.tuple [iN,.int .i64 40],[])),(az s&&decE s !=0,(.tuple [iN,.int .i64 4],[])),(az s,outN s)]
 |_=>none
theorem rdec_ok(args:List V)(l:Qx)(o:V×St)(h:rdecT args=some l)(ho:aL l=some o):FnSat Qq 41 args [] (Is o):=by
 unfold rdecT at h;split at h
 ·rename_i s;cases h;cases hk:az s with
  |false=>rw[hk]at ho;simp[aL]at ho
  |true=>
  rw[hk,aH,aH]at ho;exact decN_gen (dX aA RF1_ok (rde_all s hk)) o ho
 ·cases h
def RG0:Tab:=⟨addT (addP noT 144 mj) 192 sumT,noL,aT 9⟩
theorem RG0_ok:TabOk3 Qq RG0:=⟨aR (bg aJ po) rsum_ok,aK,au 9⟩
theorem rdg_tree(k:List UInt8)(R:V→Prop):runW Qq RG0 9 10 155 [.str k] R=
  (
 bif cy k==[]then R (.str [])else bif okL (cy k)then R (.str (sumF (cy k)))else False):=by kernel_rfl
theorem rdates_tree(k g:List UInt8)(x:Value)(n:Nat)(cs:List V)(f u:Int)(ca:Bool)(now:Int)(R:V→Prop):runW Qq RG0 9 10 45 [.agg [.str k,.str g,.lst x n cs,.int .i64 f,.int .i64 u,.bool ca],.int .i64 now] R=
  (
 bif decide (now≥f)then R (.bool (decide (now≤u)))else R (.bool false)):=by kernel_rfl
def RG1:Tab:=⟨addT (addT (addT noT 93 rmatT) 94 rparT) 95 rlabsT,noL,aT 9⟩
theorem RG1_ok:TabOk3 Qq RG1:=⟨aR (aR (aR aJ rmat_ok) rpar_ok) rlabs_ok,aK,au 9⟩
def zO_0(k g:List UInt8)(x:Value)(n:Nat)(cs:List V)(f u:Int)(ca:Bool):=[V.str k,V.str g,V.lst x n cs,V.int i64 f,V.int i64 u,V.bool ca]
def zO_1(h:List UInt8)(i:Int):=[some (V.str h),some (V.ptr 0 0),some (V.bool false),some (V.int i64 (i64.wrap (i+1)))]
theorem rh_round(k g:List UInt8)(x:Value)(n:Nat)(cs:List V)(f u:Int)(ca:Bool)(h:List UInt8)(i:Int)(R:Qz):al Qq RG1 9 10 (ah 9) 46 26 [1,2,4,5] [.str h,.ptr 0 0,.bool false,.int .i64 i] [.row [.str k,.str g,.lst x n cs,.int .i64 f,.int .i64 u,.bool ca] 31 6] R=
 (
 bif decide (i<(↑n:Int))then bif decide (0≤i)&&decide (i<(↑n:Int))then bif (i.toNat*1).blt cs.length then bif ar (cs.getD (i.toNat*1)
 (.bool false))then bif az (ab (cs.getD (i.toNat*1) (.bool false)))&&az h then bif !gn (ab (cs.getD (i.toNat*1) (.bool false))) h then
 R .normal (zO_1 h i) [.row (zO_0 k g x n cs f u ca) 31 6]else bif true&&Nat.blt 0 (ab (cs.getD (i.toNat*1) (.bool false))).length then bif
 (↑((ab (cs.getD (i.toNat*1) (.bool false))).getD 0 0).toNat:Int)!=42 then R .ret [some (.str h),some (.ptr 0 0),some (.bool true),some
 (.int i64 i)] [.row (zO_0 k g x n cs f u ca) 31 6]else bif az h then bif az (bif parB h then cutR h else[])&&mayN (bif parB h then cutR h
 else[])then bif decide ((↑(lsN (bif parB h then cutR h else[]) []):Int)≥2)then R .ret [some (.str h),some (.ptr 0 0),some (.bool true),some
 (.int i64 i)] [.row (zO_0 k g x n cs f u ca) 31 6,.row (aF 1 (lsC (bif parB h then cutR h else[]) [])) 9 1]else R .normal (zO_1 h i)
 [.row (zO_0 k g x n cs f u ca) 31 6,.row (aF 1 (lsC (bif parB h then cutR h else[]) [])) 9 1]else bif az (bif parB h then cutR h else[])&&
 !mayN (bif parB h then cutR h else[])then R .normal (zO_1 h i) [.row (zO_0 k g x n cs f u ca) 31 6]else False else False else False else False else
 False else False else False else R (.exit 0) [some (.str h),some (.ptr 0 0),some (.bool false),some (.int i64 i)] [.row (zO_0 k g x n cs f
 u ca) 31 6]):=by kernel_rfl
theorem rdg_ok(args:List V)(v:V)(h:digP args=some v):FnSat Qq 155 args [] (Is (v,[])):=by
 unfold digP at h;split at h
 ·rename_i k;cases h;refine ax (lim:=9) (n:=10) aA RG0_ok rfl rfl ?_;rw[rdg_tree];unfold digB;refine ac (fun h=>?_) (fun h=>?_)
  ·rw[h];rfl
  ·rw[h];have hk:okL (cy k)=true:=by
    refine am ?_;unfold cy;split
    ·simp
    ·split
     ·simp
     ·have h1:=cj 4 k;have h2:=cj 48 (putB 4 k);omega
   rw[hk];rfl
 ·cases h
theorem rdates_sat(k g:List UInt8)(x:Value)(n:Nat)(cs:List V)(f u:Int)(ca:Bool)(now:Int):
  FnSat Qq 45 [.agg [.str k,.str g,.lst x n cs,.int .i64 f,.int .i64 u,.bool ca],.int .i64 now] [] (Is (.bool (aS f u now),[])):=by
 refine ax (lim:=9) (n:=10) aA RG0_ok rfl rfl ?_;rw[rdates_tree];unfold aS;show bif decide (f≤now)then _ else _
 cases decide (f≤now)<;>rfl
theorem lD(args:List V)(s:St)(l:Qx)(o:V×St)(h:iJ args s=some l)(ho:aL l=some o):FnSat Qq 45 args s (Is o):=by
 unfold iJ at h;split at h
 ·rename_i k g p f u ca now;split at h
  ·rename_i b ls hv;cases h;obtain⟨rfl,rfl⟩:=aO ho;refine cx rfl fun B W0 w m rargs hr ha=>?_;obtain⟨a,r,q1,q2,rfl⟩:=aj ha;obtain⟨y,hy⟩:=o3 hr hv q1;have q3:=bw (Ψ:=Frz.of w) (m':=[]) _ _ rfl q2;exact⟨[.agg [.str k,.str g,lstS y ls,.int .i64 f,.int .i64 u,.bool ca],.int .i64 now],@aI _ (Frz.of w) [] _ _ _ _ hy q3,@rdates_sat (Frz.of w) k g y _ _ f u ca now⟩
  ·cases h
 ·cases h
theorem may_first{s:List UInt8}(h:mayN s=true):0<s.length∧((s.getD 0 0).toNat:Int)≠42:=by
 rw[mayN_all,ad,ad]at h;obtain⟨q,hq,_⟩:=qf s;have h1:=h.2.1;rw[hq,List.all_cons,ad]at h1;have h2:=h1.1;unfold cG at h2;rw[ad,ad,ad,ad]at h2;have h3:=aN h2.1;have h4:=h2.2.2.2.2;unfold cutB at h3 h4;cases s with
 |nil=>simp[cutA]at h3
 |cons c r=>
  by_cases hc:c=46
  ·subst hc;simp[cutA]at h3
  ·refine⟨by simp,fun e=>?_⟩;have e:(c.toNat:Int)=42:=e;have e:c.toNat=42:=by omega
   rw[cutA,if_neg hc]at h4;unfold dI at h4;rw[List.all_cons,ad]at h4;have h5:=h4.1;unfold eh at h5;rw[if_neg (by omega),if_neg (by omega)]at h5;cases h5
theorem pat_first{s:List UInt8}(h:patN s=true):0<s.length∧((((s.getD 0 0).toNat:Int)!=42)=!eY s):=by
 unfold patN at h;rw[sR]at h;cases hs:eY s with
 |true=>
  have h1:s.take 2=[42,46]:=by unfold eY at hs;exact eq_of_beq hs
  cases s with
  |nil=>simp at h1
  |cons c r=>
   have h2:c=42:=by
    have:=congrArg (fun l=>l.head?) h1;simpa using this
   subst h2;exact⟨by simp,rfl⟩
 |false=>
  rw[hs,ak]at h;obtain⟨h1,h2⟩:=may_first h;refine⟨h1,?_⟩;show(((s.getD 0 0).toNat:Int)!=42)=true;rw[bne_iff_ne];exact h2
structure RH where
 k:List UInt8
 g:List UInt8
 x:Value
 n:Nat
 cs:List V
 f:Int
 u:Int
 ca:Bool
 h:List UInt8
 i:Nat
def rhV(y:RH):List V:=[.str y.h,.ptr 0 0,.bool false,.int .i64 y.i]
def rhJ(y:RH):St:=[.row [.str y.k,.str y.g,.lst y.x y.n y.cs,.int .i64 y.f,.int .i64 y.u,.bool y.ca] 31 6]
def iK(cs:List V):Bool:=(cs.map ab).all az
def mw(y:RH):Bool:=(okS y.n y.cs&&(iK y.cs&&az y.h))&&Nat.ble y.i y.n
def rhMu(y:RH):Nat:=y.n-y.i
def tx(h:List UInt8)(b:Bool)(n:Nat)(K:Exit→List V→St→Prop):Prop:=
 bif b then ∀i:Nat,K .ret [.str h,.ptr 0 0,.bool true,.int .i64 i] [.dead]else K (.exit 0) [.str h,.ptr 0 0,.bool false,.int .i64 n] [.dead]
def rhOut:Asks RH:=fun y K=>tx y.h (anyH (y.cs.drop y.i) y.h) y.n K
def rhDec:List (Option V)→St→Option RH
 |[some (.str h),some (.ptr 0 0),some (.bool false),some (.int .i64 0)],.row [.str k,.str g,.lst x n cs,.int .i64 f,.int .i64 u,.bool ca] _ _::_=>some ⟨k,g,x,n,cs,f,u,ca,h,0⟩
 |_,_=>none
theorem rh_fits(k g:List UInt8)(x:Value)(n:Nat)(cs:List V)(f u:Int)(ca b:Bool)(h:List UInt8)(i:Int)(r:St):Fits 0 [.str h,.ptr 0 0,.bool b,.int .i64 i] [.row [.str k,.str g,.lst x n cs,.int .i64 f,.int .i64 u,.bool ca] 31 6] [some (.str h),some (.ptr 0 0),some (.bool b),some (.int .i64 i)] (.row [.str k,.str g,.lst x n cs,.int .i64 f,.int .i64 u,.bool ca] 31 6::r):=
 ⟨[0],[.str h,.ptr 0 0,.bool b,.int .i64 i],rfl,rfl,FitsM.of ⟨.inr ⟨_,.inl rfl,rfl⟩,trivial⟩,by decide,fun i hi=>by omega⟩
theorem rh_out(b:Bool)(h:List UInt8)(i:Int)(c:Blk)(r:St):Fits 0 [.str h,.ptr 0 0,.bool b,.int .i64 i] [.dead] [some (.str h),some (.ptr 0 0),some (.bool b),some (.int .i64 i)] (c::r):=
 ⟨[0],[.str h,.ptr 0 0,.bool b,.int .i64 i],rfl,rfl,FitsM.of ⟨.inl rfl,trivial⟩,by decide,fun i hi=>by omega⟩
theorem rh_roundOk(y:RH)(hx:mw y=true):al Qq RG1 9 10 (ah 9) 46 26 [1,2,4,5] (rhV y) (rhJ y) (aD 0 mw rhV rhJ rhMu rhOut y):=by
 obtain⟨k,g,x,n,cs,f,u,ca,h,i⟩:=y;unfold mw at hx;have hx0:=hx;rw[ad,ad,ad]at hx;have p1:i≤n:=aw hx.2;have hx1:okS n cs=true:=hx.1.1;have hx2:iK cs=true:=hx.1.2.1;have hx3:az h=true:=hx.1.2.2;obtain⟨l,rfl,rfl,p2,p3⟩:=cn hx1;show al Qq RG1 9 10 (ah 9) 46 26 [1,2,4,5] [.str h,.ptr 0 0,.bool false,.int .i64 i] [.row [.str k,.str g,.lst x l.length (strs l),.int .i64 f,.int .i64 u,.bool ca] 31 6] _;rw[rh_round];unfold zO_1 zO_0;have hl:l.all az=true:=by unfold iK at hx2;rw[ai]at hx2;exact hx2
 have ha:∀j,anyH ((strs l).drop j) h=(l.drop j).any fun s=>eZ s h:=fun j=>by
  unfold anyH;rw[List.map_drop,ai]
 have out:∀K,rhOut ⟨k,g,x,l.length,strs l,f,u,ca,h,i⟩ K→tx h ((l.drop i).any fun s=>eZ s h) l.length K:=fun K hK=>by
  have hK:tx h (anyH ((strs l).drop i) h) l.length K:=hK;rw[ha]at hK;exact hK
 cases hd:l.drop i with
 |nil=>
  have hi:=bY hd p1;rw[bH (show ¬((i:Int)<(l.length:Int)) by omega),ak];refine⟨_,_,fun K hK=>?_,rh_out false h i _ _⟩;have hK:=out K hK;rw[hd]at hK;rw[hi];exact hK
 |cons c r=>
  obtain⟨e1,e2,e3⟩:=bn hd;obtain⟨e4,e5⟩:=fY hd;have q1:decide ((i:Int)<(l.length:Int))=true:=am (by omega);have q2:decide ((0:Int)≤(i:Int))=true:=am (by omega);have hcl:az c=true:=List.all_eq_true.1 hl c (List.mem_of_mem_drop (by rw[hd];exact List.mem_cons_self));rw[q1,q2];simp only[bp,e4,e5,ar,ab,ae,Bool.and_true,aH,hcl,hx3,show i64.wrap ((i:Int)+1)=((i+1:Nat):Int) by rw[IntWalk.i64_in _ ⟨by omega,by omega⟩];omega];have yes:eZ c h=true→∀st:St,aD 0 mw rhV rhJ rhMu rhOut ⟨k,g,x,l.length,strs l,f,u,ca,h,i⟩ .ret [some (.str h),some (.ptr 0 0),some (.bool true),some (.int .i64 i)] (.row [.str k,.str g,.lst x l.length (strs l),.int .i64 f,.int .i64 u,.bool ca] 31 6::st):=fun hc st=>by
   refine⟨_,_,fun K hK=>?_,rh_out true h i _ _⟩;have hK:=out K hK;rw[hd,List.any_cons,hc]at hK;exact hK i
  have no:eZ c h=false→∀st:St,aD 0 mw rhV rhJ rhMu rhOut ⟨k,g,x,l.length,strs l,f,u,ca,h,i⟩ .normal [some (.str h),some (.ptr 0 0),some (.bool false),some (.int .i64 ((i+1:Nat):Int))] (.row [.str k,.str g,.lst x l.length (strs l),.int .i64 f,.int .i64 u,.bool ca] 31 6::st):=fun hc st=>by
   refine⟨⟨k,g,x,l.length,strs l,f,u,ca,h,i+1⟩,?_,rh_fits k g x _ _ f u ca false h _ st,by simp only[rhMu];omega,fun K hK=>?_⟩
   ·unfold mw;rw[ad,ad,ad];exact⟨hx.1,ag (show i+1≤l.length by omega)⟩
   ·have hK:=out K hK;show tx h (anyH ((strs l).drop (i+1)) h) l.length K;rw[ha,e2];rw[hd,List.any_cons,hc,Bool.false_or]at hK;exact hK
  cases hm:gn c h with
  |false=>exact no (by unfold eZ;rw[hm];rfl) []
  |true=>
   have hm2:=hm;unfold gn at hm2;rw[ad,ad]at hm2;obtain⟨f1,f2⟩:=pat_first hm2.1;rw[Bool.not_true,ak];refine aa (ag f1) ?_;rw[f2];cases hs:eY c with
   |false=>exact yes (by unfold eZ;rw[hm,hs];rfl) []
   |true=>
    rw[hs,ae,ad]at hm2;have hr:cutR h=cV c:=eq_of_beq hm2.2.2.2;have hpm:mayN (cV c)=true:=hm2.1;have hlm:az (cV c)=true:=lI hcl;rw[Bool.not_true,ak,hm2.2.2.1,ae,hr,hpm,hlm,bv,ae];refine ac (fun hg=>?_) (fun hg=>?_)
    ·refine yes ?_ _;have:=aN hg;unfold eZ;rw[hm,hs,am (by omega:(lsN (cV c) []:Int)>1)];rfl
    ·refine no ?_ _;have:=bk hg;unfold eZ;rw[hm,hs,bH (by omega:¬(lsN (cV c) []:Int)>1)];rfl
def lkRH:Nat→Trans→Trans:=ba 26 (bK 0 (szOf Qq 46) [1,2,4,5] rhDec mw rhV rhJ rhOut) (ah 9)
theorem lkRH_ok:aQ Qq 0 lkRH 46:=by
 unfold lkRH;exact bB (aY 9 0 46) (by kernel_rfl) fun f st Q h=>bc (P:=Qq) (T:=RG1) (k:=0) (lim:=9) (n:=10) (g:=46) (p0:=26) (lk:=ah 9) aA RG1_ok (bf 9 _ _) rhMu rh_roundOk h
def RG2:Tab:=⟨noT,noL,cI (aT 9) 46 0 lkRH⟩
theorem RG2_ok:TabOk3 Qq RG2:=⟨aJ,aK,bq (au 9) lkRH_ok⟩
theorem rhost_tree(k g:List UInt8)(x:Value)(n:Nat)(cs:List V)(f u:Int)(ca:Bool)(h:List UInt8)(R:V→Prop):runW Qq RG2 9 10 46 [.agg [.str k,.str g,.lst x n cs,.int .i64 f,.int .i64 u,.bool ca],.str h] R=
  (
 Fits 0 [.str h,.ptr 0 0,.bool false,.int i64 0] [.row [.str k,.str g,.lst x n cs,.int i64 f,.int i64 u,.bool ca] 31 6] [some
 (.str h),some (.ptr 0 0),some (.bool false),some (.int i64 0)] [.row [.str k,.str g,.lst x n cs,.int i64 f,.int i64 u,.bool
 ca] 31 6]∧bif mw {k:=k,g:=g,x:=x,n:=n,cs:=cs,f:=f,u:=u,ca:=ca,h:=h,i:=0}then bif anyH cs h then ∀(i:Nat),R (.bool true)else R
 (.bool false)else False):=by kernel_rfl
theorem rhost_sat(k g:List UInt8)(x:Value)(l:List (List UInt8))(f u:Int)(ca:Bool)(h:List UInt8)(hl:l.length≤9223372036854775807)(hk:(l.all az&&az h)=true):
  FnSat Qq 46 [.agg [.str k,.str g,lstS x l,.int .i64 f,.int .i64 u,.bool ca],.str h] [] (Is (.bool (hasH l h),[])):=by
 refine ax (lim:=9) (n:=10) aA RG2_ok rfl rfl ?_;unfold lstS;rw[rhost_tree];have ha:anyH (strs l) h=l.any fun s=>eZ s h:=by unfold anyH;rw[ai]
 rw[ha];refine⟨rh_fits k g x _ _ f u ca false h 0 [],aa ?_ ?_⟩
 ·unfold mw iK;rw[dH hl,ai,aH,ad];exact⟨hk,ag (Nat.zero_le _)⟩
 show bif l.any (fun s=>eZ s h)then _ else _
 unfold hasH;cases l.any fun s=>eZ s h with
 |false=>rfl
 |true=>intro _;rfl
def tw:List V→St→Option (Qx)
 |[.agg [.str k,.str g,p,.int .i64 f,.int .i64 u,.bool ca],.str h],st=>match bC st p with
  |some (b,l)=>some [(b&&(Nat.ble l.length 9223372036854775807&&(l.all az&&az h)),(.bool (hasH l h),st))]
  |none=>none
 |_,_=>none
theorem rE(args:List V)(s:St)(l:Qx)(o:V×St)(h:tw args s=some l)(ho:aL l=some o):FnSat Qq 46 args s (Is o):=by
 unfold tw at h;split at h
 ·rename_i k g p f u ca hh;split at h
  ·rename_i b ls hv;cases h;obtain⟨hb,rfl⟩:=aO ho;rw[ad,ad]at hb;obtain⟨rfl,h1,h2⟩:=hb;refine cx rfl fun B W0 w m rargs hr ha=>?_;obtain⟨a,r,q1,q2,rfl⟩:=aj ha;obtain⟨y,hy⟩:=o3 hr hv q1;have q3:=bw (Ψ:=Frz.of w) (m':=[]) _ _ rfl q2;exact⟨[.agg [.str k,.str g,lstS y ls,.int .i64 f,.int .i64 u,.bool ca],.str hh],@aI _ (Frz.of w) [] _ _ _ _ hy q3,@rhost_sat (Frz.of w) k g y ls f u ca hh (aw h1) h2⟩
  ·cases h
 ·cases h
theorem add_ro{B:Nat}{W0 w:World}{m:List MB}{st:St}(h:Rel B W0 m st w){i:Nat}{cs:List V}(hi:st[i]?=some (.ro true cs)):∃e,Rel B W0 (m++[e]) (st++[.ro true []]) w:=by
 obtain⟨e,he,hk⟩:=h.at hi;refine⟨e,by simp[h.len],h.base,h.below,fun j b d hb hd=>?_,fun j k b c d f hjk hb hrw hc hl hd hf=>?_,h.glob⟩
 ·rcases Nat.lt_or_ge j st.length with hlt|hge
  ·rw[List.getElem?_append_left hlt]at hb;rw[List.getElem?_append_left (by rw[h.len];exact hlt)]at hd;exact(h.blk j b d hb hd).mono (fun b x hb=>by rw[List.getElem?_append_left (List.getElem?_eq_some_iff.1 hb).1];exact hb)
  ·have hj:j=st.length:=by
    have:=(List.getElem?_eq_some_iff.1 hb).1;simp at this;omega
   subst hj;rw[List.getElem?_append_right (Nat.le_refl _),Nat.sub_self]at hb;rw[List.getElem?_append_right (by rw[h.len];exact Nat.le_refl _),h.len,Nat.sub_self]at hd;simp only[ce,af]at hb hd;subst hb hd;obtain⟨g1,arr,t,fz,g2,_⟩:=hk;exact⟨g1,arr,t,fz,g2,fun i v hv=>by simp at hv⟩
 ·have old:∀{j:Nat} {b:Blk} {d:MB},(st++[Blk.ro true []])[j]?=some b→(m++[e])[j]?=some d→(st[j]?=some b∧m[j]?=some d)∨(j=st.length∧b=.ro true []∧d=e):=by
   intro j b d hb hd;rcases Nat.lt_or_ge j st.length with hlt|hge
   ·rw[List.getElem?_append_left hlt]at hb;rw[List.getElem?_append_left (by rw[h.len];exact hlt)]at hd;exact .inl ⟨hb,hd⟩
   ·have hj:j=st.length:=by
     have:=(List.getElem?_eq_some_iff.1 hb).1;simp at this;omega
    subst hj;rw[List.getElem?_append_right (Nat.le_refl _),Nat.sub_self]at hb;rw[List.getElem?_append_right (by rw[h.len];exact Nat.le_refl _),h.len,Nat.sub_self]at hd;simp only[ce,af]at hb hd;exact .inr ⟨rfl,hb.symm,hd.symm⟩
  rcases old hb hd with⟨h1,h2⟩|⟨_,rfl,_⟩
  ·rcases old hc hf with⟨h3,h4⟩|⟨_,rfl,rfl⟩
   ·exact h.inj j k b c d f hjk h1 hrw h3 hl h2 h4
   ·have hji:j≠i:=fun e1=>by
     subst e1;rw[hi]at h1;cases h1;cases hrw
    exact h.inj j i b _ d f hji h1 hrw hi rfl h2 he
  ·cases hrw
def rdT(l:List (List UInt8)):List V:=match rdN l with
 |2=>rdA (rdG l 1) 2 []
 |3=>rdA (rdG l 1) 2 (rdA (rdG l 2) 3 [])
 |4=>rdA (rdG l 1) 2 (rdA (rdG l 2) 3 (rdA (rdG l 3) 4 []))
 |_=>[]
def nmR(l:List (List UInt8))(i:Nat):List V:=bif Nat.blt i (rdN l)then strs (dL (rdG l i))else[]
def rdU(l:List (List UInt8)):V×St:=(.slice 0 0 (rdN l) false 0 0,[.row (rdA (rdG l 0) 1 (rdT l)) 32 6,.ro true (strs (dL (rdG l 0))),.ro true (nmR l 1),.ro true (nmR l 2),.ro true (nmR l 3)])
def readU:List V→Option (Qx)
 |[.lst _ n cs]=>some [(okS n cs&&Nat.beq (rdN (cs.map ab)) 0,(.nilSlice,[])),(okS n cs,rdU (cs.map ab))]
 |_=>none
theorem fj{P:Program}{g:FuncId}{args:List V}{v:V}{st:St}{i:Nat}{cs:List V}(hi:st[i]?=some (.ro true cs))(h:FnSat P g args [] (Is (v,st))):FnSat P g args [] (Is (v,st++[.ro true []])):=
 pb h fun B W0 w m x hr hx=>by
  obtain⟨e,h2⟩:=add_ro hr hi;exact⟨m++[e],h2,eS (fun b x hb=>by rw[List.getElem?_append_left (List.getElem?_eq_some_iff.1 hb).1];exact hb) v x hx⟩
theorem readU_ok(args:List V)(L:Qx)(o:V×St)(h:readU args=some L)(ho:aL L=some o):FnSat Qq 11 args [] (Is o):=by
 unfold readU at h;split at h
 ·rename_i x n cs;cases h;cases hk:okS n cs with
  |false=>rw[hk]at ho;simp[aL]at ho
  |true=>
  rw[hk,aH]at ho;have get:∀j,rdN (cs.map ab)=j→FnSat Qq 11 [.lst x n cs] [] (Is (rdO (cs.map ab) j)):=by
   intro j hj;refine readT_ok [.lst x n cs] _ _ rfl ?_;have h4:=(cJ (cs.map ab)).1;rw[hk,hj];rw[hj]at h4
   match j,h4 with
   |0,_|1,_|2,_|3,_|4,_=>rfl
  have h4:=(cJ (cs.map ab)).1;rcases(by omega:rdN (cs.map ab)=0∨rdN (cs.map ab)=1∨rdN (cs.map ab)=2∨rdN (cs.map ab)=3∨rdN (cs.map ab)=4)with hj|hj|hj|hj|hj
  ·rw[hj]at ho;cases ho;exact get 0 hj
  ·rw[hj]at ho;cases ho;have:=fj (i:=1) rfl (fj (i:=1) rfl (fj (i:=1) rfl (get 1 hj)));unfold rdU rdT nmR;rw[hj];exact this
  ·rw[hj]at ho;cases ho;have:=fj (i:=1) rfl (fj (i:=1) rfl (get 2 hj));unfold rdU rdT nmR;rw[hj];exact this
  ·rw[hj]at ho;cases ho;have:=fj (i:=1) rfl (get 3 hj);unfold rdU rdT nmR;rw[hj];exact this
  ·rw[hj]at ho;cases ho;have:=get 4 hj;unfold rdU rdT nmR;rw[hj];exact this
 ·cases h
structure RdAt (st:St) (l:List (List UInt8)):Prop where
 b0:st[0]?=some (.row (rdA (rdG l 0) 1 (rdT l)) 32 6)
 b1:st[1]?=some (.ro true (strs (dL (rdG l 0))))
 b2:st[2]?=some (.ro true (nmR l 1))
 b3:st[3]?=some (.ro true (nmR l 2))
 b4:st[4]?=some (.ro true (nmR l 3))
def RR0:Tab:=⟨addT noT 41 rdecT,noL,aT 5⟩
theorem RR0_ok:TabOk3 Qq RR0:=⟨aR aJ rdec_ok,aK,au 5⟩
def elR(cs:List V)(j:Nat):List UInt8:=ab (cs.getD j (V.bool false))
def zQ_0(cs:List V):=[V.str ((dK (elR cs 0))),V.str ((dG (elR cs 0))),V.nos 0 (dN (elR cs 0)),V.int i64 (dF (elR cs 0)),V.int i64 (dU (elR cs 0)),V.bool (dCa (elR cs 0)),V.str ((dK (elR cs 1))),V.str ((dG (elR cs 1))),V.nos 4 (dN (elR cs 1)),V.int i64 (dF (elR cs 1)),V.int i64 (dU (elR cs 1)),V.bool (dCa (elR cs 1)),V.str ((dK (elR cs 2))),V.str ((dG (elR cs 2))),V.nos 8 (dN (elR cs 2)),V.int i64 (dF (elR cs 2)),V.int i64 (dU (elR cs 2)),V.bool (dCa (elR cs 2))]
def zQ_1(cs:List V):=[Blk.ro true (strs (dL (elR cs 0))),Blk.dead,Blk.dead,Blk.dead,Blk.ro true (aF 4 (strs (dL (elR cs 1)))),Blk.dead,Blk.dead,Blk.dead,Blk.ro true (aF 8 (strs (dL (elR cs 2)))),Blk.dead,Blk.dead,Blk.dead,Blk.ro true (aF 12 (strs (dL (elR cs 3)))),Blk.dead,Blk.dead,Blk.row [V.str ((dK (elR cs 0))),V.str ((dG (elR cs 0))),V.nos 0 (dN (elR cs 0)),V.int i64 (dF (elR cs 0)),V.int i64 (dU (elR cs 0)),V.bool (dCa (elR cs 0)),V.str ((dK (elR cs 1))),V.str ((dG (elR cs 1))),V.nos 4 (dN (elR cs 1)),V.int i64 (dF (elR cs 1)),V.int i64 (dU (elR cs 1)),V.bool (dCa (elR cs 1)),V.str ((dK (elR cs 2))),V.str ((dG (elR cs 2))),V.nos 8 (dN (elR cs 2)),V.int i64 (dF (elR cs 2)),V.int i64 (dU (elR cs 2)),V.bool (dCa (elR cs 2)),V.str ((dK (elR cs 3))),V.str ((dG (elR cs 3))),V.nos 12 (dN (elR cs 3)),V.int i64 (dF (elR cs 3)),V.int i64 (dU (elR cs 3)),V.bool (dCa (elR cs 3))] 31 6]
def zQ_2(cs:List V):=[V.str ((dK (elR cs 0))),V.str ((dG (elR cs 0))),V.nos 0 (dN (elR cs 0)),V.int i64 (dF (elR cs 0)),V.int i64 (dU (elR cs 0)),V.bool (dCa (elR cs 0)),V.str ((dK (elR cs 1))),V.str ((dG (elR cs 1))),V.nos 4 (dN (elR cs 1)),V.int i64 (dF (elR cs 1)),V.int i64 (dU (elR cs 1)),V.bool (dCa (elR cs 1))]
def zQ_3(cs:List V):=[V.str ((dK (elR cs 0))),V.str ((dG (elR cs 0))),V.nos 0 (dN (elR cs 0)),V.int i64 (dF (elR cs 0)),V.int i64 (dU (elR cs 0)),V.bool (dCa (elR cs 0))]
def zQ_4(cs:List V):=[Blk.ro true (strs (dL (elR cs 0))),Blk.dead,Blk.dead,Blk.dead,Blk.ro true (aF 4 (strs (dL (elR cs 1)))),Blk.dead,Blk.dead,Blk.dead,Blk.ro true (aF 8 (strs (dL (elR cs 2)))),Blk.dead,Blk.dead,Blk.row (zQ_0 cs) 31 6,Blk.dead]
def zQ_5(cs:List V):=[Blk.ro true (strs (dL (elR cs 0))),Blk.dead,Blk.dead,Blk.dead,Blk.ro true (aF 4 (strs (dL (elR cs 1)))),Blk.dead,Blk.dead,Blk.row (zQ_2 cs) 31 6,Blk.dead]
theorem rchain_tree(x:Value)(n:Nat)(cs:List V)(R:V→St→Prop):runM Qq RR0 5 10 10 [.lst x n cs] (fun v st=>R v (visD v st))=
 (
 bif decide (0<(↑n:Int))then bif true&&decide (0<(↑n:Int))then bif Nat.blt 0 cs.length then bif ar (cs.getD 0 (.bool false))then bif az (elR
 cs 0)&&Nat.blt 512 (elR cs 0).length then R .nilSlice [.dead]else bif az (elR cs 0)&&decE (elR cs 0)!=0 then R .nilSlice [.dead]else bif az
 (elR cs 0)then bif decide (1<(↑n:Int))then bif true&&decide (1<(↑n:Int))then bif Nat.blt 1 cs.length then bif ar (cs.getD 1 (.bool false))then
 bif az (elR cs 1)&&Nat.blt 512 (elR cs 1).length then R (.slice 3 0 1 false 0 0) [.ro true (strs (dL (elR cs 0))),.dead,.dead,.row (zQ_3 cs)
 31 6,.dead]else bif az (elR cs 1)&&decE (elR cs 1)!=0 then R (.slice 3 0 1 false 0 0) [.ro true (strs (dL (elR cs 0))),.dead,.dead,
 .row (zQ_3 cs) 31 6,.dead]else bif az (elR cs 1)then bif decide (2<(↑n:Int))then bif true&&decide (2<(↑n:Int))then bif Nat.blt 2
 cs.length then bif ar (cs.getD 2 (.bool false))then bif az (elR cs 2)&&Nat.blt 512 (elR cs 2).length then R (.slice 7 0 2 false 0 0) (zQ_5 cs)else
 bif az (elR cs 2)&&decE (elR cs 2)!=0 then R (.slice 7 0 2 false 0 0) (zQ_5 cs)else bif az (elR cs 2)then bif decide (3<(↑n:Int))then bif true
 &&decide (3<(↑n:Int))then bif Nat.blt 3 cs.length then bif ar (cs.getD 3 (.bool false))then bif az (elR cs 3)&&Nat.blt 512 (elR cs 3).length
 then R (.slice 11 0 3 false 0 0) (zQ_4 cs)else bif az (elR cs 3)&&decE (elR cs 3)!=0 then R (.slice 11 0 3 false 0 0) (zQ_4 cs)else bif az (elR cs
 3)then bif decide (4<(↑n:Int))then R (.slice 15 0 4 false 0 0) (zQ_1 cs)else R (.slice 15 0 4 false 0 0) (zQ_1 cs)else False else False else False else
 False else R (.slice 11 0 3 false 0 0) [.ro true (strs (dL (elR cs 0))),.dead,.dead,.dead,.ro true (aF 4 (strs (dL (elR cs 1)))),
 .dead,.dead,.dead,.ro true (aF 8 (strs (dL (elR cs 2)))),.dead,.dead,.row (zQ_0 cs) 31 6]else False else False else False else
 False else R (.slice 7 0 2 false 0 0) [.ro true (strs (dL (elR cs 0))),.dead,.dead,.dead,.ro true (aF 4 (strs (dL (elR cs 1)))),
 .dead,.dead,.row (zQ_2 cs) 31 6]else False else False else False else False else R (.slice 3 0 1 false 0 0) [.ro true (strs (dL (elR cs 0))),
 .dead,.dead,.row (zQ_3 cs) 31 6]else False else False else False else False else R .nilSlice []):=by kernel_rfl
def okLL(n:Nat)(cs:List V):Bool:=okS n cs&&iK cs
def rqO(l:List (List UInt8)):Nat→V×St
 |0=>(.nilSlice,[])
 |1=>(.slice 0 0 1 false 0 0,[.row (rdA (rdG l 0) 1 []) 31 6,.ro true (strs (dL (rdG l 0)))])
 |2=>(.slice 0 0 2 false 0 0,[.row (rdA (rdG l 0) 1 (rdA (rdG l 1) 2 [])) 31 6,.ro true (strs (dL (rdG l 0))),.ro true (strs (dL (rdG l 1)))])
 |3=>(.slice 0 0 3 false 0 0,[.row (rdA (rdG l 0) 1 (rdA (rdG l 1) 2 (rdA (rdG l 2) 3 []))) 31 6,.ro true (strs (dL (rdG l 0))),.ro true (strs (dL (rdG l 1))),.ro true (strs (dL (rdG l 2)))])
 |_=>(.slice 0 0 4 false 0 0,[.row (rdA (rdG l 0) 1 (rdA (rdG l 1) 2 (rdA (rdG l 2) 3 (rdA (rdG l 3) 4 [])))) 31 6,.ro true (strs (dL (rdG l 0))),.ro true (strs (dL (rdG l 1))),.ro true (strs (dL (rdG l 2))),.ro true (strs (dL (rdG l 3)))])
def rreadT:List V→Option (Qx)
 |[.lst _ n cs]=>some [(okLL n cs&&Nat.beq (rdN (cs.map ab)) 0,rqO (cs.map ab) 0),(okLL n cs&&Nat.beq (rdN (cs.map ab)) 1,rqO (cs.map ab) 1),(okLL n cs&&Nat.beq (rdN (cs.map ab)) 2,rqO (cs.map ab) 2),(okLL n cs&&Nat.beq (rdN (cs.map ab)) 3,rqO (cs.map ab) 3),(okLL n cs,rqO (cs.map ab) 4)]
 |_=>none
theorem pu(st:St):Fits 0 [V.nilSlice] [] [some V.nilSlice] st:=aV [.nilSlice] rfl _ rfl st
theorem pt(l:List (List UInt8))(st:St)(h0:st[0]?=some (.ro true (strs (dL (rdG l 0)))))(hr:st[3]?=some (.row (rdA (rdG l 0) 0 []) 31 6)):Fits 0 [(rqO l 1).1] (rqO l 1).2 [some (.slice 3 0 1 false 0 0)] st:=
 ⟨[3,0],[.slice 3 0 1 false 0 0],rfl,rfl,FitsM.of ⟨.inr ⟨.row (rdA (rdG l 0) 0 []) 31 6,.inl rfl,hr⟩,.inr ⟨.ro true (strs (dL (rdG l 0))),.inl (by simp only[renB,aC _ (br _)]),h0⟩,trivial⟩,by simp,fun i hi=>by omega⟩
theorem pr(l:List (List UInt8))(st:St)(h0:st[0]?=some (.ro true (strs (dL (rdG l 0)))))(h1:st[4]?=some (.ro true (strs (dL (rdG l 1)))))(hr:st[7]?=some (.row (rdA (rdG l 0) 0 (rdA (rdG l 1) 4 [])) 31 6)):Fits 0 [(rqO l 2).1] (rqO l 2).2 [some (.slice 7 0 2 false 0 0)] st:=
 ⟨[7,0,4],[.slice 7 0 2 false 0 0],rfl,rfl,FitsM.of ⟨.inr ⟨.row (rdA (rdG l 0) 0 (rdA (rdG l 1) 4 [])) 31 6,.inl rfl,hr⟩,.inr ⟨.ro true (strs (dL (rdG l 0))),.inl (by simp only[renB,aC _ (br _)]),h0⟩,.inr ⟨.ro true (strs (dL (rdG l 1))),.inl (by simp only[renB,aC _ (br _)]),h1⟩,trivial⟩,by simp,fun i hi=>by omega⟩
theorem pq(l:List (List UInt8))(st:St)(h0:st[0]?=some (.ro true (strs (dL (rdG l 0)))))(h1:st[4]?=some (.ro true (strs (dL (rdG l 1)))))(h2:st[8]?=some (.ro true (strs (dL (rdG l 2)))))(hr:st[11]?=some (.row (rdA (rdG l 0) 0 (rdA (rdG l 1) 4 (rdA (rdG l 2) 8 []))) 31 6)):Fits 0 [(rqO l 3).1] (rqO l 3).2 [some (.slice 11 0 3 false 0 0)] st:=
 ⟨[11,0,4,8],[.slice 11 0 3 false 0 0],rfl,rfl,FitsM.of ⟨.inr ⟨.row (rdA (rdG l 0) 0 (rdA (rdG l 1) 4 (rdA (rdG l 2) 8 []))) 31 6,.inl rfl,hr⟩,.inr ⟨.ro true (strs (dL (rdG l 0))),.inl (by simp only[renB,aC _ (br _)]),h0⟩,.inr ⟨.ro true (strs (dL (rdG l 1))),.inl (by simp only[renB,aC _ (br _)]),h1⟩,.inr ⟨.ro true (strs (dL (rdG l 2))),.inl (by simp only[renB,aC _ (br _)]),h2⟩,trivial⟩,by simp,fun i hi=>by omega⟩
theorem rq_fits4(l:List (List UInt8))(st:St)(h0:st[0]?=some (.ro true (strs (dL (rdG l 0)))))(h1:st[4]?=some (.ro true (strs (dL (rdG l 1)))))(h2:st[8]?=some (.ro true (strs (dL (rdG l 2)))))(h3:st[12]?=some (.ro true (strs (dL (rdG l 3)))))(hr:st[15]?=some (.row (rdA (rdG l 0) 0 (rdA (rdG l 1) 4 (rdA (rdG l 2) 8 (rdA (rdG l 3) 12 [])))) 31 6)):Fits 0 [(rqO l 4).1] (rqO l 4).2 [some (.slice 15 0 4 false 0 0)] st:=
 ⟨[15,0,4,8,12],[.slice 15 0 4 false 0 0],rfl,rfl,FitsM.of ⟨.inr ⟨.row (rdA (rdG l 0) 0 (rdA (rdG l 1) 4 (rdA (rdG l 2) 8 (rdA (rdG l 3) 12 [])))) 31 6,.inl rfl,hr⟩,.inr ⟨.ro true (strs (dL (rdG l 0))),.inl (by simp only[renB,aC _ (br _)]),h0⟩,.inr ⟨.ro true (strs (dL (rdG l 1))),.inl (by simp only[renB,aC _ (br _)]),h1⟩,.inr ⟨.ro true (strs (dL (rdG l 2))),.inl (by simp only[renB,aC _ (br _)]),h2⟩,.inr ⟨.ro true (strs (dL (rdG l 3))),.inl (by simp only[renB,aC _ (br _)]),h3⟩,trivial⟩,by simp,fun i hi=>by omega⟩
theorem rz(args:List V)(L:Qx)(o:V×St)(h:rreadT args=some L)(ho:aL L=some o):FnSat Qq 10 args [] (Is o):=by
 unfold rreadT at h;split at h
 ·rename_i x n cs;cases h;cases hk:okLL n cs with
  |false=>rw[hk]at ho;simp[aL]at ho
  |true=>
  rw[hk]at ho;simp only[aH]at ho;unfold okLL at hk;rw[ad]at hk;have hal:=hk.2;have hk:=hk.1;obtain⟨l,rfl,rfl,p2,p3⟩:=cn hk;rw[ai]at ho;have fin:∀j,rdN l=j→o=rqO l j:=by
   intro j hj;have h4:=(cJ l).1;rw[hj]at ho h4
   match j,h4,ho with
   |0,_,ho=>exact(Option.some.inj ho).symm
   |1,_,ho=>exact(Option.some.inj ho).symm
   |2,_,ho=>exact(Option.some.inj ho).symm
   |3,_,ho=>exact(Option.some.inj ho).symm
   |4,_,ho=>exact(Option.some.inj ho).symm
  refine visN_ok (lim:=5) (n:=10) aA RR0_ok ?_;unfold iK at hal;rw[ai]at hal;refine cast (rchain_tree x l.length (strs l) (fun u st=>Fits 0 [o.1] o.2 [some u] st)).symm ?_;unfold zQ_5 zQ_4 zQ_3 zQ_2 zQ_1 zQ_0;have gt:∀j,j<l.length→(strs l).getD j (.bool false)=.str (rdG l j):=fun j hj=>by
   rw[bX];unfold strs rdG;rw[List.getElem?_map,bX,List.getElem?_eq_getElem hj];rfl
  have L1:∀j,j<l.length→Nat.blt j (strs l).length=true:=fun j hj=>ag (by rw[aE];omega);have S:∀j,j<l.length→ar ((strs l).getD j (.bool false))=true:=fun j hj=>by rw[gt j hj];rfl
  have E:∀j,j<l.length→elR (strs l) j=rdG l j:=fun j hj=>by unfold elR;rw[gt j hj];rfl
  have D:∀j:Nat,j<l.length→(true&&decide ((j:Int)<(l.length:Int)))=true:=fun j hj=>by rw[aH];exact am (by omega)
  have O:∀j,j<l.length→az (rdG l j)=true:=fun j hj=>by
   unfold rdG;rw[bX,List.getElem?_eq_getElem hj];exact List.all_eq_true.1 hal _ (List.getElem_mem hj)
  have lt:∀j:Nat,decide ((j:Int)<(l.length:Int))=true→j<l.length:=fun j hj=>by have:=aN hj;omega
  have ge:∀j:Nat,decide ((j:Int)<(l.length:Int))=false→l.length≤j:=fun j hj=>by have:=bk hj;omega
  have A:∀b:Bool,(true&&b)=b:=fun b=>rfl;simp only[fS];refine ac (fun d0=>?_) (fun d0=>?_)
  rotate_left
  ·have q:=ge 0 d0;have cnt:rdN l=0:=cL (by omega) (fun i hi=>by omega) (.inl (by omega));have ho:=fin 0 cnt;subst ho;exact pu _
  have a0:=lt 0 d0;have E0:=E 0 a0;refine aa (D 0 a0) (aa (L1 0 a0) (aa (S 0 a0) ?_));have O0:=O 0 a0;simp only[E0,O0];have stop0:decE (rdG l 0)≠0→o=rqO l 0:=fun hb=>fin 0 (cL (by omega) (fun i hi=>by omega) (.inr hb));refine ac (fun b0=>by have ho:=stop0 (f7 ((A _).symm.trans b0));subst ho;exact pu _) (fun _=>?_);refine ac (fun b0=>by have ho:=stop0 (by simpa using b0);subst ho;exact pu _) (fun b0=>?_);have g0:decE (rdG l 0)=0:=by simpa using b0
  refine aa rfl ?_;refine ac (fun d1=>?_) (fun d1=>?_)
  rotate_left
  ·have q:=ge 1 d1;have cnt:rdN l=1:=cL (by omega) (fun i hi=>by
    match i,hi with
    |0,_=>exact g0) (.inl (by omega))
   have ho:=fin 1 cnt;subst ho;exact pt l _ rfl rfl
  have a1:=lt 1 d1;have E1:=E 1 a1;refine aa (D 1 a1) (aa (L1 1 a1) (aa (S 1 a1) ?_));have O1:=O 1 a1;simp only[E1,O1];have stop1:decE (rdG l 1)≠0→o=rqO l 1:=fun hb=>fin 1 (cL (by omega) (fun i hi=>by
   match i,hi with
   |0,_=>exact g0) (.inr hb))
  refine ac (fun b1=>by have ho:=stop1 (f7 ((A _).symm.trans b1));subst ho;exact pt l _ rfl rfl) (fun _=>?_);refine ac (fun b1=>by have ho:=stop1 (by simpa using b1);subst ho;exact pt l _ rfl rfl) (fun b1=>?_);have g1:decE (rdG l 1)=0:=by simpa using b1
  refine aa rfl ?_;refine ac (fun d2=>?_) (fun d2=>?_)
  rotate_left
  ·have q:=ge 2 d2;have cnt:rdN l=2:=cL (by omega) (fun i hi=>by
    match i,hi with
    |0,_=>exact g0
    |1,_=>exact g1) (.inl (by omega))
   have ho:=fin 2 cnt;subst ho;exact pr l _ rfl rfl rfl
  have a2:=lt 2 d2;have E2:=E 2 a2;refine aa (D 2 a2) (aa (L1 2 a2) (aa (S 2 a2) ?_));have O2:=O 2 a2;simp only[E2,O2];have stop2:decE (rdG l 2)≠0→o=rqO l 2:=fun hb=>fin 2 (cL (by omega) (fun i hi=>by
   match i,hi with
   |0,_=>exact g0
   |1,_=>exact g1) (.inr hb))
  refine ac (fun b2=>by have ho:=stop2 (f7 ((A _).symm.trans b2));subst ho;exact pr l _ rfl rfl rfl) (fun _=>?_);refine ac (fun b2=>by have ho:=stop2 (by simpa using b2);subst ho;exact pr l _ rfl rfl rfl) (fun b2=>?_);have g2:decE (rdG l 2)=0:=by simpa using b2
  refine aa rfl ?_;refine ac (fun d3=>?_) (fun d3=>?_)
  rotate_left
  ·have q:=ge 3 d3;have cnt:rdN l=3:=cL (by omega) (fun i hi=>by
    match i,hi with
    |0,_=>exact g0
    |1,_=>exact g1
    |2,_=>exact g2) (.inl (by omega))
   have ho:=fin 3 cnt;subst ho;exact pq l _ rfl rfl rfl rfl
  have a3:=lt 3 d3;have E3:=E 3 a3;refine aa (D 3 a3) (aa (L1 3 a3) (aa (S 3 a3) ?_));have O3:=O 3 a3;simp only[E3,O3];have stop3:decE (rdG l 3)≠0→o=rqO l 3:=fun hb=>fin 3 (cL (by omega) (fun i hi=>by
   match i,hi with
   |0,_=>exact g0
   |1,_=>exact g1
   |2,_=>exact g2) (.inr hb))
  refine ac (fun b3=>by have ho:=stop3 (f7 ((A _).symm.trans b3));subst ho;exact pq l _ rfl rfl rfl rfl) (fun _=>?_);refine ac (fun b3=>by have ho:=stop3 (by simpa using b3);subst ho;exact pq l _ rfl rfl rfl rfl) (fun b3=>?_);have g3:decE (rdG l 3)=0:=by simpa using b3
  refine aa rfl ?_;have ho:=fin 4 (cL (by omega) (fun i hi=>by
   match i,hi with
   |0,_=>exact g0
   |1,_=>exact g1
   |2,_=>exact g2
   |3,_=>exact g3) (.inl (by omega)))
  subst ho;exact ac (fun _=>rq_fits4 l _ rfl rfl rfl rfl rfl) (fun _=>rq_fits4 l _ rfl rfl rfl rfl rfl)
 ·cases h
def rqU(l:List (List UInt8)):V×St:=(.slice 0 0 (rdN l) false 0 0,[.row (rdA (rdG l 0) 1 (rdT l)) 31 6,.ro true (strs (dL (rdG l 0))),.ro true (nmR l 1),.ro true (nmR l 2),.ro true (nmR l 3)])
def rreadU:List V→Option (Qx)
 |[.lst _ n cs]=>some [(okLL n cs&&Nat.beq (rdN (cs.map ab)) 0,(.nilSlice,[])),(okLL n cs,rqU (cs.map ab))]
 |_=>none
theorem rreadU_ok(args:List V)(L:Qx)(o:V×St)(h:rreadU args=some L)(ho:aL L=some o):FnSat Qq 10 args [] (Is o):=by
 unfold rreadU at h;split at h
 ·rename_i x n cs;cases h;cases hk:okLL n cs with
  |false=>rw[hk]at ho;simp[aL]at ho
  |true=>
  rw[hk,aH]at ho;have get:∀j,rdN (cs.map ab)=j→FnSat Qq 10 [.lst x n cs] [] (Is (rqO (cs.map ab) j)):=by
   intro j hj;refine rz [.lst x n cs] _ _ rfl ?_;have h4:=(cJ (cs.map ab)).1;rw[hk,hj];rw[hj]at h4
   match j,h4 with
   |0,_|1,_|2,_|3,_|4,_=>rfl
  have h4:=(cJ (cs.map ab)).1;rcases(by omega:rdN (cs.map ab)=0∨rdN (cs.map ab)=1∨rdN (cs.map ab)=2∨rdN (cs.map ab)=3∨rdN (cs.map ab)=4)with hj|hj|hj|hj|hj
  ·rw[hj]at ho;cases ho;exact get 0 hj
  ·rw[hj]at ho;cases ho;have:=fj (i:=1) rfl (fj (i:=1) rfl (fj (i:=1) rfl (get 1 hj)));unfold rqU rdT nmR;rw[hj];exact this
  ·rw[hj]at ho;cases ho;have:=fj (i:=1) rfl (fj (i:=1) rfl (get 2 hj));unfold rqU rdT nmR;rw[hj];exact this
  ·rw[hj]at ho;cases ho;have:=fj (i:=1) rfl (get 3 hj);unfold rqU rdT nmR;rw[hj];exact this
  ·rw[hj]at ho;cases ho;have:=get 4 hj;unfold rqU rdT nmR;rw[hj];exact this
 ·cases h
def RL0:Tab:=⟨addP noT 155 digP,noL,aT 9⟩
theorem RL0_ok:TabOk3 Qq RL0:=⟨bg aJ rdg_ok,aK,au 9⟩
theorem rlk_round(x:Value)(n:Nat)(cs:List V)(i:Int)(R:Qz):al Qq RL0 9 10 (ah 9) 96 26 [0,2,3] [.lst x n cs,.bool false,.int .i64 i] [] R=
  (
 bif decide (i64.wrap (i+1)<(↑n:Int))then bif decide (0≤i)&&decide (i<(↑n:Int))then bif (i.toNat*6+1).blt cs.length then bif ar (cs.getD
 (i.toNat*6+1) (.bool false))then bif decide (0≤i64.wrap (i+1))&&decide (i64.wrap (i+1)<(↑n:Int))then bif ((i64.wrap (i+
 1)).toNat*6+0).blt cs.length then bif ar (cs.getD ((i64.wrap (i+1)).toNat*6+0) (.bool false))then bif !ab (cs.getD (i.toNat*6+1) (.bool
 false))==digB (ab (cs.getD ((i64.wrap (i+1)).toNat*6+0) (.bool false)))then R .ret [some (.lst x n cs),some (.bool false),some (.int
 i64 i)] []else bif decide (0≤i64.wrap (i+1))&&decide (i64.wrap (i+1)<(↑n:Int))then bif ((i64.wrap (i+1)).toNat*6+
 5).blt cs.length then bif de (cs.getD ((i64.wrap (i+1)).toNat*6+5) (.bool false))then bif !ew (cs.getD ((i64.wrap (i+1)).toNat*6+
 5) (.bool false))then R .ret [some (.lst x n cs),some (.bool false),some (.int i64 i)] []else R .normal [some (.lst x n cs),some (.bool false),
 some (.int i64 (i64.wrap (i+1)))] []else False else False else False else False else False else False else False else False else False else R
 (.exit 0) [some (.lst x n cs),some (.bool false),some (.int i64 i)] []):=by kernel_rfl
structure RLX where
 x:Value
 n:Nat
 cs:List V
 i:Nat
def rlxV(y:RLX):List V:=[.lst y.x y.n y.cs,.bool false,.int .i64 y.i]
def rlxJ(_:RLX):St:=[]
def jG(y:RLX):Bool:=okR y.n y.cs&&Nat.ble y.i (y.n-1)
def rlxMu(y:RLX):Nat:=y.n-y.i
def rlxDec:List (Option V)→St→Option RLX
 |[some (.lst x n cs),some (.bool false),some (.int .i64 0)],_=>some ⟨x,n,cs,0⟩
 |_,_=>none
def linkS(cs:List V)(i:Nat):Bool:=bW ((crD [] cs).drop i)
def rlxOutG(x:Value)(n:Nat)(cs:List V)(c:Bool)(K:Exit→List V→St→Prop):Prop:=
 bif c then ∀j:Int,K (.exit 0) [.lst x n cs,.bool false,.int .i64 j] []else ∀j:Int,K .ret [.lst x n cs,.bool false,.int .i64 j] []
def tr:Asks RLX:=fun y K=>rlxOutG y.x y.n y.cs (linkS y.cs y.i) K
theorem rlx_roundOk(y:RLX)(hx:jG y=true):al Qq RL0 9 10 (ah 9) 96 26 [0,2,3] (rlxV y) (rlxJ y) (aD 0 jG rlxV rlxJ rlxMu tr y):=by
 obtain⟨x,n,cs,i⟩:=y;unfold jG at hx;rw[ad]at hx;have p1:i≤n-1:=aw hx.2;have hx1:okR n cs=true:=hx.1;obtain⟨p2,p3,p4,p5⟩:=iZ hx1;show al Qq RL0 9 10 (ah 9) 96 26 [0,2,3] [.lst x n cs,.bool false,.int .i64 i] [] _;rw[rlk_round];have out:∀K,tr ⟨x,n,cs,i⟩ K→rlxOutG x n cs (bW ((crD [] cs).drop i)) K:=fun K hK=>hK;have w2:i64.wrap ((i:Int)+1)=((i+1:Nat):Int):=by rw[IntWalk.i64_in _ ⟨by omega,by omega⟩];omega
 rw[w2];by_cases hi:i+1<n
 ·obtain⟨a,r,ha⟩:∃a r,(crD [] cs).drop i=a::r:=by
   cases hd:(crD [] cs).drop i with
   |nil=>have:=congrArg List.length hd;simp at this;omega
   |cons a r=>exact⟨a,r,rfl⟩
  obtain⟨_,ha2,_⟩:=bn ha;obtain⟨c,q,hc⟩:∃c q,r=c::q:=by
   cases r with
   |nil=>have:=congrArg List.length ha;simp at this;omega
   |cons c q=>exact⟨c,q,rfl⟩
  subst hc;have A:=oG p2 ha;have C:=oG p2 ha2;have d1:decide (((i+1:Nat):Int)<(n:Int))=true:=am (by omega);have d2:decide ((0:Int)≤((i+1:Nat):Int))=true:=am (by omega);have d3:decide ((i:Int)<(n:Int))=true:=am (by omega);have d4:decide ((0:Int)≤(i:Int))=true:=am (by omega);have l5:((i+1)*6+5).blt cs.length=true:=ag (by omega);have l1:(i*6+1).blt cs.length=true:=ag (by omega);have l0:((i+1)*6+0).blt cs.length=true:=ag (by omega);simp only[d1,d2,d3,d4,bp,l5,l1,l0,A.g,C.ca,C.k,de,ew,ar,ab,bv,ae];have next:(bW ((crD [] cs).drop i))=(c.ca&&((a.g==digB c.k)&&bW ((crD [] cs).drop (i+1)))):=by rw[ha,ha2];rfl
  have bad:bW ((crD [] cs).drop i)=false→aD 0 jG rlxV rlxJ rlxMu tr ⟨x,n,cs,i⟩ .ret [some (.lst x n cs),some (.bool false),some (.int .i64 (i:Int))] []:=fun h=>by
   refine⟨_,[],fun K hK=>?_,aV [.lst x n cs,.bool false,.int .i64 i] rfl _ rfl _⟩;have hK:=out K hK;rw[h]at hK;exact hK _
  cases h1:(a.g==digB c.k)with
  |false=>exact bad (by rw[next,h1];simp)
  |true=>
   cases h2:c.ca with
   |false=>exact bad (by rw[next,h2];rfl)
   |true=>
    rw[h1,h2,aH,aH]at next
    refine⟨⟨x,n,cs,i+1⟩,?_,aV [.lst x n cs,.bool false,.int .i64 ((i+1:Nat):Int)] rfl _ rfl _,by simp only[rlxMu];omega,fun K hK=>?_⟩
    ·unfold jG;rw[ad];exact⟨hx1,ag (show i+1≤n-1 by omega)⟩
    ·have hK:=out K hK;rw[next]at hK;exact hK
 ·rw[bH (show ¬(((i+1:Nat):Int)<(n:Int)) by omega),ak];refine⟨_,[],fun K hK=>?_,aV [.lst x n cs,.bool false,.int .i64 i] rfl _ rfl _⟩;have hK:=out K hK;have:bW ((crD [] cs).drop i)=true:=by
   match hd:(crD [] cs).drop i with
   |[]=>rfl
   |[_]=>rfl
   |_::_::_=>have:=congrArg List.length hd;simp at this;omega
  rw[this]at hK;exact hK _
def lkRLX:Nat→Trans→Trans:=ba 26 (bK 0 (szOf Qq 96) [0,2,3] rlxDec jG rlxV rlxJ tr) (ah 9)
theorem lkRLX_ok:aQ Qq 0 lkRLX 96:=by
 unfold lkRLX;exact bB (aY 9 0 96) (by kernel_rfl) fun f st Q h=>bc (P:=Qq) (T:=RL0) (k:=0) (lim:=9) (n:=10) (g:=96) (p0:=26) (lk:=ah 9) aA RL0_ok (bf 9 _ _) rlxMu rlx_roundOk h
def RL1:Tab:=⟨noT,noL,cI (aT 9) 96 0 lkRLX⟩
theorem RL1_ok:TabOk3 Qq RL1:=⟨aJ,aK,bq (au 9) lkRLX_ok⟩
theorem rlink_tree(x:Value)(n:Nat)(cs:List V)(R:V→Prop):runW Qq RL1 9 10 96 [.lst x n cs] R=
  (
 Fits 0 [.lst x n cs,.bool false,.int i64 0] [] [some (.lst x n cs),some (.bool false),some (.int i64 0)] []∧bif jG {x:=x,n:=n,cs:=cs,i:=0}
 then bif linkS cs 0 then ∀(j:Int),R (.bool true)else ∀(j:Int),R (.bool false)else False):=by kernel_rfl
theorem rlink_sat(x:Value)(n:Nat)(cs:List V)(h:okR n cs=true):FnSat Qq 96 [.lst x n cs] [] (Is (.bool (bW (crD [] cs)),[])):=by
 refine ax (lim:=9) (n:=10) aA RL1_ok rfl rfl ?_;rw[rlink_tree];refine⟨aV [.lst x n cs,.bool false,.int .i64 0] rfl _ rfl _,aa ?_ ?_⟩
 ·unfold jG;rw[ad];exact⟨h,ag (Nat.zero_le _)⟩
 ·have e:linkS cs 0=bW (crD [] cs):=rfl;rw[←e];cases linkS cs 0 with
  |true=>intro j;rfl
  |false=>intro j;rfl
theorem rD(args:List V)(s:St)(l:Qx)(o:V×St)(h:ot args s=some l)(ho:aL l=some o):FnSat Qq 96 args s (Is o):=by
 unfold ot at h;split at h
 ·rename_i p;split at h
  ·rename_i b ls hv;cases h;obtain⟨hb,rfl⟩:=aO ho;rw[ad]at hb;obtain⟨rfl,h1⟩:=hb;refine cx rfl fun B W0 w m rargs hr ha=>?_;obtain⟨a,r,q1,q2,rfl⟩:=aj ha;obtain⟨L,e1,e2,e3⟩:=jC hr hv q1;have q3:=bw (Ψ:=Frz.of w) (m':=[]) _ _ rfl q2;have hl:L.length≤9223372036854775807:=by rw[←cg (f:=(·.c)),e1];exact aw h1
   have:=@rlink_sat (Frz.of w) a L.length (crs L) (pO hl e3);rw[ju,e1]at this;exact⟨[lstR a L],@aI _ (Frz.of w) [] _ _ _ _ e2 q3,this⟩
  ·cases h
 ·cases h
def RI0:Tab:=⟨noT,noL,aT 9⟩
theorem RI0_ok:TabOk3 Qq RI0:=⟨aJ,aK,au 9⟩
def dB(now:Int)(c:CR):Bool:=aS c.f c.u now
def anR(now:Int)(an:List (List UInt8)):List CR→List CR→Bool
 |_,[]=>false
 |p,c::r=>(bW (p++[c])&&(hasS an c.g&&(p++[c]).all (dB now)))||anR now an (p++[c]) r
theorem qd:∀(p:List CR) (c:CR),bW (p++[c])=(bW p&&si p.getLast? c)
 |[],c=>rfl
 |[a],c=>by
  show bW [a,c]=(true&&bW [a,c]);rw[aH]
 |a::b::r,c=>by
  have h:=qd (b::r) c;have e1:bW (a::b::r++[c])=(b.ca&&((a.g==digB b.k)&&bW (b::r++[c]))):=rfl;have e2:bW (a::b::r)=(b.ca&&((a.g==digB b.k)&&bW (b::r))):=rfl;rw[e1,e2,h,List.getLast?_cons_cons];simp only[Bool.and_assoc]
theorem anR_eq(now:Int)(an:List (List UInt8)):∀(r p:List CR),anR now an p r=(bW p&&(p.all (dB now)&&dg now an p.getLast? r))
 |[],p=>by simp[anR,dg]
 |c::r,p=>by
  rw[anR,anR_eq now an r (p++[c]),qd,List.all_append,List.getLast?_concat];have e:dg now an p.getLast? (c::r)=(aS c.f c.u now&&(si p.getLast? c&&(hasS an c.g||dg now an (some c) r))):=rfl;rw[e];have d:[c].all (dB now)=aS c.f c.u now:=by simp[dB]
  rw[d];cases bW p<;>cases si p.getLast? c<;>cases p.all (dB now)<;>cases aS c.f c.u now<;>cases hasS an c.g<;>cases dg now an (some c) r<;>rfl
theorem rin_round(s:List UInt8)(x:Value)(n:Nat)(cs:List V)(i:Int)(R:Qz):al Qq RI0 9 10 (ah 9) 97 26 [0,1,4,5] [.str s,.lst x n cs,.bool false,.int .i64 i] [] R=
  (
 bif decide (i<(↑n:Int))then bif decide (0≤i)&&decide (i<(↑n:Int))then bif (i.toNat*1).blt cs.length then bif ar (cs.getD (i.toNat*1) (.bool false))
 then bif ab (cs.getD (i.toNat*1) (.bool false))==s then R .ret [some (.str s),some (.lst x n cs),some (.bool true),some (.int i64 i)] []else
 R .normal [some (.str s),some (.lst x n cs),some (.bool false),some (.int i64 (i64.wrap (i+1)))] []else False else False else False else R
 (.exit 0) [some (.str s),some (.lst x n cs),some (.bool false),some (.int i64 i)] []):=by kernel_rfl
def rinV(y:IN):List V:=[.str y.s,.lst y.x y.n y.cs,.bool false,.int .i64 y.i]
def rinDec:List (Option V)→St→Option IN
 |[some (.str s),some (.lst x n cs),some (.bool false),some (.int .i64 0)],_=>some ⟨x,n,cs,s,0⟩
 |_,_=>none
def oS(x:Value)(n:Nat)(cs:List V)(s:List UInt8)(b:Bool)(K:Exit→List V→St→Prop):Prop:=
 bif b then ∀i:Nat,K .ret [.str s,.lst x n cs,.bool true,.int .i64 i] []else K (.exit 0) [.str s,.lst x n cs,.bool false,.int .i64 n] []
def rinOut:Asks IN:=fun y K=>oS y.x y.n y.cs y.s (hasV (y.cs.drop y.i) y.s) K
theorem rin_roundOk(y:IN)(hx:iz y=true):al Qq RI0 9 10 (ah 9) 97 26 [0,1,4,5] (rinV y) (inJ y) (aD 0 iz rinV inJ inMu rinOut y):=by
 obtain⟨x,n,cs,s,i⟩:=y;unfold iz at hx;rw[ad]at hx;have p1:i≤n:=aw hx.2;have hx1:okS n cs=true:=hx.1;obtain⟨l,rfl,rfl,p2,p3⟩:=cn hx1;show al Qq RI0 9 10 (ah 9) 97 26 [0,1,4,5] [.str s,.lst x l.length (strs l),.bool false,.int .i64 i] [] _;rw[rin_round];have ha:∀j,hasV ((strs l).drop j) s=(l.drop j).any fun t=>s==t:=fun j=>by
  unfold hasV;rw[List.map_drop,ai]
 have out:∀K,rinOut ⟨x,l.length,strs l,s,i⟩ K→oS x l.length (strs l) s ((l.drop i).any fun t=>s==t) K:=fun K hK=>by
  have hK:oS x l.length (strs l) s (hasV ((strs l).drop i) s) K:=hK;rw[ha]at hK;exact hK
 cases hd:l.drop i with
 |nil=>
  have hi:=bY hd p1;rw[bH (show ¬((i:Int)<(l.length:Int)) by omega),ak];refine⟨_,[],fun K hK=>?_,aV [.str s,.lst x l.length (strs l),.bool false,.int .i64 i] rfl _ rfl _⟩;have hK:=out K hK;rw[hd]at hK;rw[hi];exact hK
 |cons c r=>
  obtain⟨e1,e2,e3⟩:=bn hd;obtain⟨e4,e5⟩:=fY hd;have q1:decide ((i:Int)<(l.length:Int))=true:=am (by omega);have q2:decide ((0:Int)≤(i:Int))=true:=am (by omega);rw[q1,q2];simp only[bp,e4,e5,ar,ab,ae,Bool.and_true,show i64.wrap ((i:Int)+1)=((i+1:Nat):Int) by rw[IntWalk.i64_in _ ⟨by omega,by omega⟩];omega,BEq.comm (a:=c) (b:=s)];cases hc:(s==c)with
  |true=>
   refine⟨_,[],fun K hK=>?_,aV [.str s,.lst x l.length (strs l),.bool true,.int .i64 i] rfl _ rfl _⟩;have hK:=out K hK;rw[hd,List.any_cons,hc]at hK;exact hK i
  |false=>
   refine⟨⟨x,l.length,strs l,s,i+1⟩,?_,aV _ rfl _ rfl _,by simp only[inMu];omega,fun K hK=>?_⟩
   ·unfold iz;rw[ad];exact⟨hx1,ag (show i+1≤l.length by omega)⟩
   ·have hK:=out K hK;show oS x l.length (strs l) s (hasV ((strs l).drop (i+1)) s) K;rw[ha,e2];rw[hd,List.any_cons,hc,Bool.false_or]at hK;exact hK
def lkRIN:Nat→Trans→Trans:=ba 26 (bK 0 (szOf Qq 97) [0,1,4,5] rinDec iz rinV inJ rinOut) (ah 9)
theorem lkRIN_ok:aQ Qq 0 lkRIN 97:=by
 unfold lkRIN;exact bB (aY 9 0 97) (by kernel_rfl) fun f st Q h=>bc (P:=Qq) (T:=RI0) (k:=0) (lim:=9) (n:=10) (g:=97) (p0:=26) (lk:=ah 9) aA RI0_ok (bf 9 _ _) inMu rin_roundOk h
def RI1:Tab:=⟨noT,noL,cI (aT 9) 97 0 lkRIN⟩
theorem RI1_ok:TabOk3 Qq RI1:=⟨aJ,aK,bq (au 9) lkRIN_ok⟩
theorem rin_tree(s:List UInt8)(x:Value)(n:Nat)(cs:List V)(R:V→Prop):runW Qq RI1 9 10 97 [.str s,.lst x n cs] R=
  (
 Fits 0 [.str s,.lst x n cs,.bool false,.int i64 0] [] [some (.str s),some (.lst x n cs),some (.bool false),some (.int i64 0)] []∧bif iz
 {x:=x,n:=n,cs:=cs,s:=s,i:=0}then bif hasV cs s then ∀(i:Nat),R (.bool true)else R (.bool false)else False):=by kernel_rfl
theorem rin_sat(x:Value)(l:List (List UInt8))(s:List UInt8)(hl:l.length≤9223372036854775807):FnSat Qq 97 [.str s,lstS x l] [] (Is (.bool (hasS l s),[])):=by
 refine ax (lim:=9) (n:=10) aA RI1_ok rfl rfl ?_;unfold lstS;rw[rin_tree];have ha:hasV (strs l) s=hasS l s:=by unfold hasV;rw[ai];rfl
 rw[ha];refine⟨aV _ rfl _ rfl _,aa (by unfold iz;rw[dH hl];exact ag (Nat.zero_le _)) ?_⟩;cases hasS l s with
 |false=>rfl
 |true=>intro _;rfl
def rinG:List V→St→Option (Qx)
 |[.str s,p],st=>match bC st p with
  |some (b,l)=>some [(b&&Nat.ble l.length 9223372036854775807,(.bool (hasS l s),st))]
  |none=>none
 |_,_=>none
theorem rinG_ok(args:List V)(s:St)(l:Qx)(o:V×St)(h:rinG args s=some l)(ho:aL l=some o):FnSat Qq 97 args s (Is o):=by
 unfold rinG at h;split at h
 ·rename_i t p;split at h
  ·rename_i b ls hv;cases h;obtain⟨hb,rfl⟩:=aO ho;rw[ad]at hb;obtain⟨rfl,h1⟩:=hb;refine cx rfl fun B W0 w m rargs hr ha=>?_;obtain⟨a,r,q1,q2,rfl⟩:=aj ha;obtain⟨a2,r2,q3,q4,rfl⟩:=aj q2;have hy:=cB hr hv q3;have q5:=bJ (Ψ:=Frz.of w) (m':=[]) _ _ rfl q1;have q6:=bw (Ψ:=Frz.of w) (m':=[]) _ _ rfl q4;exact⟨[.str t,lstS a2 ls],@aI _ (Frz.of w) [] _ _ _ _ q5 (@aI _ (Frz.of w) [] _ _ _ _ hy q6),@rin_sat (Frz.of w) a2 ls t (aw h1)⟩
  ·cases h
 ·cases h
def RJ0:Tab:=⟨noT,addS (addS (addS noL 45 iJ) 96 ot) 97 rinG,aT 9⟩
theorem RJ0_ok:TabOk3 Qq RJ0:=⟨aJ,bP (bP (bP aK lD) rD) rinG_ok,au 9⟩
theorem ria_round(x:Value)(n:Nat)(cs:List V)(now:Int)(y:Value)(m:Nat)(ds:List V)(i:Int)(ok:Bool)(k:Int)(R:Qz):al Qq RJ0 9 10 (ah 9) 47 6730 [0,1,2,6,7,8,9] [.lst x n cs,.int .i64 now,.lst y m ds,.bool false,.int .i64 i,.bool ok,.int .i64 k] [] R=
  (
 bif decide (k≤i)then bif ok then bif decide (0≤k)&&decide (k<(↑n:Int))then bif (k.toNat*6+6).ble cs.length then bif ar (cs.getD (k.toNat*6+0)
 (.bool false))then bif ar (cs.getD (k.toNat*6+1) (.bool false))then bif iI (cs.getD (k.toNat*6+2) (.bool false))then bif ao i64 (cs.getD
 (k.toNat*6+3) (.bool false))then bif ao i64 (cs.getD (k.toNat*6+4) (.bool false))then bif de (cs.getD (k.toNat*6+5) (.bool false))then
 bif (ij (cs.getD (k.toNat*6+2) (.bool false))).length.beq (nOfV (cs.getD (k.toNat*6+2) (.bool false))*1)&&((ij (cs.getD (k.toNat*6+2) (.bool
 false))).all ar&&(ij (cs.getD (k.toNat*6+2) (.bool false))).length.beq (nOfV (cs.getD (k.toNat*6+2) (.bool false))))then R .normal [some (.lst x
 n cs),some (.int i64 now),some (.lst y m ds),some (.bool false),some (.int i64 i),some (.bool (aS (aq (cs.getD (k.toNat*6+3) (.bool
 false))) (aq (cs.getD (k.toNat*6+4) (.bool false))) now)),some (.int i64 (i64.wrap (k+1)))] []else False else False else False else False
 else False else False else False else False else False else R (.exit 2) [some (.lst x n cs),some (.int i64 now),some (.lst y m ds),some (.bool false),
 some (.int i64 i),some (.bool ok),some (.int i64 k)] []else R (.exit 2) [some (.lst x n cs),some (.int i64 now),some (.lst y m ds),
 some (.bool false),some (.int i64 i),some (.bool ok),some (.int i64 k)] []):=by kernel_rfl
def dAll(now:Int)(l:List CR)(i k:Nat):Bool:=((l.drop k).take (i+1-k)).all (dB now)
theorem dAll_step{now:Int}{l r:List CR}{c:CR}{i k:Nat}(h:l.drop k=c::r)(hk:k≤i):dAll now l i k=(aS c.f c.u now&&dAll now l i (k+1)):=by
 unfold dAll;rw[h,(bn h).2.1,show i+1-k=(i+1-(k+1))+1 by omega,List.take_succ_cons,List.all_cons];rfl
theorem dAll_end{now:Int}{l:List CR}{i k:Nat}(hk:i<k):dAll now l i k=true:=by
 unfold dAll;rw[show i+1-k=0 by omega];rfl
structure RIA where
 x:Value
 n:Nat
 cs:List V
 now:Int
 y:Value
 m:Nat
 ds:List V
 i:Nat
 ok:Bool
 k:Nat
def riaV(z:RIA):List V:=[.lst z.x z.n z.cs,.int .i64 z.now,.lst z.y z.m z.ds,.bool false,.int .i64 z.i,.bool z.ok,.int .i64 z.k]
def riaJ(_:RIA):St:=[]
def iG(z:RIA):Bool:=okR z.n z.cs&&(Nat.blt z.i z.n&&Nat.ble z.k (z.i+1))
def riaMu(z:RIA):Nat:=z.i+1-z.k
def riaDec:List (Option V)→St→Option RIA
 |[some (.lst x n cs),some (.int .i64 now),some (.lst y m ds),some (.bool false),some (.int .i64 i),some (.bool ok),some (.int .i64 0)],_=>some ⟨x,n,cs,now,y,m,ds,i.toNat,ok,0⟩
 |_,_=>none
def riaOutG(x:Value)(n:Nat)(cs:List V)(now:Int)(y:Value)(m:Nat)(ds:List V)(i:Nat)(b:Bool)(K:Exit→List V→St→Prop):Prop:=
 ∀j:Int,K (.exit 2) [.lst x n cs,.int .i64 now,.lst y m ds,.bool false,.int .i64 i,.bool b,.int .i64 j] []
def dAllV(now:Int)(cs:List V)(i k:Nat):Bool:=dAll now (crD [] cs) i k
def tv:Asks RIA:=fun z K=>riaOutG z.x z.n z.cs z.now z.y z.m z.ds z.i (z.ok&&dAllV z.now z.cs z.i z.k) K
theorem ria_roundOk(z:RIA)(hx:iG z=true):al Qq RJ0 9 10 (ah 9) 47 6730 [0,1,2,6,7,8,9] (riaV z) (riaJ z) (aD 0 iG riaV riaJ riaMu tv z):=by
 obtain⟨x,n,cs,now,y,m,ds,i,ok,k⟩:=z;unfold iG at hx;simp only[ad]at hx;have hx1:okR n cs=true:=hx.1;have p0:i<n:=aw hx.2.1;have p1:k≤i+1:=aw hx.2.2;obtain⟨p2,p3,p4,p5⟩:=iZ hx1;show al Qq RJ0 9 10 (ah 9) 47 6730 [0,1,2,6,7,8,9] [.lst x n cs,.int .i64 now,.lst y m ds,.bool false,.int .i64 i,.bool ok,.int .i64 k] [] _;rw[ria_round];have out:∀K,tv ⟨x,n,cs,now,y,m,ds,i,ok,k⟩ K→riaOutG x n cs now y m ds i (ok&&dAll now (crD [] cs) i k) K:=fun K hK=>hK;have fin:(ok&&dAll now (crD [] cs) i k)=ok→aD 0 iG riaV riaJ riaMu tv ⟨x,n,cs,now,y,m,ds,i,ok,k⟩ (.exit 2) [some (.lst x n cs),some (.int .i64 now),some (.lst y m ds),some (.bool false),some (.int .i64 i),some (.bool ok),some (.int .i64 k)] []:=fun h=>by
  refine⟨[.lst x n cs,.int .i64 now,.lst y m ds,.bool false,.int .i64 i,.bool ok,.int .i64 k],[],fun K hK=>?_,aV _ rfl _ rfl _⟩;have hK:=out K hK;rw[h]at hK;exact hK k
 by_cases hk:k≤i
 ·rw[am (show((k:Int)≤(i:Int)) by omega),ae];cases ok with
  |false=>exact fin rfl
  |true=>
   rw[ae];obtain⟨c,r,hd⟩:∃c r,(crD [] cs).drop k=c::r:=by
    cases hd:(crD [] cs).drop k with
    |nil=>have:=congrArg List.length hd;simp at this;omega
    |cons c r=>exact⟨c,r,rfl⟩
   have C:=oG p2 hd;obtain⟨xn,hn⟩:=C.l;have d1:decide ((0:Int)≤(k:Int))=true:=am (by omega);have d2:decide ((k:Int)<(n:Int))=true:=am (by omega);have l6:(k*6+6).ble cs.length=true:=ag (by omega);have w2:i64.wrap ((k:Int)+1)=((k+1:Nat):Int):=by rw[IntWalk.i64_in _ ⟨by omega,by omega⟩];omega
   have q5:(strs c.l).length.beq (c.l.length*1)=true:=by rw[aE,Nat.mul_one];exact a9 _
   have q6:(strs c.l).length.beq c.l.length=true:=by rw[aE];exact a9 _
   simp only[d1,d2,bp,l6,C.k,C.g,hn,C.f,C.u,C.ca,ar,iI,nOfV,ij,ao,aq,de,decide_true,w2,q5,q6,bD,bv,ae];refine⟨⟨x,n,cs,now,y,m,ds,i,aS c.f c.u now,k+1⟩,?_,aV _ rfl _ rfl _,by simp only[riaMu];omega,fun K hK=>?_⟩
   ·unfold iG;simp only[ad];exact⟨hx1,ag p0,ag (show k+1≤i+1 by omega)⟩
   ·have hK:=out K hK;rw[aH,dAll_step hd hk]at hK;exact hK
 ·rw[bH (show ¬((k:Int)≤(i:Int)) by omega),ak];exact fin (by rw[dAll_end (by omega),Bool.and_true])
def sh:Nat→Trans→Trans:=ba 6730 (bK 0 (szOf Qq 47) [0,1,2,6,7,8,9] riaDec iG riaV riaJ tv) (ah 9)
theorem lkRIA_ok:eb Qq none 0 sh (2*26) (cO Qq 47 26):=by
 unfold sh;refine cA _ _ (bf 9 _ _) fun c' hc f st Q h=>?_;rw[show bR 6730 (2*26) (cO Qq 47 26)=[cO Qq 47 6730] by kernel_rfl]at hc;rw[List.mem_singleton.1 hc];exact bc (P:=Qq) (T:=RJ0) (k:=0) (lim:=9) (n:=10) (g:=47) (p0:=6730) (lk:=ah 9) aA RJ0_ok (bf 9 _ _) riaMu ria_roundOk h
def zS_0(i:Int):=((i64.wrap (i+1)).toNat-0)*6
theorem rao_round(x:Value)(n:Nat)(cs:List V)(now:Int)(y:Value)(m:Nat)(ds:List V)(i:Int)(R:Qz):al Qq RJ0 9 10 sh 47 26 [0,1,2,6,7] [.lst x n cs,.int .i64 now,.lst y m ds,.bool false,.int .i64 i] [] R=
 (
 bif decide (i<(↑n:Int))then bif decide (0≤i64.wrap (i+1))then bif true&&(i64.wrap (i+1)).toNat.ble n then bif (List.take (zS_0 i)
 cs).length.beq (zS_0 i)&&(isCr [] (List.take (zS_0 i) cs)&&(crD [] (List.take (zS_0 i) cs)).length.beq ((i64.wrap (i+1)).toNat-0))&&(crD []
 (List.take (zS_0 i) cs)).length.ble 9223372036854775807 then bif bW (crD [] (List.take (zS_0 i) cs))then bif decide (0≤i)&&decide (i<(↑n:Int))then
 bif (i.toNat*6+1).blt cs.length then bif ar (cs.getD (i.toNat*6+1) (.bool false))then bif ds.length.beq (m*1)&&(ds.all ar&&ds.length.beq
 m)&&(List.map ab ds).length.ble 9223372036854775807 then Fits 0 [.lst x n cs,.int i64 now,.lst y m ds,.bool false,.int i64
 (↑i.toNat:Int),.bool (hasS (List.map ab ds) (ab (cs.getD (i.toNat*6+1) (.bool false)))),.int i64 0] [] [some (.lst x n cs),some
 (.int i64 now),some (.lst y m ds),some (.bool false),some (.int i64 i),some (.bool (hasS (List.map ab ds) (ab (cs.getD (i.toNat
 *6+1) (.bool false))))),some (.int i64 0)] []∧bif iG
 {x:=x,n:=n,cs:=cs,now:=now,y:=y,m:=m,ds:=ds,i:=i.toNat,ok:=hasS (List.map ab ds) (ab (cs.getD (i.toNat*6+1) (.bool false))),k:=0}
 then ∀(j:Int),bif hasS (List.map ab ds) (ab (cs.getD (i.toNat*6+1) (.bool false)))&&dAllV now cs i.toNat 0 then R .ret [some (.lst x n
 cs),some (.int i64 now),some (.lst y m ds),some (.bool true),some (.int i64 (↑i.toNat:Int))] []else R .normal [some (.lst x n
 cs),some (.int i64 now),some (.lst y m ds),some (.bool false),some (.int i64 (i64.wrap ((↑i.toNat:Int)+1)))] []else False
 else False else False else False else False else Fits 0 [.lst x n cs,.int i64 now,.lst y m ds,.bool false,.int i64 (↑i.toNat:Int),
 .bool false,.int i64 0] [] [some (.lst x n cs),some (.int i64 now),some (.lst y m ds),some (.bool false),some (.int i64 i),
 some (.bool false),some (.int i64 0)] []∧bif iG
 {x:=x,n:=n,cs:=cs,now:=now,y:=y,m:=m,ds:=ds,i:=i.toNat,ok:=false,k:=0}then ∀(j:Int),R .normal [some (.lst x n cs),some
 (.int i64 now),some (.lst y m ds),some (.bool false),some (.int i64 (i64.wrap ((↑i.toNat:Int)+1)))] []else False else False
 else False else False else R (.exit 0) [some (.lst x n cs),some (.int i64 now),some (.lst y m ds),some (.bool false),some (.int i64
 i)] []):=by kernel_rfl
structure RAO where
 x:Value
 n:Nat
 cs:List V
 now:Int
 y:Value
 m:Nat
 ds:List V
 i:Nat
def raoV(z:RAO):List V:=[.lst z.x z.n z.cs,.int .i64 z.now,.lst z.y z.m z.ds,.bool false,.int .i64 z.i]
def raoJ(_:RAO):St:=[]
def jK(z:RAO):Bool:=okR z.n z.cs&&(okS z.m z.ds&&Nat.ble z.i z.n)
def raoMu(z:RAO):Nat:=z.n-z.i
def raoDec:List (Option V)→St→Option RAO
 |[some (.lst x n cs),some (.int .i64 now),some (.lst y m ds),some (.bool false),some (.int .i64 0)],_=>some ⟨x,n,cs,now,y,m,ds,0⟩
 |_,_=>none
def anRV(now:Int)(cs ds:List V)(i:Nat):Bool:=anR now (ds.map ab) ((crD [] cs).take i) ((crD [] cs).drop i)
def oU(x:Value)(n:Nat)(cs:List V)(now:Int)(y:Value)(m:Nat)(ds:List V)(b:Bool)(K:Exit→List V→St→Prop):Prop:=
 bif b then ∀j:Int,K .ret [.lst x n cs,.int .i64 now,.lst y m ds,.bool true,.int .i64 j] []else ∀j:Int,K (.exit 0) [.lst x n cs,.int .i64 now,.lst y m ds,.bool false,.int .i64 j] []
def tG:Asks RAO:=fun z K=>oU z.x z.n z.cs z.now z.y z.m z.ds (anRV z.now z.cs z.ds z.i) K
theorem rao_roundOk(z:RAO)(hx:jK z=true):al Qq RJ0 9 10 sh 47 26 [0,1,2,6,7] (raoV z) (raoJ z) (aD 0 jK raoV raoJ raoMu tG z):=by
 obtain⟨x,n,cs,now,y,m,ds,i⟩:=z;unfold jK at hx;simp only[ad]at hx;have hx1:okR n cs=true:=hx.1;have hx2:okS m ds=true:=hx.2.1;have p1:i≤n:=aw hx.2.2;obtain⟨p2,p3,p4,p5⟩:=iZ hx1;obtain⟨an,rfl,rfl,p6,p7⟩:=cn hx2;show al Qq RJ0 9 10 sh 47 26 [0,1,2,6,7] [.lst x n cs,.int .i64 now,.lst y an.length (strs an),.bool false,.int .i64 i] [] _;rw[rao_round,ai];unfold zS_0;have out:∀K,tG ⟨x,n,cs,now,y,an.length,strs an,i⟩ K→oU x n cs now y an.length (strs an) (anR now an ((crD [] cs).take i) ((crD [] cs).drop i)) K:=fun K hK=>by
  have hK:oU x n cs now y an.length (strs an) (anRV now cs (strs an) i) K:=hK;unfold anRV at hK;rw[ai]at hK;exact hK
 cases hd:(crD [] cs).drop i with
 |nil=>
  have hi:=bY hd (by omega);rw[bH (show ¬((i:Int)<(n:Int)) by omega),ak];refine⟨_,[],fun K hK=>?_,aV [.lst x n cs,.int .i64 now,.lst y an.length (strs an),.bool false,.int .i64 i] rfl _ rfl _⟩;have hK:=out K hK;rw[hd]at hK;exact hK i
 |cons c r=>
  obtain⟨e1,e2,e3⟩:=bn hd;have C:=oG p2 hd;have d1:decide ((i:Int)<(n:Int))=true:=am (by omega);have d2:decide ((0:Int)≤(i:Int))=true:=am (by omega);have l1:(i*6+1).blt cs.length=true:=ag (by omega);have w2:i64.wrap ((i:Int)+1)=((i+1:Nat):Int):=by rw[IntWalk.i64_in _ ⟨by omega,by omega⟩];omega
  have d4:decide ((0:Int)≤((i+1:Nat):Int))=true:=am (by omega);have d7:(i+1).ble n=true:=ag (by omega);obtain⟨g3,g4⟩:=j6 [] (i+1) cs p2;have hlen:(List.take ((i+1)*6) cs).length=(i+1)*6:=by rw[List.length_take];omega
  have hcl:(List.take (i+1) (crD [] cs)).length=i+1:=by rw[List.length_take];omega
  have g5:isCr [] (List.take ((i+1)*6) cs)=true:=nH (fun v hv=>by unfold nmZ at hv;rw[ad]at hv;exact hv.2) _ g4;have q1:(i+1).ble 9223372036854775807=true:=ag (by omega);have q2:(strs an).length.beq (an.length*1)=true:=by rw[aE,Nat.mul_one];exact a9 _
  have q3:(strs an).length.beq an.length=true:=by rw[aE];exact a9 _
  have q4:an.length.ble 9223372036854775807=true:=ag p6;have ht:(crD [] cs).take (i+1)=(crD [] cs).take i++[c]:=by rw[List.take_add_one,e1];rfl
  have pre:∀b,iG ⟨x,n,cs,now,y,an.length,strs an,i,b,0⟩=true:=fun b=>by
   unfold iG;simp only[ad];exact⟨hx1,ag (show i+1≤n by omega),ag (Nat.zero_le _)⟩
  simp only[d1,d2,w2,d4,d7,bp,Nat.sub_zero,hlen,g3,g5,hcl,a9,q1,q2,q3,q4,l1,C.g,ar,ab,bD,pre,bv,ae];have hda:dAllV now cs i 0=((crD [] cs).take i++[c]).all (dB now):=by
   unfold dAllV dAll;rw[List.drop_zero,Nat.sub_zero,ht]
  have next:anR now an ((crD [] cs).take i) (c::r)=((bW ((crD [] cs).take i++[c])&&(hasS an c.g&&((crD [] cs).take i++[c]).all (dB now)))||anR now an ((crD [] cs).take i++[c]) r):=rfl
  have go:(bW ((crD [] cs).take i++[c])&&(hasS an c.g&&((crD [] cs).take i++[c]).all (dB now)))=false→aD 0 jK raoV raoJ raoMu tG ⟨x,n,cs,now,y,an.length,strs an,i⟩ .normal [some (.lst x n cs),some (.int .i64 now),some (.lst y an.length (strs an)),some (.bool false),some (.int .i64 ((i+1:Nat):Int))] []:=fun h=>by
   refine⟨⟨x,n,cs,now,y,an.length,strs an,i+1⟩,?_,aV _ rfl _ rfl _,by simp only[raoMu];omega,fun K hK=>?_⟩
   ·unfold jK;simp only[ad];exact⟨hx1,hx2,ag (show i+1≤n by omega)⟩
   ·have hK:=out K hK;show oU x n cs now y an.length (strs an) (anRV now cs (strs an) (i+1)) K;unfold anRV;rw[ai,ht,e2];rw[hd,next,h,Bool.false_or]at hK;exact hK
  rw[ht,hda];refine ac (fun h1=>?_) (fun h1=>?_)
  ·refine⟨aV _ rfl _ rfl _,fun j=>ac (fun h2=>?_) (fun h2=>?_)⟩
   ·refine⟨_,[],fun K hK=>?_,aV [.lst x n cs,.int .i64 now,.lst y an.length (strs an),.bool true,.int .i64 i] rfl _ rfl _⟩;have hK:=out K hK;rw[hd,next,h1,h2]at hK;exact hK i
   ·exact go (by rw[h1,h2];rfl)
  ·exact⟨aV _ rfl _ rfl _,fun j=>go (by rw[h1];rfl)⟩
def lkRAO:Nat→Trans→Trans:=ba 26 (bK 0 (szOf Qq 47) [0,1,2,6,7] raoDec jK raoV raoJ tG) (ah 9)
theorem lkRAO_ok:aQ Qq 0 lkRAO 47:=by
 unfold lkRAO;exact bB (aY 9 0 47) (by kernel_rfl) fun f st Q h=>bc (P:=Qq) (T:=RJ0) (k:=0) (lim:=9) (n:=10) (g:=47) (p0:=26) (lk:=sh) aA RJ0_ok lkRIA_ok raoMu rao_roundOk h
def RJ1:Tab:=⟨noT,noL,cI (aT 9) 47 0 lkRAO⟩
theorem RJ1_ok:TabOk3 Qq RJ1:=⟨aJ,aK,bq (au 9) lkRAO_ok⟩
theorem rnc_tree(x:Value)(n:Nat)(cs:List V)(now:Int)(y:Value)(m:Nat)(ds:List V)(R:V→Prop):runW Qq RJ1 9 10 47 [.lst x n cs,.int .i64 now,.lst y m ds] R=
  (
 Fits 0 [.lst x n cs,.int i64 now,.lst y m ds,.bool false,.int i64 0] [] [some (.lst x n cs),some (.int i64 now),some (.lst y m ds),
 some (.bool false),some (.int i64 0)] []∧bif jK {x:=x,n:=n,cs:=cs,now:=now,y:=y,m:=m,ds:=ds,i:=0}then bif anRV now cs ds 0 then
 ∀(j:Int),R (.bool true)else ∀(j:Int),R (.bool false)else False):=by kernel_rfl
theorem ran_sat(x:Value)(n:Nat)(cs:List V)(now:Int)(y:Value)(an:List (List UInt8))(h:okR n cs=true)(h2:an.length≤9223372036854775807):FnSat Qq 47 [.lst x n cs,.int .i64 now,lstS y an] [] (Is (.bool (dg now an none (crD [] cs)),[])):=by
 refine ax (lim:=9) (n:=10) aA RJ1_ok rfl rfl ?_;unfold lstS;rw[rnc_tree];have e:anRV now cs (strs an) 0=dg now an none (crD [] cs):=by
  unfold anRV;rw[ai,List.take_zero,List.drop_zero,anR_eq];rfl
 rw[e];refine⟨aV _ rfl _ rfl _,aa ?_ ?_⟩
 ·unfold jK;simp only[ad];exact⟨h,dH h2,ag (Nat.zero_le _)⟩
 ·cases dg now an none (crD [] cs)with
  |true=>intro j;rfl
  |false=>intro j;rfl
theorem ranG_ok(args:List V)(s:St)(l:Qx)(o:V×St)(h:anG args s=some l)(ho:aL l=some o):FnSat Qq 47 args s (Is o):=by
 unfold anG at h;split at h
 ·rename_i p now q;split at h
  ·rename_i b ls b' an hv hv';cases h;obtain⟨hb,rfl⟩:=aO ho;simp only[ad]at hb;obtain⟨rfl,rfl,h1,h2⟩:=hb;refine cx rfl fun B W0 w m rargs hr ha=>?_;obtain⟨a,r,q1,q2,rfl⟩:=aj ha;obtain⟨a2,r2,q3,q4,rfl⟩:=aj q2;obtain⟨a3,r3,q5,q6,rfl⟩:=aj q4;obtain⟨L,e1,e2,e3⟩:=jC hr hv q1;have hy:=cB hr hv' q5;have q7:=bJ (Ψ:=Frz.of w) (m':=[]) _ _ rfl q3;have q8:=bw (Ψ:=Frz.of w) (m':=[]) _ _ rfl q6;have hl:L.length≤9223372036854775807:=by rw[←cg (f:=(·.c)),e1];exact aw h1
   have:=@ran_sat (Frz.of w) a L.length (crs L) now a3 an (pO hl e3) (aw h2);rw[ju,e1]at this;exact⟨[lstR a L,.int .i64 now,lstS a3 an],@aI _ (Frz.of w) [] _ _ _ _ e2 (@aI _ (Frz.of w) [] _ _ _ _ q7 (@aI _ (Frz.of w) [] _ _ _ _ hy q8)),this⟩
  ·cases h
 ·cases h
theorem names_len(s:List UInt8):(dL s).all az=true:=by
 unfold dL dCd;cases h:decR s with
 |none=>rfl
 |some c=>
  have h1:=(ut h).2.2.1;rw[ad]at h1;show c.l.all az=true;rw[List.all_eq_true];intro t ht;have:=jh (List.all_eq_true.1 h1.2 t ht);exact am (by omega)
def RJG0:Tab:=⟨addT noT 10 rreadT,addS (addS (addS noL 45 iJ) 46 tw) 47 anG,aT 9⟩
theorem RJG0_ok:TabOk3 Qq RJG0:=⟨aR aJ rz,bP (bP (bP aK lD) rE) ranG_ok,au 9⟩
def zT_0(cs:List V):=rdG (List.map ab cs) 0
def zT_1(cs:List V):=List.take (dN (zT_0 cs)*1) (strs (dL (zT_0 cs)))
def zT_2(cs:List V):=rdG (List.map ab cs) 1
def zT_5(cs:List V):=rdG (List.map ab cs) 2
def gT(cs:List V):=rdG (List.map ab cs) 3
def zT_3(cs:List V):=[V.str (dK (zT_0 cs)),V.str (dG (zT_0 cs)),V.nos 1 (dN (zT_0 cs)),V.int i64 (dF (zT_0 cs)),V.int i64 (dU (zT_0 cs)),V.bool (dCa (zT_0 cs)),V.str (dK (zT_2 cs)),V.str (dG (zT_2 cs)),V.nos 2 (dN (zT_2 cs)),V.int i64 (dF (zT_2 cs)),V.int i64 (dU (zT_2 cs)),V.bool (dCa (zT_2 cs)),V.str (dK (zT_5 cs)),V.str (dG (zT_5 cs)),V.nos 3 (dN (zT_5 cs)),V.int i64 (dF (zT_5 cs)),V.int i64 (dU (zT_5 cs)),V.bool (dCa (zT_5 cs)),V.str (dK (gT cs)),V.str (dG (gT cs)),V.nos 4 (dN (gT cs)),V.int i64 (dF (gT cs)),V.int i64 (dU (gT cs)),V.bool (dCa (gT cs))]
def zT_4(cs:List V):=[V.str (dK (zT_0 cs)),V.str (dG (zT_0 cs)),V.nos 1 (dN (zT_0 cs)),V.int i64 (dF (zT_0 cs)),V.int i64 (dU (zT_0 cs)),V.bool (dCa (zT_0 cs)),V.str (dK (zT_2 cs)),V.str (dG (zT_2 cs)),V.nos 2 (dN (zT_2 cs)),V.int i64 (dF (zT_2 cs)),V.int i64 (dU (zT_2 cs)),V.bool (dCa (zT_2 cs)),V.str (dK (zT_5 cs)),V.str (dG (zT_5 cs)),V.nos 3 (dN (zT_5 cs)),V.int i64 (dF (zT_5 cs)),V.int i64 (dU (zT_5 cs)),V.bool (dCa (zT_5 cs))]
def zT_6(cs:List V):=(zT_1 cs).all ar&&(zT_1 cs).length.beq (dN (zT_0 cs))
def zT_7(m:Nat)(ds:List V):=ds.length.beq (m*1)&&(ds.all ar&&ds.length.beq m)&&(true&&(List.map ab ds).length.ble 9223372036854775807)
def zT_8(cs:List V):=[V.str (dK (zT_0 cs)),V.str (dG (zT_0 cs)),V.nos 1 (dN (zT_0 cs)),V.int i64 (dF (zT_0 cs)),V.int i64 (dU (zT_0 cs)),V.bool (dCa (zT_0 cs)),V.str (dK (zT_2 cs)),V.str (dG (zT_2 cs)),V.nos 2 (dN (zT_2 cs)),V.int i64 (dF (zT_2 cs)),V.int i64 (dU (zT_2 cs)),V.bool (dCa (zT_2 cs))]
def zT_9(cs:List V)(h:List UInt8):=(List.map ab (zT_1 cs)).length.ble 9223372036854775807&&((List.map ab (zT_1 cs)).all az&&az h)
def zT_11(cs:List V):=[V.str (dK (zT_0 cs)),V.str (dG (zT_0 cs)),V.nos 1 (dN (zT_0 cs)),V.int i64 (dF (zT_0 cs)),V.int i64 (dU (zT_0 cs)),V.bool (dCa (zT_0 cs))]
theorem rjg_tree(x:Value)(n:Nat)(cs:List V)(h:List UInt8)(now:Int)(y:Value)(m:Nat)(ds:List V)(R:V→Prop):runW Qq RJG0 9 10 14 [.lst x n cs,.str h,.int .i64 now,.lst y m ds] R=
 (
 bif okLL n cs&&(rdN (List.map ab cs)).beq 0 then R (.int u8 3)else bif okLL n cs&&(rdN (List.map ab cs)).beq 1 then bif (dN (zT_0 cs)*
 1).ble (strs (dL (zT_0 cs))).length&&(zT_6 cs)then bif !aS (dF (zT_0 cs)) (dU (zT_0 cs)) now then R (.int u8 1)else bif (dN (zT_0 cs)*1).ble
 (strs (dL (zT_0 cs))).length&&(zT_6 cs)&&(zT_9 cs h)then bif !hasH (List.map ab (zT_1 cs)) h then R (.int u8 2)else bif true&&(isCr [.row
 (zT_11 cs) 31 6,.ro true (strs (dL (zT_0 cs)))] (zT_11 cs)&&true)&&(zT_7 m ds)then bif !dg now (List.map ab ds) none
 [{k:=(dK (zT_0 cs)),g:=(dG (zT_0 cs)),l:=List.map ab (zT_1 cs),f:=dF (zT_0 cs),u:=dU (zT_0 cs),ca:=dCa (zT_0 cs)}]then R (.int
 u8 3)else R (.int u8 0)else False else False else False else bif okLL n cs&&(rdN (List.map ab cs)).beq 2 then bif (dN (zT_0 cs)*1).ble
 (strs (dL (zT_0 cs))).length&&(zT_6 cs)then bif !aS (dF (zT_0 cs)) (dU (zT_0 cs)) now then R (.int u8 1)else bif (dN (zT_0 cs)*1).ble (strs
 (dL (zT_0 cs))).length&&(zT_6 cs)&&(zT_9 cs h)then bif !hasH (List.map ab (zT_1 cs)) h then R (.int u8 2)else bif true&&(isCr [.row (zT_8
 cs) 31 6,.ro true (strs (dL (zT_0 cs))),.ro true (strs (dL (zT_2 cs)))] (zT_8 cs)&&true)&&(zT_7 m ds)then bif !dg now (List.map ab ds) none
 [{k:=(dK (zT_0 cs)),g:=(dG (zT_0 cs)),l:=List.map ab (zT_1 cs),f:=dF (zT_0 cs),u:=dU (zT_0 cs),ca:=dCa (zT_0 cs)},
 {k:=(dK (zT_2 cs)),g:=(dG (zT_2 cs)),l:=List.map ab (List.take (dN (zT_2 cs)*1) (strs (dL (zT_2 cs)))),f:=dF (zT_2 cs),u:=dU (zT_2 cs),ca:=dCa (zT_2 cs)}]
 then R (.int u8 3)else R (.int u8 0)else False else False else False else bif okLL n cs&&(rdN (List.map ab cs)).beq 3 then bif (dN
 (zT_0 cs)*1).ble (strs (dL (zT_0 cs))).length&&(zT_6 cs)then bif !aS (dF (zT_0 cs)) (dU (zT_0 cs)) now then R (.int u8 1)else bif (dN (zT_0
 cs)*1).ble (strs (dL (zT_0 cs))).length&&(zT_6 cs)&&(zT_9 cs h)then bif !hasH (List.map ab (zT_1 cs)) h then R (.int u8 2)else bif true&&
 (isCr [.row (zT_4 cs) 31 6,.ro true (strs (dL (zT_0 cs))),.ro true (strs (dL (zT_2 cs))),.ro true (strs (dL (zT_5 cs)))] (zT_4 cs)&&true)&&
 (zT_7 m ds)then bif !dg now (List.map ab ds) none
 [{k:=(dK (zT_0 cs)),g:=(dG (zT_0 cs)),l:=List.map ab (zT_1 cs),f:=dF (zT_0 cs),u:=dU (zT_0 cs),ca:=dCa (zT_0 cs)},
 {k:=(dK (zT_2 cs)),g:=(dG (zT_2 cs)),l:=List.map ab (List.take (dN (zT_2 cs)*1) (strs (dL (zT_2 cs)))),f:=dF (zT_2 cs),u:=dU (zT_2 cs),ca:=dCa (zT_2 cs)},
 {k:=(dK (zT_5 cs)),g:=(dG (zT_5 cs)),l:=List.map ab (List.take (dN (zT_5 cs)*1) (strs (dL (zT_5 cs)))),f:=dF (zT_5 cs),u:=dU (zT_5 cs),ca:=dCa (zT_5 cs)}]
 then R (.int u8 3)else R (.int u8 0)else False else False else False else bif okLL n cs then bif (dN (zT_0 cs)*1).ble (strs (dL (zT_0
 cs))).length&&(zT_6 cs)then bif !aS (dF (zT_0 cs)) (dU (zT_0 cs)) now then R (.int u8 1)else bif (dN (zT_0 cs)*1).ble (strs (dL (zT_0
 cs))).length&&(zT_6 cs)&&(zT_9 cs h)then bif !hasH (List.map ab (zT_1 cs)) h then R (.int u8 2)else bif true&&(isCr [.row (zT_3 cs) 31 6,
 .ro true (strs (dL (zT_0 cs))),.ro true (strs (dL (zT_2 cs))),.ro true (strs (dL (zT_5 cs))),.ro true (strs (dL (gT cs)))] (zT_3 cs)&&true)
 &&(zT_7 m ds)then bif !dg now (List.map ab ds) none
 [{k:=(dK (zT_0 cs)),g:=(dG (zT_0 cs)),l:=List.map ab (zT_1 cs),f:=dF (zT_0 cs),u:=dU (zT_0 cs),ca:=dCa (zT_0 cs)},
 {k:=(dK (zT_2 cs)),g:=(dG (zT_2 cs)),l:=List.map ab (List.take (dN (zT_2 cs)*1) (strs (dL (zT_2 cs)))),f:=dF (zT_2 cs),u:=dU (zT_2 cs),ca:=dCa (zT_2 cs)},
 {k:=(dK (zT_5 cs)),g:=(dG (zT_5 cs)),l:=List.map ab (List.take (dN (zT_5 cs)*1) (strs (dL (zT_5 cs)))),f:=dF (zT_5 cs),u:=dU (zT_5 cs),ca:=dCa (zT_5 cs)},
 {k:=(dK (gT cs)),g:=(dG (gT cs)),l:=List.map ab (List.take (dN (gT cs)*1) (strs (dL (gT cs)))),f:=dF (gT cs),u:=dU (gT cs),ca:=dCa (gT cs)}]
 then R (.int u8 3)else R (.int u8 0)else False else False else False else False):=by kernel_rfl
theorem rjudge_sat(x:Value)(l:List (List UInt8))(h:List UInt8)(now:Int)(y:Value)(an:List (List UInt8))(h1:l.length≤9223372036854775807)(h2:an.length≤9223372036854775807)(ha:l.all az=true)(hh:az h=true):
  FnSat Qq 14 [lstS x l,.str h,.int .i64 now,lstS y an] [] (Is (.int .u8 (dc h now an (bM l)),[])):=by
 refine ax (lim:=9) (n:=10) aA RJG0_ok rfl rfl ?_;unfold lstS;have hL:okLL l.length (strs l)=true:=by unfold okLL iK;rw[dH h1,ai,ha];rfl
 rw[rjg_tree,ai,hL];unfold zT_11 zT_9 zT_8 zT_7 zT_6 zT_4 zT_3 gT zT_5 zT_2 zT_1 zT_0;have q9:=names_len;have q1:∀s,(dN s*1).ble (strs (dL s)).length=true:=fun s=>by rw[aE,Nat.mul_one];exact ag (Nat.le_refl _)
 have q2:∀s,List.take (dN s*1) (strs (dL s))=strs (dL s):=fun s=>cz (by rw[aE,Nat.mul_one];exact Nat.le_refl _);have q3:∀s,(strs (dL s)).length.beq (dN s)=true:=fun s=>by rw[aE];exact a9 _
 have q4:∀s,(dL s).length.ble 9223372036854775807=true:=fun s=>ag (by have:=i9 s;omega);have q5:(strs an).length.beq (an.length*1)=true:=by rw[aE,Nat.mul_one];exact a9 _
 have q6:(strs an).length.beq an.length=true:=by rw[aE];exact a9 _
 have q7:an.length.ble 9223372036854775807=true:=ag h2;simp only[q9,hh,q1,q2,q3,q4,q5,q6,q7,bD,ai,aH,Bool.and_true,bv,ae];have h4:=(cJ l).1;rcases(by omega:rdN l=0∨rdN l=1∨rdN l=2∨rdN l=3∨rdN l=4)with hj|hj|hj|hj|hj
 ·have hR:bM l=[]:=bT hj;rw[hR,hj];rfl
 ·have hR:bM l=[crOf (rdG l 0)]:=bT hj;rw[hR,hj,show Nat.beq 1 0=false from rfl,ak,show Nat.beq 1 1=true from rfl,ae];refine ac (fun a=>congrArg (V.int .u8) (gB (c:=crOf (rdG l 0)) a).symm) (fun a=>?_);refine ac (fun b=>congrArg (V.int .u8) (gA (c:=crOf (rdG l 0)) a b).symm) (fun b=>?_);refine aa (by show isCr _ (rdA (rdG l 0) 1 [])=true;exact((dO (k:=1) (s:=rdG l 0) rfl).1.trans rfl)) ?_;exact ac (fun d=>congrArg (V.int .u8) (gz (c:=crOf (rdG l 0)) a b d).symm) (fun d=>congrArg (V.int .u8) (gC (c:=crOf (rdG l 0)) a b d).symm)
 ·have hR:bM l=[crOf (rdG l 0),crOf (rdG l 1)]:=bT hj;rw[hR,hj,show Nat.beq 2 0=false from rfl,ak,show Nat.beq 2 1=false from rfl,ak,show Nat.beq 2 2=true from rfl,ae];refine ac (fun a=>congrArg (V.int .u8) (gB (c:=crOf (rdG l 0)) a).symm) (fun a=>?_);refine ac (fun b=>congrArg (V.int .u8) (gA (c:=crOf (rdG l 0)) a b).symm) (fun b=>?_);refine aa (by show isCr _ (rdA (rdG l 0) 1 (rdA (rdG l 1) 2 []))=true;exact((dO (k:=1) (s:=rdG l 0) rfl).1.trans ((dO (k:=2) (s:=rdG l 1) rfl).1.trans rfl))) ?_;exact ac (fun d=>congrArg (V.int .u8) (gz (c:=crOf (rdG l 0)) a b d).symm) (fun d=>congrArg (V.int .u8) (gC (c:=crOf (rdG l 0)) a b d).symm)
 ·have hR:bM l=[crOf (rdG l 0),crOf (rdG l 1),crOf (rdG l 2)]:=bT hj;rw[hR,hj,show Nat.beq 3 0=false from rfl,ak,show Nat.beq 3 1=false from rfl,ak,show Nat.beq 3 2=false from rfl,ak,show Nat.beq 3 3=true from rfl,ae];refine ac (fun a=>congrArg (V.int .u8) (gB (c:=crOf (rdG l 0)) a).symm) (fun a=>?_);refine ac (fun b=>congrArg (V.int .u8) (gA (c:=crOf (rdG l 0)) a b).symm) (fun b=>?_);refine aa (by show isCr _ (rdA (rdG l 0) 1 (rdA (rdG l 1) 2 (rdA (rdG l 2) 3 [])))=true;exact((dO (k:=1) (s:=rdG l 0) rfl).1.trans ((dO (k:=2) (s:=rdG l 1) rfl).1.trans ((dO (k:=3) (s:=rdG l 2) rfl).1.trans rfl)))) ?_;exact ac (fun d=>congrArg (V.int .u8) (gz (c:=crOf (rdG l 0)) a b d).symm) (fun d=>congrArg (V.int .u8) (gC (c:=crOf (rdG l 0)) a b d).symm)
 ·have hR:bM l=[crOf (rdG l 0),crOf (rdG l 1),crOf (rdG l 2),crOf (rdG l 3)]:=bT hj;rw[hR,hj,show Nat.beq 4 0=false from rfl,ak,show Nat.beq 4 1=false from rfl,ak,show Nat.beq 4 2=false from rfl,ak,show Nat.beq 4 3=false from rfl,ak];refine ac (fun a=>congrArg (V.int .u8) (gB (c:=crOf (rdG l 0)) a).symm) (fun a=>?_);refine ac (fun b=>congrArg (V.int .u8) (gA (c:=crOf (rdG l 0)) a b).symm) (fun b=>?_);refine aa (by show isCr _ (rdA (rdG l 0) 1 (rdA (rdG l 1) 2 (rdA (rdG l 2) 3 (rdA (rdG l 3) 4 []))))=true;exact((dO (k:=1) (s:=rdG l 0) rfl).1.trans ((dO (k:=2) (s:=rdG l 1) rfl).1.trans ((dO (k:=3) (s:=rdG l 2) rfl).1.trans ((dO (k:=4) (s:=rdG l 3) rfl).1.trans rfl))))) ?_;exact ac (fun d=>congrArg (V.int .u8) (gz (c:=crOf (rdG l 0)) a b d).symm) (fun d=>congrArg (V.int .u8) (gC (c:=crOf (rdG l 0)) a b d).symm)
theorem us_tree(u s m:Int)(d:List UInt8)(R:V→Prop):runW Qq T3 9 10 99 [.agg [.int .u8 u,.int .u8 s,.int .u8 m,.str d]] R=
  (
 bif u !=2 then bif u !=3 then R (.bool false)else bif decide (i64.wrap s≥2)then R (.bool false)else bif decide (i64.wrap m≥2)then R (.bool
 false)else bif !d==[]then bif decide ((↑d.length:Int)≤512)then bif m==0 then R (.bool true)else R (.bool ((↑d.length:Int)==32))else R (.bool false)
 else R (.bool false)else bif decide (i64.wrap s≥2)then R (.bool false)else bif decide (i64.wrap m≥2)then R (.bool false)else bif !d==[]then
 bif decide ((↑d.length:Int)≤512)then bif m==0 then R (.bool true)else R (.bool ((↑d.length:Int)==32))else R (.bool false)else R (.bool false)):=by kernel_rfl
def TD5:Tab:=⟨addP (addT (addT (addP noT 75 mj) 76 sumT) 42 decN) 39 digP,noL,aT 9⟩
theorem TD5_ok:TabOk3 Qq TD5:=⟨bg (aR (aR (bg aJ spki_ok) sum_ok) decN_ok) dig_ok,aK,au 9⟩
theorem data_tree(u s m:Int)(d c:List UInt8)(R:V→Prop):runW Qq TD5 9 10 98 [.agg [.int .u8 u,.int .u8 s,.int .u8 m,.str d],.str c] R=
  (
 bif Nat.blt 512 c.length then R (.tuple [.str [],.bool false])else bif decE c !=0 then R (.tuple [.str [],.bool false])else bif decide (i64.wrap s≥2)
 then R (.tuple [.str [],.bool false])else bif decide (i64.wrap m≥2)then R (.tuple [.str [],.bool false])else bif decide (0≤m)&&decide (m<2)
 then bif m==0 then bif decide (0≤s)&&decide (s<2)then bif s==0 then R (.tuple [.str c,.bool true])else bif s==1 then R (.tuple [.str (cy (dK c)),
 .bool true])else False else False else bif m==1 then bif decide (0≤s)&&decide (s<2)then bif s==0 then bif okL c then R (.tuple [.str (sumF c),.bool
 true])else False else bif s==1 then bif okL (cy (dK c))then R (.tuple [.str (sumF (cy (dK c))),.bool true])else False else False else False else False else
 False):=by kernel_rfl
def usB(u s m:Int)(d:List UInt8):Bool:=(u==2||u==3)&&(!decide (i64.wrap s≥2)&&(!decide (i64.wrap m≥2)&&(!(d==[])&&(decide ((d.length:Int)≤512)&&(m==0||(d.length:Int)==32)))))
def usP:List V→Option V
 |[.agg [.int .u8 u,.int .u8 s,.int .u8 m,.str d]]=>some (.bool (usB u s m d))
 |_=>none
theorem us_ok(args:List V)(v:V)(h:usP args=some v):FnSat Qq 99 args [] (Is (v,[])):=by
 unfold usP at h;split at h
 ·rename_i u s m d;cases h;refine ax (lim:=9) (n:=10) aA qS rfl rfl ?_;rw[us_tree];unfold usB;have e:∀n:Int,(u !=n)=!(u==n):=fun n=>rfl;rw[e 2,e 3];cases u==2<;>cases u==3<;>cases decide (i64.wrap s≥2)<;>cases decide (i64.wrap m≥2)<;>cases d==[]<;>cases decide ((d.length:Int)≤512)<;>cases m==0<;>rfl
 ·cases h
def takeB(s:Int)(c:List UInt8):List UInt8:=bif s==0 then c else cy (dK c)
def qB(s m:Int)(c:List UInt8):List UInt8:=bif m==0 then takeB s c else sumF (takeB s c)
def fa(s m:Int)(c:List UInt8):Bool:=(decE c==0)&&(!decide (i64.wrap s≥2)&&!decide (i64.wrap m≥2))
def dataT:List V→Option (Qx)
 |[.agg [.int .u8 _,.int .u8 s,.int .u8 m,.str _],.str c]=>some [(decide (0≤s∧s≤255∧0≤m∧m≤255),(.tuple [.str (bif fa s m c then qB s m c else[]),.bool (fa s m c)],[]))]
 |_=>none
theorem spki_len(k:List UInt8):(cy k).length≤72:=by
 unfold cy;split
 ·simp
 ·split
  ·simp
  ·have h1:=cj 4 k;have h2:=cj 48 (putB 4 k);omega
theorem data_ok(args:List V)(l:Qx)(o:V×St)(h:dataT args=some l)(ho:aL l=some o):FnSat Qq 98 args [] (Is o):=by
 unfold dataT at h;split at h
 ·rename_i u s m d c;cases h;obtain⟨hk,rfl⟩:=aO ho;have hk:=aN hk;refine ax (lim:=9) (n:=10) aA TD5_ok rfl rfl ?_;rw[data_tree];have ws:i64.wrap s=s:=IntWalk.i64_in _ ⟨by omega,by omega⟩;have wm:i64.wrap m=m:=IntWalk.i64_in _ ⟨by omega,by omega⟩;have no:fa s m c=false→V.tuple [V.str [],V.bool false]=V.tuple [.str (bif fa s m c then qB s m c else[]),.bool (fa s m c)]:=fun h=>by rw[h];rfl
  refine ac (fun h1=>no (by unfold fa;rw[(by simpa using f7 h1:(decE c==0)=false)];rfl)) (fun h1=>?_);refine ac (fun h2=>no (by unfold fa;rw[(by simpa using h2:(decE c==0)=false)];rfl)) (fun h2=>?_);have h2:(decE c==0)=true:=by simpa using h2
  refine ac (fun h3=>no (by unfold fa;rw[h3];simp)) (fun h3=>?_);refine ac (fun h4=>no (by unfold fa;rw[h4];simp)) (fun h4=>?_);have yes:fa s m c=true:=by unfold fa;rw[h2,h3,h4];rfl
  rw[ws]at h3;rw[wm]at h4;have h3:=bk h3;have h4:=bk h4;have kc:okL c=true:=am (by
   have:¬512<c.length:=fun hb=>by have:=ag hb;exact absurd (show Nat.blt 512 c.length=true from this) (by rw[h1];decide)
   omega)
  have kk:okL (cy (dK c))=true:=am (by have:=spki_len (dK c);omega);rw[yes,kc,kk];refine aa (by rw[ad];exact⟨am (by omega),am (by omega)⟩) ?_;have qs:(decide (0≤s)&&decide (s<2))=true:=by rw[ad];exact⟨am (by omega),am (by omega)⟩
  rw[qs];unfold qB takeB;have s1:(s==0)=false→(s==1)=true:=fun h=>beq_iff_eq.2 (by have:s≠0:=(by simpa using h);omega);have m1:(m==0)=false→(m==1)=true:=fun h=>beq_iff_eq.2 (by have:m≠0:=(by simpa using h);omega);cases hm:m==0 with
  |true=>
   cases hs:s==0 with
   |true=>rfl
   |false=>rw[s1 hs];rfl
  |false=>
   rw[m1 hm];cases hs:s==0 with
   |true=>rfl
   |false=>rw[s1 hs];rfl
 ·cases h
def TD6:Tab:=⟨addT (addP noT 99 usP) 98 dataT,noL,aT 9⟩
theorem TD6_ok:TabOk3 Qq TD6:=⟨aR (bg aJ us_ok) data_ok,aK,au 9⟩
theorem of_tree(u s m:Int)(d c:List UInt8)(R:V→Prop):runW Qq TD6 9 10 193 [.agg [.int .u8 u,.int .u8 s,.int .u8 m,.str d],.str c] R=
  (
 bif decide (0≤s∧s≤255∧0≤m∧m≤255)then bif fa s m c then bif usB u s m d then R (.bool ((bif fa s m c then qB s m c else[])==d))else R
 (.bool false)else R (.bool false)else False):=by kernel_rfl
def ofB(u s m:Int)(d c:List UInt8):Bool:=fa s m c&&(usB u s m d&&(qB s m c==d))
def u8B(n:Int):Bool:=decide (0≤n∧n≤255)
def ofT:List V→Option (Qx)
 |[.agg [.int .u8 u,.int .u8 s,.int .u8 m,.str d],.str c]=>some [(u8B s&&u8B m,(.bool (ofB u s m d c),[]))]
 |_=>none
theorem of_ok(args:List V)(l:Qx)(o:V×St)(h:ofT args=some l)(ho:aL l=some o):FnSat Qq 193 args [] (Is o):=by
 unfold ofT at h;split at h
 ·rename_i u s m d c;cases h;obtain⟨hk,rfl⟩:=aO ho;rw[ad]at hk;have h1:=aN hk.1;have h2:=aN hk.2;refine ax (lim:=9) (n:=10) aA TD6_ok rfl rfl ?_;rw[of_tree,am (show 0≤s∧s≤255∧0≤m∧m≤255 from⟨h1.1,h1.2,h2.1,h2.2⟩),ae];unfold ofB;cases fa s m c<;>cases usB u s m d<;>rfl
 ·cases h
end Go.Proofs.YtebkeppoicllmaaGreatDoor
namespace Go.Proofs.YtebkeppoicllmaaGreatDoor
open Go.IntKind (u8 u16 u32 u64 i8 i16 i32 i64)
open Go Go.Vm Go.RowKit
theorem oV{Φ:Frz}{B:Nat}{W0 w:World}{m:List MB}{st:St}(hr:Rel B W0 m st w){b:Nat}{v:V}{t:TypeId}{sz:Nat}(hb:st[b]?=some (.row [v] t sz))(hv:i3 v=true){x:Value}(hx:real m (.ptr b 0)=some x):∃y,@real _ (Frz.of w) [] (.lptr y 1 [v] 0)=some x:=by
 obtain⟨e,he,hk⟩:=hr.at hb;obtain⟨g1,g0,arr,xs,⟨fz,_,g2⟩,g3,g4,_⟩:=hk;obtain⟨a,r,q1,q2,rfl⟩:=aj g3;simp only[ap,af]at q2;subst q2;have h0:@ef (Frz.of w) v=some a:=pA hr.more _ _ (lM hv q1);have hx2:x=.pointer (some ⟨e.blk,e.off+0,none⟩):=by
  simp only[real]at hx;cases h1:at? m b with
  |none=>rw[h1]at hx;cases hx
  |some e'=>
   rw[h1]at hx;have:=cp h1;rw[he]at this;cases this;simpa using hx.symm
 subst hx2;refine⟨.slice (some ⟨e.blk,e.off,none⟩) 1 1,@fI _ (Frz.of w) [] e.blk e.off 1 1 0 [v] [a] arr t fz (by simp only[bh,h0]) (by omega) (by omega) g2 (fun i y hy=>?_)⟩;cases i with
 |zero=>
  simp only[ce,af]at hy;subst hy;rw[g0];have:=congrArg (fun l=>l[0]?) g4;simpa using this
 |succ i=>simp at hy
theorem func1{Φ Ψ:Frz}{m m':List MB}{fn:Fn}{v:V}{x:Value}(h:@real _ Φ m (.func fn [] [v])=some x):∃y,@real _ Φ m v=some y∧∀v',@real _ Ψ m' v'=some y→@real _ Ψ m' (.func fn [] [v'])=some x:=by
 cases hv:@real _ Φ m v with
 |none=>simp[real,ap,hv]at h
 |some y=>
  refine⟨y,rfl,fun v' hv'=>?_⟩;simp only[real,ap,hv]at h;simp only[real,ap,hv'];exact h
variable [Φ:Frz]
def LT0:Tab:=⟨noT,addS noL 43 iJ,aT 9⟩
theorem LT0_ok:TabOk3 Qq LT0:=⟨aJ,bP aK nS,au 9⟩
def zV_1(cs:List V)(i:Int):=cs.getD (i.toNat*6+2) (V.bool false)
def zV_0(cs:List V)(i:Int):=[Blk.row [V.str (ab (cs.getD (i.toNat*6+0) (V.bool false))),V.str (ab (cs.getD (i.toNat*6+1) (V.bool false))),V.lst (xOfV (zV_1 cs i)) (nOfV (zV_1 cs i)) (ij (zV_1 cs i)),V.int i64 (aq (cs.getD (i.toNat*6+3) (V.bool false))),V.int i64 (aq (cs.getD (i.toNat*6+4) (V.bool false))),V.bool (ew (cs.getD (i.toNat*6+5) (V.bool false)))] 32 6]
theorem lt_round(x:Value)(n:Nat)(cs:List V)(y:Value)(now:Int)(i:Int)(R:Qz):al Qq LT0 9 10 (ah 9) 216 26 [0,1,4,7,8] [.lst x n cs,.func (.func 195) [] [.lptr y 1 [.int .i64 now] 0],.int .i64 0,.int .i64 n,.int .i64 i] [] R=
 (
 bif decide (i<(↑n:Int))then bif decide (0≤i)&&decide (i<(↑n:Int))then bif (i.toNat*6+6).ble cs.length then bif ar (cs.getD (i.toNat*6+
 0) (.bool false))then bif ar (cs.getD (i.toNat*6+1) (.bool false))then bif iI (zV_1 cs i)then bif ao i64 (cs.getD (i.toNat*6+3)
 (.bool false))then bif ao i64 (cs.getD (i.toNat*6+4) (.bool false))then bif de (cs.getD (i.toNat*6+5) (.bool false))then bif
 (ij (zV_1 cs i)).length.beq (nOfV (zV_1 cs i)*1)&&((ij (zV_1 cs i)).all ar&&(ij (zV_1 cs i)).length.beq (nOfV (zV_1 cs i)))then bif !aS
 ((aq (cs.getD (i.toNat*6+3) (.bool false)))) ((aq (cs.getD (i.toNat*6+4) (.bool false)))) (now)then R .ret [some (.lst x n cs),some
 (V.func (Fn.func 195) [] [V.lptr y 1 [.int i64 now] 0]),some (.int i64 i),some (.int i64 (↑n:Int)),some (.int i64 i)]
 (zV_0 cs i)else R .normal [some (.lst x n cs),some (V.func (Fn.func 195) [] [V.lptr y 1 [.int i64 now] 0]),some (.int i64 0),some
 (.int i64 (↑n:Int)),some (.int i64 (i64.wrap (i+1)))] (zV_0 cs i)else False else False else False else False else False else
 False else False else False else False else R (.exit 0) [some (.lst x n cs),some (V.func (Fn.func 195) [] [V.lptr y 1 [.int i64 now] 0]),some
 (.int i64 0),some (.int i64 (↑n:Int)),some (.int i64 i)] []):=by kernel_rfl
def ff(now:Int)(L:List CR):Bool:=L.any fun c=>!aS c.f c.u now
structure LT where
 x:Value
 n:Nat
 cs:List V
 y:Value
 now:Int
 i:Nat
def ltV(z:LT):List V:=[.lst z.x z.n z.cs,.func (.func 195) [] [.lptr z.y 1 [.int .i64 z.now] 0],.int .i64 0,.int .i64 z.n,.int .i64 z.i]
def ltJ(_:LT):St:=[]
def pX(z:LT):Bool:=okR z.n z.cs&&Nat.ble z.i z.n
def ltMu(z:LT):Nat:=z.n-z.i
def ltDec:List (Option V)→St→Option LT
 |[some (.lst x n cs),some (.func (.func 195) [] [.lptr y 1 [.int .i64 now] 0]),some (.int .i64 0),some (.int .i64 _),some (.int .i64 0)],_=>some ⟨x,n,cs,y,now,0⟩
 |_,_=>none
def lateV(now:Int)(cs:List V)(i:Nat):Bool:=ff now ((crD [] cs).drop i)
def ltOutG(x:Value)(n:Nat)(cs:List V)(y:Value)(now:Int)(b:Bool)(K:Exit→List V→St→Prop):Prop:=
 bif b then ∀i:Nat,K .ret [.lst x n cs,.func (.func 195) [] [.lptr y 1 [.int .i64 now] 0],.int .i64 i,.int .i64 n,.int .i64 i] []else K (.exit 0) [.lst x n cs,.func (.func 195) [] [.lptr y 1 [.int .i64 now] 0],.int .i64 0,.int .i64 n,.int .i64 n] []
def ltOut:Asks LT:=fun z K=>ltOutG z.x z.n z.cs z.y z.now (lateV z.now z.cs z.i) K
theorem lt_roundOk(z:LT)(hx:pX z=true):al Qq LT0 9 10 (ah 9) 216 26 [0,1,4,7,8] (ltV z) (ltJ z) (aD 0 pX ltV ltJ ltMu ltOut z):=by
 obtain⟨x,n,cs,y,now,i⟩:=z;unfold pX at hx;rw[ad]at hx;have hx1:okR n cs=true:=hx.1;have p1:i≤n:=aw hx.2;obtain⟨p2,p3,p4,p5⟩:=iZ hx1;show al Qq LT0 9 10 (ah 9) 216 26 [0,1,4,7,8] [.lst x n cs,.func (.func 195) [] [.lptr y 1 [.int .i64 now] 0],.int .i64 0,.int .i64 n,.int .i64 i] [] _;rw[lt_round];unfold zV_0 zV_1;have out:∀K,ltOut ⟨x,n,cs,y,now,i⟩ K→ltOutG x n cs y now (ff now ((crD [] cs).drop i)) K:=fun K hK=>hK;have fl:∀a j:Int,aM [.lst x n cs,.func (.func 195) [] [.lptr y 1 [.int .i64 now] 0],.int .i64 a,.int .i64 n,.int .i64 j]=true:=fun _ _=>rfl;cases hd:(crD [] cs).drop i with
 |nil=>
  have hi:=bY hd (by omega);rw[bH (show ¬((i:Int)<(n:Int)) by omega),ak];refine⟨_,[],fun K hK=>?_,aV _ (fl 0 i) _ rfl _⟩;have hK:=out K hK;rw[hd]at hK;have hn:i=n:=by omega
  rw[hn];exact hK
 |cons c r=>
  obtain⟨e1,e2,e3⟩:=bn hd;have C:=oG p2 hd;obtain⟨xn,hn⟩:=C.l;have d1:decide ((i:Int)<(n:Int))=true:=am (by omega);have d2:decide ((0:Int)≤(i:Int))=true:=am (by omega);have l6:(i*6+6).ble cs.length=true:=ag (by omega);have w2:i64.wrap ((i:Int)+1)=((i+1:Nat):Int):=by rw[IntWalk.i64_in _ ⟨by omega,by omega⟩];omega
  have q5:(strs c.l).length.beq (c.l.length*1)=true:=by rw[aE,Nat.mul_one];exact a9 _
  have q6:(strs c.l).length.beq c.l.length=true:=by rw[aE];exact a9 _
  simp only[d1,d2,bp,l6,C.k,C.g,hn,C.f,C.u,C.ca,ar,ab,iI,xOfV,nOfV,ij,ao,aq,de,ew,decide_true,w2,q5,q6,bD,bv,ae];have next:ff now (c::r)=(!aS c.f c.u now||ff now r):=rfl
  refine ac (fun h=>?_) (fun h=>?_)
  ·refine⟨_,[],fun K hK=>?_,aV _ (fl i i) _ rfl _⟩;have hK:=out K hK;rw[hd,next,h]at hK;exact hK i
  ·refine⟨⟨x,n,cs,y,now,i+1⟩,?_,aV _ (fl 0 _) _ rfl _,by simp only[ltMu];omega,fun K hK=>?_⟩
   ·unfold pX;rw[ad];exact⟨hx1,ag (show i+1≤n by omega)⟩
   ·have hK:=out K hK;rw[hd,next,h,Bool.false_or]at hK;show ltOutG x n cs y now (lateV now cs (i+1)) K;unfold lateV;rw[e2];exact hK
def lkLT:Nat→Trans→Trans:=ba 26 (bK 0 (szOf Qq 216) [0,1,4,7,8] ltDec pX ltV ltJ ltOut) (ah 9)
theorem lkLT_ok:aQ Qq 0 lkLT 216:=by
 unfold lkLT;exact bB (aY 9 0 216) (by kernel_rfl) fun f st Q h=>bc (P:=Qq) (T:=LT0) (k:=0) (lim:=9) (n:=10) (g:=216) (p0:=26) (lk:=ah 9) aA LT0_ok (bf 9 _ _) ltMu lt_roundOk h
def LT1:Tab:=⟨noT,noL,cI (aT 9) 216 0 lkLT⟩
theorem LT1_ok:TabOk3 Qq LT1:=⟨aJ,aK,bq (au 9) lkLT_ok⟩
theorem late_tree(x:Value)(n:Nat)(cs:List V)(y:Value)(now:Int)(R:V→Prop):runW Qq LT1 9 10 194 [.lst x n cs,.func (.func 195) [] [.lptr y 1 [.int .i64 now] 0]] R=
  (
 Fits 0 [.lst x n cs,V.func (Fn.func 195) [] [V.lptr y 1 [.int i64 now] 0],.int i64 0,.int i64 (↑n:Int),.int i64 0] [] [some
 (.lst x n cs),some (V.func (Fn.func 195) [] [V.lptr y 1 [.int i64 now] 0]),some (.int i64 0),some (.int i64 (↑n:Int)),some (.int
 i64 0)] []∧bif pX {x:=x,n:=n,cs:=cs,y:=y,now:=now,i:=0}then bif lateV now cs 0 then ∀(i:Nat),R (.bool true)else R (.bool false)
 else False):=by kernel_rfl
theorem late_sat(x:Value)(n:Nat)(cs:List V)(y:Value)(now:Int)(h:okR n cs=true):FnSat Qq 194 [.lst x n cs,.func (.func 195) [] [.lptr y 1 [.int .i64 now] 0]] [] (Is (.bool (ff now (crD [] cs)),[])):=by
 refine ax (lim:=9) (n:=10) aA LT1_ok rfl rfl ?_;rw[late_tree];have e:lateV now cs 0=ff now (crD [] cs):=rfl;rw[e];refine⟨aV _ rfl _ rfl _,aa (by unfold pX;rw[ad];exact⟨h,ag (Nat.zero_le _)⟩) ?_⟩;cases ff now (crD [] cs)with
 |false=>rfl
 |true=>intro _;rfl
def lateG:List V→St→Option (Qx)
 |[p,.func (.func 195) [] [.ptr b 0]],st=>match gV st p,st[b]? with
  |some (c,l),some (.row [.int .i64 now] _ _)=>some [(c&&Nat.ble l.length 9223372036854775807,(.bool (ff now l),st))]
  |_,_=>none
 |_,_=>none
theorem lateG_ok(args:List V)(s:St)(l:Qx)(o:V×St)(h:lateG args s=some l)(ho:aL l=some o):FnSat Qq 194 args s (Is o):=by
 unfold lateG at h;split at h
 ·rename_i p b;split at h
  ·rename_i c ls now t sz hv hb;cases h;obtain⟨hk,rfl⟩:=aO ho;rw[ad]at hk;obtain⟨rfl,h1⟩:=hk;refine cx rfl fun B W0 w m rargs hr ha=>?_;obtain⟨a,r,q1,q2,rfl⟩:=aj ha;obtain⟨a2,r2,q3,q4,rfl⟩:=aj q2;simp only[ap,af]at q4;subst q4;obtain⟨L,e1,e2,e3⟩:=jC hr hv q1;have hl:L.length≤9223372036854775807:=by rw[←cg (f:=(·.c)),e1];exact aw h1
   have hf:∃y,@real _ (Frz.of w) [] (.func (.func 195) [] [.lptr y 1 [.int .i64 now] 0])=some a2:=by
    obtain⟨xp,hp,hf⟩:=func1 (Ψ:=Frz.of w) (m':=[]) q3;obtain⟨y,hy⟩:=oV hr hb rfl hp;exact⟨y,hf _ hy⟩
   obtain⟨y,hy⟩:=hf;have:=@late_sat (Frz.of w) a L.length (crs L) y now (pO hl e3);rw[ju,e1]at this;exact⟨[lstR a L,.func (.func 195) [] [.lptr y 1 [.int .i64 now] 0]],@aI _ (Frz.of w) [] _ _ _ _ e2 (@aI _ (Frz.of w) [] _ _ _ _ hy rfl),this⟩
  ·cases h
 ·cases h
end Go.Proofs.YtebkeppoicllmaaGreatDoor
namespace Go.Proofs.YtebkeppoicllmaaGreatDoor
open Go.IntKind (u8 u16 u32 u64 i8 i16 i32 i64)
open Go Go.Vm Go.RowKit
variable [Φ:Frz]
def lateGV(OK:V→St→Bool)(LV:V→Int→St→Bool):List V→St→Option (Qx)
 |[p,.func (.func 195) [] [.ptr b 0]],st=>match st[b]? with
  |some (.row [.int .i64 now] _ _)=>some [(OK p st,(.bool (LV p now st),st))]
  |_=>none
 |_,_=>none
def nE(OK:V→St→Bool)(KV:V→St→Bool):List V→St→Option (Qx)
 |[p],st=>some [(OK p st,(.bool (KV p st),st))]
 |_,_=>none
def rOK(p:V)(st:St):Bool:=match gV st p with
 |some (b,l)=>b&&Nat.ble l.length 9223372036854775807
 |none=>false
def mK(p:V)(now:Int)(st:St):Bool:=match gV st p with
 |some (_,l)=>ff now l
 |none=>false
def cM(p:V)(st:St):Bool:=match gV st p with
 |some (_,l)=>bW l
 |none=>false
theorem lateGV_ok(args:List V)(s:St)(l:Qx)(o:V×St)(h:lateGV rOK mK args s=some l)(ho:aL l=some o):FnSat Qq 194 args s (Is o):=by
 unfold lateGV at h;split at h
 ·rename_i p b;split at h
  ·rename_i now t sz hb;cases h;unfold rOK mK at ho;cases hv:gV s p with
   |none=>rw[hv]at ho;simp[aL]at ho
   |some a=>
    rw[hv]at ho;exact lateG_ok [p,.func (.func 195) [] [.ptr b 0]] s _ o (by simp only[lateG,hv,hb]) ho
  ·cases h
 ·cases h
theorem linkGV_ok(args:List V)(s:St)(l:Qx)(o:V×St)(h:nE rOK cM args s=some l)(ho:aL l=some o):FnSat Qq 91 args s (Is o):=by
 unfold nE at h;split at h
 ·rename_i p;cases h;unfold rOK cM at ho;cases hv:gV s p with
  |none=>rw[hv]at ho;simp[aL]at ho
  |some a=>
   rw[hv]at ho;exact linkG_ok [p] s _ o (by simp only[ot,hv]) ho
 ·cases h
def MA(OK:V→St→Bool)(LV:V→Int→St→Bool)(KV:V→St→Bool):Tab:=⟨addT (addT noT 11 readU) 193 ofT,addS (addS (addS noL 40 hostG) 194 (lateGV OK LV)) 91 (nE OK KV),aT 9⟩
theorem MA_ok:TabOk3 Qq (MA rOK mK cM):=⟨aR (aR aJ readU_ok) of_ok,bP (bP (bP aK qo) lateGV_ok) linkGV_ok,au 9⟩
def zW_0(u s m now:Int)(d:List UInt8)(A B C D E:List V):=[Blk.row [V.int u8 u,V.int u8 s,V.int u8 m,V.str d] 72 4,Blk.row [V.int i64 now] 3 1,Blk.row A 32 6,Blk.ro true B,Blk.ro true C,Blk.ro true D,Blk.ro true E]
def zW_1(x:Value)(n N:Nat)(cs:List V)(i:Int):=[some (V.lst x n cs),some (V.ptr 0 0),some (V.ptr 1 0),some (V.bool false),some (V.slice 2 0 N false 0 0),some (V.int i64 (i64.wrap (i+1)))]
def zW_2(i:Int):=V.slice 2 0 ((i64.wrap (i+1)).toNat-0) false 0 0
theorem mt_round(OK:V→St→Bool)(LV:V→Int→St→Bool)(KV:V→St→Bool)(u s m:Int)(d:List UInt8)(x:Value)(n:Nat)(cs:List V)(now:Int)(N:Nat)(i:Int)(A B C D E:List V)(R:Qz):al Qq (MA OK LV KV) 9 10 (ah 9) 158 6894 [1,4,7,8,9,10] [.lst x n cs,.ptr 0 0,.ptr 1 0,.bool false,.slice 2 0 N false 0 0,.int .i64 i] [.row [.int .u8 u,.int .u8 s,.int .u8 m,.str d] 72 4,.row [.int .i64 now] 3 1,.row A 32 6,.ro true B,.ro true C,.ro true D,.ro true E] R=
 (
 bif decide (i<(↑N:Int))then bif decide (0≤i64.wrap (i+1))then bif true&&(i64.wrap (i+1)).toNat.ble N then bif OK (zW_2 i) (zW_0 u s
 m now d A B C D E)then bif !LV (zW_2 i) now (zW_0 u s m now d A B C D E)then bif decide (0≤i)&&decide (i<(↑n:Int))then bif (i.toNat*1).blt cs.length
 then bif ar (cs.getD (i.toNat*1) (.bool false))then bif u8B s&&u8B m then bif ofB u s m (d) (ab (cs.getD (i.toNat*1) (.bool false)))then bif
 decide (0≤i64.wrap (i+1))then bif true&&(i64.wrap (i+1)).toNat.ble N then bif OK (zW_2 i) [.ro false [.int u8 u,.int
 u8 s,.int u8 m,.str d],.ro false [.int i64 now],.ro false A,.ro false B,.ro false C,.ro false D,.ro false E]
 then bif KV (zW_2 i) [.ro false [.int u8 u,.int u8 s,.int u8 m,.str d],.ro false [.int i64 now],.ro false A,
 .ro false B,.ro false C,.ro false D,.ro false E]then R .ret [some (.lst x n cs),some (.ptr 0 0),some (.ptr 1 0),some (.bool true),
 some (.slice 2 0 N false 0 0),some (.int i64 i)] (zW_0 u s m now d A B C D E)else R .normal (zW_1 x n N cs i) (zW_0 u s m now d A B C D E)else
 False else False else False else R .normal (zW_1 x n N cs i) (zW_0 u s m now d A B C D E)else False else False else False else False else R .normal
 (zW_1 x n N cs i) (zW_0 u s m now d A B C D E)else False else False else False else R (.exit 1) [some (.lst x n cs),some (.ptr 0 0),some (.ptr 1 0),
 some (.bool false),some (.slice 2 0 N false 0 0),some (.int i64 i)] (zW_0 u s m now d A B C D E)):=by kernel_rfl
theorem nm_atZ{st:St}{z:Bool}{k:Nat}{s:List UInt8}(h:st[k]?=some (.ro z (strs (dL s)))):nmOk st (.nos k (dN s))=true∧Vm.nmD st (.nos k (dN s))=dL s:=by
 have hv:bC st (.nos k (dN s))=some (true,dL s):=by
  unfold bC cQ dN;simp only[h,Nat.mul_one,aE];rw[cz (by rw[aE];exact Nat.le_refl _),bD,ai,aE,a9,ag (Nat.le_refl _)];rfl
 unfold nmOk Vm.nmD;rw[hv];exact⟨by show(true&&Nat.ble (dL s).length 9223372036854775807)=true;rw[aH];exact ag (by have:=i9 s;omega),rfl⟩
theorem bz{st:St}{z:Bool}{k:Nat}{s:List UInt8}{r:List V}(h:st[k]?=some (.ro z (strs (dL s)))):isCr st (rdA s k r)=isCr st r∧crD st (rdA s k r)=crOf s::crD st r:=by
 obtain⟨h1,h2⟩:=nm_atZ h;refine⟨?_,?_⟩
 ·unfold isCr rdA;simp only[isCg,h1,ar,ao,de,decide_true,aH]
 ·unfold rdA crOf;simp only[crD,h2,ab,aq,ew]
def mA(l:List (List UInt8)):List V:=bif Nat.beq (rdN l) 0 then[]else aF 2 (rdA (rdG l 0) 1 (rdT l))
def mB(l:List (List UInt8)):List V:=aF 2 (strs (dL (rdG l 0)))
def mN(l:List (List UInt8))(i:Nat):List V:=aF 2 (nmR l i)
theorem mB_eq(l:List (List UInt8)):mB l=strs (dL (rdG l 0)):=fS _ _
theorem mN_eq{l:List (List UInt8)}{i:Nat}(h:i<rdN l):mN l i=strs (dL (rdG l i)):=by
 have e:Nat.blt i (rdN l)=true:=ag h;unfold mN nmR;rw[e,ae];exact fS _ _
structure MtAt (st:St) (l:List (List UInt8)):Prop where
 b2:(∃t sz,st[2]?=some (.row (mA l) t sz))∨∃z,st[2]?=some (.ro z (mA l))
 b3:∃z,st[3]?=some (.ro z (mB l))
 b4:∃z,st[4]?=some (.ro z (mN l 1))
 b5:∃z,st[5]?=some (.ro z (mN l 2))
 b6:∃z,st[6]?=some (.ro z (mN l 3))
theorem mt_cr{st:St}{l:List (List UInt8)}(h:MtAt st l)(h0:rdN l≠0):isCr st (mA l)=true∧crD st (mA l)=bM l:=by
 have h4:=(cJ l).1;obtain⟨z3,g3⟩:=h.b3;obtain⟨z4,g4⟩:=h.b4;obtain⟨z5,g5⟩:=h.b5;obtain⟨z6,g6⟩:=h.b6;rw[mB_eq]at g3;rcases(by omega:rdN l=1∨rdN l=2∨rdN l=3∨rdN l=4)with hj|hj|hj|hj
 ·have e:mA l=rdA (rdG l 0) 3 []:=by unfold mA rdT;rw[hj];rfl
  rw[e,bT hj,(bz g3).1,(bz g3).2];exact⟨rfl,rfl⟩
 ·have e:mA l=rdA (rdG l 0) 3 (rdA (rdG l 1) 4 []):=by unfold mA rdT;rw[hj];rfl
  rw[mN_eq (by omega)]at g4;rw[e,bT hj,(bz g3).1,(bz g3).2,(bz g4).1,(bz g4).2];exact⟨rfl,rfl⟩
 ·have e:mA l=rdA (rdG l 0) 3 (rdA (rdG l 1) 4 (rdA (rdG l 2) 5 [])):=by unfold mA rdT;rw[hj];rfl
  rw[mN_eq (by omega)]at g4 g5;rw[e,bT hj,(bz g3).1,(bz g3).2,(bz g4).1,(bz g4).2,(bz g5).1,(bz g5).2];exact⟨rfl,rfl⟩
 ·have e:mA l=rdA (rdG l 0) 3 (rdA (rdG l 1) 4 (rdA (rdG l 2) 5 (rdA (rdG l 3) 6 []))):=by unfold mA rdT;rw[hj];rfl
  rw[mN_eq (by omega)]at g4 g5 g6;rw[e,bT hj,(bz g3).1,(bz g3).2,(bz g4).1,(bz g4).2,(bz g5).1,(bz g5).2,(bz g6).1,(bz g6).2];exact⟨rfl,rfl⟩
theorem gJ(l:List (List UInt8)):(bM l).length=rdN l:=by rw[bT rfl];simp
theorem mt_view{st:St}{l:List (List UInt8)}(h:MtAt st l)(h0:rdN l≠0){j:Nat}(hj:j≤rdN l):gV st (.slice 2 0 j false 0 0)=some (true,(bM l).take j):=by
 obtain⟨c1,c2⟩:=mt_cr h h0;have hv:cQ st 6 (.slice 2 0 j false 0 0)=some (Nat.ble (0+j*6) (mA l).length,(j,((mA l).drop 0).take (j*6))):=by
  rcases h.b2 with⟨t,sz,g⟩|⟨z,g⟩<;>simp only[cQ,g]
 have hlen:=m6 st (mA l) c1;rw[c2,gJ]at hlen;obtain⟨t1,t2⟩:=j6 st j (mA l) c1;unfold gV;rw[hv];have t2:isCr st ((mA l).take (j*6))=true:=t2;simp only[List.drop_zero,t1,t2,c2,ag (show 0+j*6≤(mA l).length by omega),List.length_take,gJ,Nat.min_eq_left hj,a9,bv]
def matS(u s m:Int)(d:List UInt8)(now:Int)(l:List (List UInt8)):St:=[.row [.int .u8 u,.int .u8 s,.int .u8 m,.str d] 72 4,.row [.int .i64 now] 3 1,.row (mA l) 32 6,.ro true (mB l),.ro true (mN l 1),.ro true (mN l 2),.ro true (mN l 3)]
def matF(u s m:Int)(d:List UInt8)(now:Int)(l:List (List UInt8)):Nat→Nat→Bool
 |0,_=>false
 |k+1,i=>bif !ff now ((bM l).take (i+1))&&(ofB u s m d (ab ((strs l).getD i (.bool false)))&&bW ((bM l).take (i+1)))then true else matF u s m d now l k (i+1)
structure MT where
 u:Int
 s:Int
 m:Int
 d:List UInt8
 x:Value
 n:Nat
 cs:List V
 now:Int
 i:Nat
def MT.l(z:MT):List (List UInt8):=z.cs.map ab
def mtV(z:MT):List V:=[.lst z.x z.n z.cs,.ptr 0 0,.ptr 1 0,.bool false,.slice 2 0 (rdN (z.cs.map ab)) false 0 0,.int .i64 z.i]
def mtJ(z:MT):St:=matS z.u z.s z.m z.d z.now (z.cs.map ab)
def i0(z:MT):Bool:=okS z.n z.cs&&((u8B z.s&&u8B z.m)&&(Nat.ble 1 z.i&&Nat.ble z.i (rdN (z.cs.map ab))))
def mtMu(z:MT):Nat:=rdN (z.cs.map ab)-z.i
def mtDec:List (Option V)→St→Option MT
 |[some (.lst x n cs),some (.ptr 0 0),some (.ptr 1 0),some (.bool false),some (.slice 2 0 _ false 0 0),some (.int .i64 1)],.row [.int .u8 u,.int .u8 s,.int .u8 m,.str d] _ _::.row [.int .i64 now] _ _::_=>some ⟨u,s,m,d,x,n,cs,now,1⟩
 |_,_=>none
def tU(z:MT)(b:Bool)(K:Exit→List V→St→Prop):Prop:=
 bif b then ∀j:Int,K .ret [.lst z.x z.n z.cs,.ptr 0 0,.ptr 1 0,.bool true,.slice 2 0 (rdN (z.cs.map ab)) false 0 0,.int .i64 j] (mtJ z)else ∀j:Int,K (.exit 1) [.lst z.x z.n z.cs,.ptr 0 0,.ptr 1 0,.bool false,.slice 2 0 (rdN (z.cs.map ab)) false 0 0,.int .i64 j] (mtJ z)
def matV(u s m:Int)(d:List UInt8)(now:Int)(cs:List V)(i:Nat):Bool:=matF u s m d now (cs.map ab) (rdN (cs.map ab)-i) i
def mtOut:Asks MT:=fun z K=>tU z (matV z.u z.s z.m z.d z.now z.cs z.i) K
theorem ren_A(l:List (List UInt8)):renL [0,1,2,3,4,5,6] (mA l)=some (mA l):=by
 unfold mA rdT;have h4:=(cJ l).1;rcases(by omega:rdN l=0∨rdN l=1∨rdN l=2∨rdN l=3∨rdN l=4)with hj|hj|hj|hj|hj<;>rw[hj]<;>rfl
theorem ren_N(l:List (List UInt8))(i:Nat):renL [0,1,2,3,4,5,6] (mN l i)=some (mN l i):=by
 unfold mN nmR;cases Nat.blt i (rdN l)with
 |true=>rw[ae,fS];exact aC _ (br _)
 |false=>rfl
theorem mt_fits(x:Value)(n:Nat)(cs:List V)(u s m:Int)(d:List UInt8)(now:Int)(b:Bool)(j:Int):Fits 0 [.lst x n cs,.ptr 0 0,.ptr 1 0,.bool b,.slice 2 0 (rdN (cs.map ab)) false 0 0,.int .i64 j] (matS u s m d now (cs.map ab)) [some (.lst x n cs),some (.ptr 0 0),some (.ptr 1 0),some (.bool b),some (.slice 2 0 (rdN (cs.map ab)) false 0 0),some (.int .i64 j)] (matS u s m d now (cs.map ab)):=by
 refine⟨[0,1,2,3,4,5,6],[.lst x n cs,.ptr 0 0,.ptr 1 0,.bool b,.slice 2 0 (rdN (cs.map ab)) false 0 0,.int .i64 j],rfl,rfl,FitsM.of ⟨.inr ⟨_,.inl rfl,rfl⟩,.inr ⟨_,.inl rfl,rfl⟩,.inr ⟨.row (mA (cs.map ab)) 32 6,.inl ?_,rfl⟩,.inr ⟨.ro true (mB (cs.map ab)),.inl ?_,rfl⟩,.inr ⟨.ro true (mN (cs.map ab) 1),.inl ?_,rfl⟩,.inr ⟨.ro true (mN (cs.map ab) 2),.inl ?_,rfl⟩,.inr ⟨.ro true (mN (cs.map ab) 3),.inl ?_,rfl⟩,trivial⟩,by decide,fun i hi=>by omega⟩
 ·simp only[renB,ren_A]
 ·rw[mB_eq];simp only[renB,aC _ (br _)]
 ·simp only[renB,ren_N]
 ·simp only[renB,ren_N]
 ·simp only[renB,ren_N]
theorem mt_roundOk(z:MT)(hx:i0 z=true):al Qq (MA rOK mK cM) 9 10 (ah 9) 158 6894 [1,4,7,8,9,10] (mtV z) (mtJ z) (aD 0 i0 mtV mtJ mtMu mtOut z):=by
 obtain⟨u,s,m,d,x,n,cs,now,i⟩:=z;unfold i0 at hx;simp only[ad]at hx;have hx1:okS n cs=true:=hx.1;have hu:(u8B s&&u8B m)=true:=by rw[ad];exact hx.2.1
 have p1:1≤i:=aw hx.2.2.1;have p2:i≤rdN (cs.map ab):=aw hx.2.2.2;obtain⟨l,rfl,rfl,p3,p4⟩:=cn hx1;rw[ai]at p2;have p5:=(cJ l).1;have p6:=(cJ l).2;show al Qq (MA rOK mK cM) 9 10 (ah 9) 158 6894 [1,4,7,8,9,10] [.lst x l.length (strs l),.ptr 0 0,.ptr 1 0,.bool false,.slice 2 0 (rdN ((strs l).map ab)) false 0 0,.int .i64 i] (matS u s m d now ((strs l).map ab)) _;rw[ai];refine cast (mt_round rOK mK cM u s m d x l.length (strs l) now (rdN l) i (mA l) (mB l) (mN l 1) (mN l 2) (mN l 3) _).symm ?_;unfold zW_2 zW_1 zW_0;have out:∀K,mtOut ⟨u,s,m,d,x,l.length,strs l,now,i⟩ K→tU ⟨u,s,m,d,x,l.length,strs l,now,i⟩ (matF u s m d now l (rdN l-i) i) K:=fun K hK=>by
  have hK:tU ⟨u,s,m,d,x,l.length,strs l,now,i⟩ (matF u s m d now ((strs l).map ab) (rdN ((strs l).map ab)-i) i) K:=hK;rw[ai]at hK;exact hK
 have fits:∀b j,Fits 0 [.lst x l.length (strs l),.ptr 0 0,.ptr 1 0,.bool b,.slice 2 0 (rdN ((strs l).map ab)) false 0 0,.int .i64 j] (matS u s m d now ((strs l).map ab)) [some (.lst x l.length (strs l)),some (.ptr 0 0),some (.ptr 1 0),some (.bool b),some (.slice 2 0 (rdN l) false 0 0),some (.int .i64 j)] (matS u s m d now l):=fun b j=>by
  have:=mt_fits x l.length (strs l) u s m d now b j;rw[ai]at this ⊢;exact this
 refine ac (fun hi=>?_) (fun hi=>?_)
 ·have hi:=aN hi;have hi:i<rdN l:=by omega
  have w:i64.wrap ((i:Int)+1)=((i+1:Nat):Int):=by rw[IntWalk.i64_in _ ⟨by omega,by omega⟩];omega
  have c1:decide (0≤((i+1:Nat):Int))=true:=am (by omega);have c2:decide ((0:Int)≤(i:Int))=true:=am (by omega);have c3:decide ((i:Int)<(l.length:Int))=true:=am (by omega);have c4:(i+1).ble (rdN l)=true:=ag (by omega);have c5:(i*1).blt (strs l).length=true:=ag (by rw[aE];omega);have c6:∃a,(strs l).getD (i*1) (.bool false)=.str a:=by
   refine⟨l[i]'(by omega),?_⟩;rw[Nat.mul_one,bX,List.getElem?_eq_getElem (by rw[aE];omega)];simp[strs]
  obtain⟨a,ha⟩:=c6;have ha':(strs l).getD i (.bool false)=.str a:=by rw[Nat.mul_one]at ha;exact ha
  have v1:∀st,MtAt st l→rOK (.slice 2 0 (i+1) false 0 0) st=true∧mK (.slice 2 0 (i+1) false 0 0) now st=ff now ((bM l).take (i+1))∧cM (.slice 2 0 (i+1) false 0 0) st=bW ((bM l).take (i+1)):=fun st hst=>by
   unfold rOK mK cM;rw[mt_view hst (by omega) (show i+1≤rdN l by omega)];exact⟨by show(true&&_)=true;rw[aH];exact ag (by rw[List.length_take,gJ];omega),rfl,rfl⟩
  obtain⟨a1,a2,_⟩:=v1 [.row [.int .u8 u,.int .u8 s,.int .u8 m,.str d] 72 4,.row [.int .i64 now] 3 1,.row (mA l) 32 6,.ro true (mB l),.ro true (mN l 1),.ro true (mN l 2),.ro true (mN l 3)] ⟨.inl ⟨_,_,rfl⟩,⟨_,rfl⟩,⟨_,rfl⟩,⟨_,rfl⟩,⟨_,rfl⟩⟩;obtain⟨b1,_,b2⟩:=v1 [.ro false [.int .u8 u,.int .u8 s,.int .u8 m,.str d],.ro false [.int .i64 now],.ro false (mA l),.ro false (mB l),.ro false (mN l 1),.ro false (mN l 2),.ro false (mN l 3)] ⟨.inr ⟨_,rfl⟩,⟨_,rfl⟩,⟨_,rfl⟩,⟨_,rfl⟩,⟨_,rfl⟩⟩;have step:matF u s m d now l (rdN l-i) i=(bif !ff now ((bM l).take (i+1))&&(ofB u s m d a&&bW ((bM l).take (i+1)))then true else matF u s m d now l (rdN l-(i+1)) (i+1)):=by
   rw[show rdN l-i=(rdN l-(i+1))+1 by omega,matF,ha'];rfl
  have next:(!ff now ((bM l).take (i+1))&&(ofB u s m d a&&bW ((bM l).take (i+1))))=false→aD 0 i0 mtV mtJ mtMu mtOut ⟨u,s,m,d,x,l.length,strs l,now,i⟩ .normal [some (.lst x l.length (strs l)),some (.ptr 0 0),some (.ptr 1 0),some (.bool false),some (.slice 2 0 (rdN l) false 0 0),some (.int .i64 (i+1:Nat))] (matS u s m d now l):=fun e=>by
   refine⟨⟨u,s,m,d,x,l.length,strs l,now,i+1⟩,?_,fits false _,by simp only[mtMu,ai];omega,fun K hK=>?_⟩
   ·unfold i0;rw[ai,hx1,hu,ag (show 1≤i+1 by omega),c4];rfl
   ·have hK:=out K hK;rw[step,e]at hK;show tU ⟨u,s,m,d,x,l.length,strs l,now,i+1⟩ (matF u s m d now ((strs l).map ab) (rdN ((strs l).map ab)-(i+1)) (i+1)) K;rw[ai];exact hK
  simp only[w,c1,c2,c3,c4,c5,ha,bp,Nat.sub_zero,ar,ab,hu,bv,aH,ae];rw[a1,a2,b1,b2,ae,ae];cases hL:ff now ((bM l).take (i+1))with
  |true=>exact next (by rw[hL];rfl)
  |false=>
  cases hO:ofB u s m d a with
  |false=>exact next (by rw[hO,Bool.false_and,bL])
  |true=>
  cases hK:bW ((bM l).take (i+1))with
  |false=>exact next (by rw[hK,bL,bL])
  |true=>
   refine⟨_,_,fun K hk=>?_,fits true i⟩;have hk:=out K hk;rw[step,hL,hO,hK]at hk;exact hk i
 ·have hi:=bk hi;refine⟨_,_,fun K hK=>?_,fits false i⟩;have hK:=out K hK;rw[show rdN l-i=0 by omega]at hK;exact hK i
def lkMT:Nat→Trans→Trans:=ba 6894 (bK 0 (szOf Qq 158) [1,4,7,8,9,10] mtDec i0 mtV mtJ mtOut) (ah 9)
theorem lkMT_ok:aQ Qq 0 lkMT 158:=by
 unfold lkMT;exact bB (aY 9 0 158) (by kernel_rfl) fun f st Q h=>bc (P:=Qq) (T:=MA rOK mK cM) (k:=0) (lim:=9) (n:=10) (g:=158) (p0:=6894) (lk:=ah 9) aA MA_ok (bf 9 _ _) mtMu mt_roundOk h
theorem mt_fits'(x:Value)(n:Nat)(cs:List V)(u s m:Int)(d:List UInt8)(now:Int)(b:Bool)(j:Int){st:St}(h:matS u s m d now (cs.map ab)=st):Fits 0 [.lst x n cs,.ptr 0 0,.ptr 1 0,.bool b,.slice 2 0 (rdN (cs.map ab)) false 0 0,.int .i64 j] (matS u s m d now (cs.map ab)) [some (.lst x n cs),some (.ptr 0 0),some (.ptr 1 0),some (.bool b),some (.slice 2 0 (rdN (cs.map ab)) false 0 0),some (.int .i64 j)] st:=by
 subst h;exact mt_fits x n cs u s m d now b j
def rdP(l:List (List UInt8))(T a b c:List V):V×St:=(.slice 0 0 (rdN l) false 0 0,[.row (rdA (rdG l 0) 1 T) 32 6,.ro true (strs (dL (rdG l 0))),.ro true a,.ro true b,.ro true c])
def nj(l:List (List UInt8)):Nat→V×St
 |0=>(.nilSlice,[])
 |1=>rdP l [] [] [] []
 |2=>rdP l (rdA (rdG l 1) 2 []) (strs (dL (rdG l 1))) [] []
 |3=>rdP l (rdA (rdG l 1) 2 (rdA (rdG l 2) 3 [])) (strs (dL (rdG l 1))) (strs (dL (rdG l 2))) []
 |_=>rdP l (rdA (rdG l 1) 2 (rdA (rdG l 2) 3 (rdA (rdG l 3) 4 []))) (strs (dL (rdG l 1))) (strs (dL (rdG l 2))) (strs (dL (rdG l 3)))
def readP:List V→Option (Qx)
 |[.lst _ n cs]=>some [(okS n cs&&Nat.beq (rdN (cs.map ab)) 0,nj (cs.map ab) 0),(okS n cs&&Nat.beq (rdN (cs.map ab)) 1,nj (cs.map ab) 1),(okS n cs&&Nat.beq (rdN (cs.map ab)) 2,nj (cs.map ab) 2),(okS n cs&&Nat.beq (rdN (cs.map ab)) 3,nj (cs.map ab) 3),(okS n cs&&Nat.beq (rdN (cs.map ab)) 4,nj (cs.map ab) 4)]
 |_=>none
theorem readP_ok(args:List V)(L:Qx)(o:V×St)(h:readP args=some L)(ho:aL L=some o):FnSat Qq 11 args [] (Is o):=by
 unfold readP at h;split at h
 ·rename_i x n cs;cases h;cases hk:okS n cs with
  |false=>rw[hk]at ho;simp[aL]at ho
  |true=>
  rw[hk,aH]at ho;simp only[aH]at ho;have h4:=(cJ (cs.map ab)).1;refine readU_ok [.lst x n cs] _ o rfl ?_;rw[hk,←ho];unfold rdU rdT nmR;rcases(by omega:rdN (cs.map ab)=0∨rdN (cs.map ab)=1∨rdN (cs.map ab)=2∨rdN (cs.map ab)=3∨rdN (cs.map ab)=4)with hj|hj|hj|hj|hj<;>simp only[nj,rdP,hj]<;>rfl
 ·cases h
def MT1:Tab:=⟨addT (addT noT 11 readP) 193 ofT,addS noL 40 hostG,cI (aT 9) 158 0 lkMT⟩
theorem MT1_ok:TabOk3 Qq MT1:=⟨aR (aR aJ readP_ok) of_ok,bP aK qo,bq (au 9) lkMT_ok⟩
def zW_5(cs:List V):=rdG (List.map ab cs) 0
def kP(cs:List V):=aF 2 (strs (dL (zW_5 cs)))
def zW_3(cs:List V):=List.take (dN (zW_5 cs)*1) (kP cs)
def re(u s m:Int)(d:List UInt8):=[V.int u8 u,V.int u8 s,V.int u8 m,V.str d]
def zW_4(u s m now:Int)(d:List UInt8)(cs:List V):=[Blk.row (re u s m d) 72 4,Blk.row [V.int i64 now] 3 1,Blk.row (mA (List.map ab cs)) 32 6,Blk.ro true (mB (List.map ab cs)),Blk.ro true (mN (List.map ab cs) 1),Blk.ro true (mN (List.map ab cs) 2),Blk.ro true (mN (List.map ab cs) 3)]
def gq(cs:List V):=rdN (List.map ab cs)
def zW_6(x:Value)(n:Nat)(cs:List V):=[some (V.lst x n cs),some (V.ptr 0 0),some (V.ptr 1 0),some (V.bool false),some (V.slice 2 0 (gq cs) false 0 0),some (V.int i64 1)]
def zW_7(cs:List V):=rdG (List.map ab cs) 1
def zW_8(x:Value)(n:Nat)(cs:List V):=[V.lst x n cs,V.ptr 0 0,V.ptr 1 0,V.bool false,V.slice 2 0 (gq cs) false 0 0,V.int i64 1]
def zW_9(cs:List V):=rdG (List.map ab cs) 2
def zW_13(cs:List V):=(zW_3 cs).all ar&&(zW_3 cs).length.beq (dN (zW_5 cs))
theorem mt_tree(u s m:Int)(d:List UInt8)(x:Value)(n:Nat)(cs:List V)(h:List UInt8)(now:Int)(R:V→Prop):runW Qq MT1 9 10 158 [.agg [.int .u8 u,.int .u8 s,.int .u8 m,.str d],.lst x n cs,.str h,.int .i64 now] R=
 (
 bif u==3 then bif decide ((↑n:Int)>0)then bif true&&decide (0<(↑n:Int))then bif Nat.blt 0 cs.length then bif ar (cs.getD 0 (.bool false))then
 bif u8B s&&u8B m then R (.bool (ofB u s m (d) (ab (cs.getD 0 (.bool false)))))else False else False else False else False else R (.bool false)else bif
 u==2 then bif okS n cs&&(gq cs).beq 0 then R (.bool false)else bif okS n cs&&(gq cs).beq 1 then bif (↑(gq cs):Int)==0 then R (.bool false)
 else bif true&&decide (0<(↑(gq cs):Int))then bif (dN (zW_5 cs)*1).ble (kP cs).length&&(zW_13 cs)&&(List.map ab (zW_3 cs)).length.ble
 9223372036854775807 then bif !hasH (List.map ab (zW_3 cs)) h then R (.bool false)else Fits 0 (zW_8 x n cs) (zW_4 u s m now d cs) (zW_6 x n cs) [.row
 (re u s m d) 72 4,.row [.int i64 now] 3 1,.row [.str (dK (zW_5 cs)),.str (dG (zW_5 cs)),.nos 3 (dN (zW_5 cs)),.int i64 (dF
 (zW_5 cs)),.int i64 (dU (zW_5 cs)),.bool (dCa (zW_5 cs))] 32 6,.ro true (kP cs),.ro true [],.ro true [],.ro true []]∧bif i0
 {u:=u,s:=s,m:=m,d:=d,x:=x,n:=n,cs:=cs,now:=now,i:=1}then bif matV u s m d now cs 1 then ∀(j:Int),R (.bool true)else ∀(j:
 Int),R (.bool false)else False else False else False else bif okS n cs&&(gq cs).beq 2 then bif (↑(gq cs):Int)==0 then R (.bool false)else bif
 true&&decide (0<(↑(gq cs):Int))then bif (dN (zW_5 cs)*1).ble (kP cs).length&&(zW_13 cs)&&(List.map ab (zW_3 cs)).length.ble
 9223372036854775807 then bif !hasH (List.map ab (zW_3 cs)) h then R (.bool false)else Fits 0 (zW_8 x n cs) (zW_4 u s m now d cs) (zW_6 x n cs) [.row
 (re u s m d) 72 4,.row [.int i64 now] 3 1,.row [.str (dK (zW_5 cs)),.str (dG (zW_5 cs)),.nos 3 (dN (zW_5 cs)),.int i64 (dF
 (zW_5 cs)),.int i64 (dU (zW_5 cs)),.bool (dCa (zW_5 cs)),.str (dK (zW_7 cs)),.str (dG (zW_7 cs)),.nos 4 (dN (zW_7 cs)),.int i64 (dF
 (zW_7 cs)),.int i64 (dU (zW_7 cs)),.bool (dCa (zW_7 cs))] 32 6,.ro true (kP cs),.ro true (aF 2 (strs (dL (zW_7 cs)))),.ro true [],
 .ro true []]∧bif i0 {u:=u,s:=s,m:=m,d:=d,x:=x,n:=n,cs:=cs,now:=now,i:=1}then bif matV u s m d now cs 1 then ∀(j:Int),R
 (.bool true)else ∀(j:Int),R (.bool false)else False else False else False else bif okS n cs&&(gq cs).beq 3 then bif (↑(gq cs):Int)==0 then R
 (.bool false)else bif true&&decide (0<(↑(gq cs):Int))then bif (dN (zW_5 cs)*1).ble (kP cs).length&&(zW_13 cs)&&(List.map ab (zW_3
 cs)).length.ble 9223372036854775807 then bif !hasH (List.map ab (zW_3 cs)) h then R (.bool false)else Fits 0 (zW_8 x n cs) (zW_4 u s m now d cs) (zW_6 x n
 cs) [.row (re u s m d) 72 4,.row [.int i64 now] 3 1,.row [.str (dK (zW_5 cs)),.str (dG (zW_5 cs)),.nos 3 (dN (zW_5 cs)),.int
 i64 (dF (zW_5 cs)),.int i64 (dU (zW_5 cs)),.bool (dCa (zW_5 cs)),.str (dK (zW_7 cs)),.str (dG (zW_7 cs)),.nos 4 (dN (zW_7 cs)),.int
 i64 (dF (zW_7 cs)),.int i64 (dU (zW_7 cs)),.bool (dCa (zW_7 cs)),.str (dK (zW_9 cs)),.str (dG (zW_9 cs)),.nos 5 (dN (zW_9 cs)),.int
 i64 (dF (zW_9 cs)),.int i64 (dU (zW_9 cs)),.bool (dCa (zW_9 cs))] 32 6,.ro true (kP cs),.ro true (aF 2 (strs (dL (zW_7 cs)))),
 .ro true (aF 2 (strs (dL (zW_9 cs)))),.ro true []]∧bif i0 {u:=u,s:=s,m:=m,d:=d,x:=x,n:=n,cs:=cs,now:=now,i:=1}then
 bif matV u s m d now cs 1 then ∀(j:Int),R (.bool true)else ∀(j:Int),R (.bool false)else False else False else False else bif okS n cs&&(gq
 cs).beq 4 then bif (↑(gq cs):Int)==0 then R (.bool false)else bif true&&decide (0<(↑(gq cs):Int))then bif (dN (zW_5 cs)*1).ble (kP
 cs).length&&(zW_13 cs)&&(List.map ab (zW_3 cs)).length.ble 9223372036854775807 then bif !hasH (List.map ab (zW_3 cs)) h then R (.bool false)else
 Fits 0 (zW_8 x n cs) (zW_4 u s m now d cs) (zW_6 x n cs) [.row (re u s m d) 72 4,.row [.int i64 now] 3 1,.row [.str (dK (zW_5 cs)),.str
 (dG (zW_5 cs)),.nos 3 (dN (zW_5 cs)),.int i64 (dF (zW_5 cs)),.int i64 (dU (zW_5 cs)),.bool (dCa (zW_5 cs)),.str (dK (zW_7 cs)),.str
 (dG (zW_7 cs)),.nos 4 (dN (zW_7 cs)),.int i64 (dF (zW_7 cs)),.int i64 (dU (zW_7 cs)),.bool (dCa (zW_7 cs)),.str (dK (zW_9 cs)),.str
 (dG (zW_9 cs)),.nos 5 (dN (zW_9 cs)),.int i64 (dF (zW_9 cs)),.int i64 (dU (zW_9 cs)),.bool (dCa (zW_9 cs)),.str (dK (rdG (List.map
 ab cs) 3)),.str (dG (rdG (List.map ab cs) 3)),.nos 6 (dN (rdG (List.map ab cs) 3)),.int i64 (dF (rdG (List.map ab cs) 3)),.int
 i64 (dU (rdG (List.map ab cs) 3)),.bool (dCa (rdG (List.map ab cs) 3))] 32 6,.ro true (kP cs),.ro true (aF 2 (strs (dL (zW_7
 cs)))),.ro true (aF 2 (strs (dL (zW_9 cs)))),.ro true (aF 2 (strs (dL (rdG (List.map ab cs) 3))))]∧bif i0
 {u:=u,s:=s,m:=m,d:=d,x:=x,n:=n,cs:=cs,now:=now,i:=1}then bif matV u s m d now cs 1 then ∀(j:Int),R (.bool true)else ∀(j:
 Int),R (.bool false)else False else False else False else False else R (.bool false)):=by kernel_rfl
def matB(u s m:Int)(d:List UInt8)(l:List (List UInt8))(h:List UInt8)(now:Int):Bool:=
 bif u==3 then(match l with|[]=>false|a::_=>ofB u s m d a)else bif u==2 then(!Nat.beq (rdN l) 0&&(hasH (dL (rdG l 0)) h&&matF u s m d now l (rdN l-1) 1))else false
def matT:List V→Option (Qx)
 |[.agg [.int .u8 u,.int .u8 s,.int .u8 m,.str d],.lst _ n cs,.str h,.int .i64 now]=>some [(okS n cs&&(u8B s&&u8B m),(.bool (matB u s m d (cs.map ab) h now),[]))]
 |_=>none
theorem mat_ok(args:List V)(L:Qx)(o:V×St)(h:matT args=some L)(ho:aL L=some o):FnSat Qq 158 args [] (Is o):=by
 unfold matT at h;split at h
 ·rename_i u s m d x n cs h now;cases h;obtain⟨hk,rfl⟩:=aO ho;rw[ad]at hk;obtain⟨hx1,hu⟩:=hk;obtain⟨l,rfl,rfl,p3,p4⟩:=cn hx1;refine ax (lim:=9) (n:=10) aA MT1_ok rfl rfl ?_;refine cast (mt_tree u s m d x l.length (strs l) h now _).symm ?_;unfold zW_13 zW_9 zW_8 zW_7 zW_6 gq zW_4 re zW_3 kP zW_5;unfold matB;rw[ai];cases hu3:u==3 with
  |true=>
   rw[ae,ae];cases l with
   |nil=>exact ac (fun e=>absurd (aN e) (by simp)) (fun _=>rfl)
   |cons a r=>
    rw[hu];have e1:decide (((a::r).length:Int)>0)=true:=am (by rw[bi];omega);rw[e1];exact rfl
  |false=>
  rw[ak,ak];cases hu2:u==2 with
  |false=>rfl
  |true=>
  rw[ae,ae,hx1,aH,aH,aH,aH,aH];have h4:=(cJ l).1;have q1:(dN (rdG l 0)*1).ble (aF 2 (strs (dL (rdG l 0)))).length=true:=by rw[fS,aE,Nat.mul_one];exact ag (Nat.le_refl _)
  have q2:List.take (dN (rdG l 0)*1) (aF 2 (strs (dL (rdG l 0))))=strs (dL (rdG l 0)):=by rw[fS,Nat.mul_one];exact cz (by rw[aE];exact Nat.le_refl _)
  have q3:(strs (dL (rdG l 0))).length.beq (dN (rdG l 0))=true:=by rw[aE];exact a9 _
  have q4:(dL (rdG l 0)).length.ble 9223372036854775807=true:=ag (by have:=i9 (rdG l 0);omega);have pre:rdN l≠0→i0 ⟨u,s,m,d,x,l.length,strs l,now,1⟩=true:=fun h0=>by
   unfold i0;rw[ai,hx1,hu,ag (show 1≤rdN l by omega)];rfl
  have fits:∀{st:St},matS u s m d now l=st→Fits 0 [.lst x l.length (strs l),.ptr 0 0,.ptr 1 0,.bool false,.slice 2 0 (rdN l) false 0 0,.int .i64 1] (matS u s m d now l) [some (.lst x l.length (strs l)),some (.ptr 0 0),some (.ptr 1 0),some (.bool false),some (.slice 2 0 (rdN l) false 0 0),some (.int .i64 1)] st:=fun{st} hs=>by
   have:=mt_fits' x l.length (strs l) u s m d now false 1 (st:=st) (by rw[ai];exact hs);rw[ai]at this;exact this
  have fin:∀{st:St},rdN l≠0→matS u s m d now l=st→hasH (dL (rdG l 0)) h=true→(Fits 0 [.lst x l.length (strs l),.ptr 0 0,.ptr 1 0,.bool false,.slice 2 0 (rdN l) false 0 0,.int .i64 1] (matS u s m d now l) [some (.lst x l.length (strs l)),some (.ptr 0 0),some (.ptr 1 0),some (.bool false),some (.slice 2 0 (rdN l) false 0 0),some (.int .i64 1)] st∧bif i0 ⟨u,s,m,d,x,l.length,strs l,now,1⟩then bif matV u s m d now (strs l) 1 then ∀(j:Int),V.bool true=V.bool (!Nat.beq (rdN l) 0&&(hasH (dL (rdG l 0)) h&&matF u s m d now l (rdN l-1) 1))else ∀(j:Int),V.bool false=V.bool (!Nat.beq (rdN l) 0&&(hasH (dL (rdG l 0)) h&&matF u s m d now l (rdN l-1) 1))else False):=fun h0 hs hh=>by
   have n0:Nat.beq (rdN l) 0=false:=by
    cases hb:Nat.beq (rdN l) 0 with
    |false=>rfl
    |true=>exact absurd (aP hb) h0
   refine⟨fits hs,aa (pre h0) ?_⟩;unfold matV;rw[ai,hh,n0];cases hm:matF u s m d now l (rdN l-1) 1 with
   |true=>intro j;rfl
   |false=>intro j;rfl
  have no:hasH (dL (rdG l 0)) h=false→V.bool false=V.bool (!Nat.beq (rdN l) 0&&(hasH (dL (rdG l 0)) h&&matF u s m d now l (rdN l-1) 1)):=fun e=>by rw[e,Bool.false_and,bL]
  rw[q1,q2,bD,q3,ai,q4];have nb:∀{k:Nat} {A:Prop},rdN l≠k→Nat.beq (rdN l) k=true→A:=fun h e=>absurd (aP e) h;have yb:∀{k:Nat} {A B:Prop},rdN l=k→A→(bif Nat.beq (rdN l) k then A else B):=fun h a=>by rw[h,a9];exact a
  have z0:∀{A B:Prop},rdN l≠0→B→(bif (rdN l:Int)==0 then A else B):=fun h b=>ac (fun e=>absurd (eq_of_beq e) (by omega)) (fun _=>b);have z1:rdN l≠0→(true&&decide (0<(rdN l:Int)))=true:=fun h=>by rw[aH];exact am (by omega)
  rcases(by omega:rdN l=0∨rdN l=1∨rdN l=2∨rdN l=3∨rdN l=4)with hj|hj|hj|hj|hj
  ·exact yb hj (by rw[hj];rfl)
  ·refine ac (fun e=>nb (by omega) e) (fun _=>?_);refine yb hj (z0 (by omega) (aa (z1 (by omega)) (aa rfl ?_)));exact ac (fun e=>no (by simpa using e)) (fun e=>fin (by omega) (by unfold matS mA mB mN nmR rdT;rw[hj];rfl) (by simpa using e))
  ·refine ac (fun e=>nb (by omega) e) (fun _=>?_);refine ac (fun e=>nb (by omega) e) (fun _=>?_);refine yb hj (z0 (by omega) (aa (z1 (by omega)) (aa rfl ?_)));exact ac (fun e=>no (by simpa using e)) (fun e=>fin (by omega) (by unfold matS mA mB mN nmR rdT;rw[hj];rfl) (by simpa using e))
  ·refine ac (fun e=>nb (by omega) e) (fun _=>?_);refine ac (fun e=>nb (by omega) e) (fun _=>?_);refine ac (fun e=>nb (by omega) e) (fun _=>?_);refine yb hj (z0 (by omega) (aa (z1 (by omega)) (aa rfl ?_)));exact ac (fun e=>no (by simpa using e)) (fun e=>fin (by omega) (by unfold matS mA mB mN nmR rdT;rw[hj];rfl) (by simpa using e))
  ·refine ac (fun e=>nb (by omega) e) (fun _=>?_);refine ac (fun e=>nb (by omega) e) (fun _=>?_);refine ac (fun e=>nb (by omega) e) (fun _=>?_);refine ac (fun e=>nb (by omega) e) (fun _=>?_);refine yb hj (z0 (by omega) (aa (z1 (by omega)) (aa rfl ?_)));exact ac (fun e=>no (by simpa using e)) (fun e=>fin (by omega) (by unfold matS mA mB mN nmR rdT;rw[hj];rfl) (by simpa using e))
 ·cases h
theorem lW(x:Value)(n:Nat)(cs:List V)(R:V→St→Prop):runM Qq T3 9 10 58 [.lst x n cs] R=
  (
 bif nilX x then R .nilSlice []else bif n.beq 0 then R (.slice 0 0 0 false 0 0) [.row [] 72 4]else bif cs.length.beq (n*4)&&cs.all V.one then bif (0+n).ble
 9223372036854775807&&((0+n)*24).ble 140737488355328 then R (.slice 1 0 (0+n) false 0 0) [.dead,.row cs 72 4]else False else False):=by kernel_rfl
def rT(cs:List V)(j:Nat):TL:=(tlD cs).getD j ⟨0,0,0,[]⟩
def clT(cs:List V):Nat→V×St
 |1=>(.slice 0 0 1 false 0 0,[.row (TL.cells (rT cs 0)) 72 4])
 |2=>(.slice 0 0 2 false 0 0,[.row (TL.cells (rT cs 0)++TL.cells (rT cs 1)) 72 4])
 |3=>(.slice 0 0 3 false 0 0,[.row (TL.cells (rT cs 0)++(TL.cells (rT cs 1)++TL.cells (rT cs 2))) 72 4])
 |_=>(.slice 0 0 4 false 0 0,[.row (TL.cells (rT cs 0)++(TL.cells (rT cs 1)++(TL.cells (rT cs 2)++TL.cells (rT cs 3)))) 72 4])
def cloneT:List V→Option (Qx)
 |[.lst x n cs]=>some [(nilX x,(.nilSlice,[])),(okT n cs&&Nat.beq n 0,(.slice 0 0 0 false 0 0,[.row [] 72 4])),(okT n cs&&Nat.beq n 1,clT cs 1),(okT n cs&&Nat.beq n 2,clT cs 2),(okT n cs&&Nat.beq n 3,clT cs 3),(okT n cs&&Nat.beq n 4,clT cs 4)]
 |_=>none
theorem rT_tls(l:List TL)(j:Nat):rT (tls l) j=l.getD j ⟨0,0,0,[]⟩:=by unfold rT;rw[ci]
theorem dD{cells:List V}{b n:Nat}{st:St}{t:TypeId}(hf:aM cells=true)(hb:st[b]?=some (.row cells t 4)):Fits 0 [.slice 0 0 n false 0 0] [.row cells t 4] [some (.slice b 0 n false 0 0)] st:=
 ⟨[b],[.slice b 0 n false 0 0],rfl,rfl,FitsM.of ⟨.inr ⟨.row cells t 4,.inl (by simp only[renB,aC _ hf]),hb⟩,trivial⟩,by simp,fun i hi=>by omega⟩
theorem oneT:∀l:List TL,(tls l).all V.one=true
 |[]=>rfl
 |r::l=>by simp only[tls,List.all_cons,oneT l];rfl
theorem clone_ok(args:List V)(L:Qx)(o:V×St)(h:cloneT args=some L)(ho:aL L=some o):FnSat Qq 58 args [] (Is o):=by
 unfold cloneT at h;split at h
 ·rename_i x n cs;cases h;cases hx:nilX x with
  |true=>
   rw[hx]at ho;cases ho;refine FnSat.fits (dX aA qS ?_ (lim:=9) (n:=10));rw[lW,hx];exact⟨[],[.nilSlice],rfl,rfl,FitsM.of trivial,by decide,fun i hi=>by omega⟩
  |false=>
  rw[hx]at ho;cases hk:okT n cs with
  |false=>rw[hk]at ho;simp[aL]at ho
  |true=>
  rw[hk]at ho;obtain⟨l,rfl,rfl,h1,h2⟩:=fL hk;have big:l.length≤4→l.length≠0→FnSat Qq 58 [.lst x l.length (tls l)] [] (Is (.slice 0 0 l.length false 0 0,[.row (tls l) 72 4])):=fun h4 h0=>by
   refine FnSat.fits (dX aA qS ?_ (lim:=9) (n:=10));rw[lW,hx,ak];refine ac (fun e=>absurd (aP e) h0) (fun _=>?_);refine aa (by rw[dV,Nat.mul_comm,a9,oneT];rfl) (aa (by rw[ad];exact⟨ag (by omega),ag (by omega)⟩) ?_);rw[Nat.zero_add];exact dD (me l) rfl
  match l,h1,h2,hk,ho,big with
  |[],_,_,hk,ho,_=>
   cases ho;refine FnSat.fits (dX aA qS ?_ (lim:=9) (n:=10));rw[lW,hx];exact dD rfl rfl
  |[a],_,_,_,ho,big=>cases ho;exact big (by simp) (by simp)
  |[a,b],_,_,_,ho,big=>cases ho;exact big (by simp) (by simp)
  |[a,b,c],_,_,_,ho,big=>cases ho;exact big (by simp) (by simp)
  |[a,b,c,d],_,_,_,ho,big=>cases ho;exact big (by simp) (by simp)
  |a::b::c::d::e::r,_,_,_,ho,_=>
   have ho:(none:Option (V×St))=some o:=ho;cases ho
 ·cases h
def CL1:Tab:=⟨addT (addP noT 99 usP) 58 cloneT,noL,aT 9⟩
theorem CL1_ok:TabOk3 Qq CL1:=⟨aR (bg aJ us_ok) clone_ok,aK,au 9⟩
def k4(n:Nat):Nat:=(if 4<(n:Int)then 4 else(n:Int)).toNat
def q4(n:Nat)(cs:List V):List V:=List.take ((k4 n-0)*4) cs
def zX_0:=V.slice 0 0 1 false 0 0
def zX_1:=V.slice 0 0 2 false 0 0
theorem usa_tree(x:Value)(n:Nat)(cs:List V)(R:V→St→Prop):runM Qq CL1 9 10 59 [.lst x n cs] (fun v st=>R v (visD v st))=
 (
 bif decide (0≤if 4<(↑n:Int)then 4 else(↑n:Int))then bif true&&(k4 n).ble n then bif nilX (iF x 0 (k4 n) 4)then R .nilSlice []else bif okT
 ((k4 n)-0) (q4 n cs)&&((k4 n)-0).beq 0 then R (.slice 0 0 0 false 0 0) [.row [] 72 4]else bif okT ((k4 n)-0) (q4 n cs)&&((k4 n)-0).beq 1 then
 bif !usB (rT (q4 n cs) 0).u (rT (q4 n cs) 0).s (rT (q4 n cs) 0).m (rT (q4 n cs) 0).d then R (.slice 0 0 0 false 0 0) [.row [.int u8 0,.int
 u8 0,.int u8 0,.str []] 72 4]else R zX_0 [.row [.int u8 (rT (q4 n cs) 0).u,.int u8 (rT (q4 n cs) 0).s,.int
 u8 (rT (q4 n cs) 0).m,.str (rT (q4 n cs) 0).d] 72 4]else bif okT ((k4 n)-0) (q4 n cs)&&((k4 n)-0).beq 2 then bif !usB (rT (q4 n cs) 0).u (rT (q4
 n cs) 0).s (rT (q4 n cs) 0).m (rT (q4 n cs) 0).d then bif !!usB (rT (q4 n cs) 1).u (rT (q4 n cs) 1).s (rT (q4 n cs) 1).m (rT (q4 n cs) 1).d then R zX_0 [.row
 [.int u8 (rT (q4 n cs) 1).u,.int u8 (rT (q4 n cs) 1).s,.int u8 (rT (q4 n cs) 1).m,.str (rT (q4 n cs) 1).d,.int u8 0,
 .int u8 0,.int u8 0,.str []] 72 4,.dead]else R (.slice 0 0 0 false 0 0) [.row [.int u8 0,.int u8 0,.int
 u8 0,.str [],.int u8 0,.int u8 0,.int u8 0,.str []] 72 4,.dead]else bif !usB (rT (q4 n cs) 1).u (rT (q4 n cs) 1).s
 (rT (q4 n cs) 1).m (rT (q4 n cs) 1).d then R zX_0 [.row [.int u8 (rT (q4 n cs) 0).u,.int u8 (rT (q4 n cs) 0).s,.int u8 (rT (q4 n
 cs) 0).m,.str (rT (q4 n cs) 0).d,.int u8 0,.int u8 0,.int u8 0,.str []] 72 4]else R zX_1 [.row [.int u8 (rT (q4 n
 cs) 0).u,.int u8 (rT (q4 n cs) 0).s,.int u8 (rT (q4 n cs) 0).m,.str (rT (q4 n cs) 0).d,.int u8 (rT (q4 n cs) 1).u,.int
 u8 (rT (q4 n cs) 1).s,.int u8 (rT (q4 n cs) 1).m,.str (rT (q4 n cs) 1).d] 72 4]else bif okT ((k4 n)-0) (q4 n cs)&&((k4 n)-0).beq 3
 then bif !usB (rT (q4 n cs) 0).u (rT (q4 n cs) 0).s (rT (q4 n cs) 0).m (rT (q4 n cs) 0).d then bif !!usB (rT (q4 n cs) 1).u (rT (q4 n cs) 1).s (rT (q4 n cs) 1).m
 (rT (q4 n cs) 1).d then bif !!usB (rT (q4 n cs) 2).u (rT (q4 n cs) 2).s (rT (q4 n cs) 2).m (rT (q4 n cs) 2).d then R zX_1 [.row [.int u8 (rT (q4 n
 cs) 1).u,.int u8 (rT (q4 n cs) 1).s,.int u8 (rT (q4 n cs) 1).m,.str (rT (q4 n cs) 1).d,.int u8 (rT (q4 n cs) 2).u,.int
 u8 (rT (q4 n cs) 2).s,.int u8 (rT (q4 n cs) 2).m,.str (rT (q4 n cs) 2).d,.int u8 0,.int u8 0,.int u8 0,.str
 []] 72 4,.dead,.dead]else R zX_0 [.row [.int u8 (rT (q4 n cs) 1).u,.int u8 (rT (q4 n cs) 1).s,.int u8 (rT (q4 n cs)
 1).m,.str (rT (q4 n cs) 1).d,.int u8 0,.int u8 0,.int u8 0,.str [],.int u8 0,.int u8 0,.int u8 0,
 .str []] 72 4,.dead,.dead]else bif !!usB (rT (q4 n cs) 2).u (rT (q4 n cs) 2).s (rT (q4 n cs) 2).m (rT (q4 n cs) 2).d then R zX_0 [.row [.int
 u8 (rT (q4 n cs) 2).u,.int u8 (rT (q4 n cs) 2).s,.int u8 (rT (q4 n cs) 2).m,.str (rT (q4 n cs) 2).d,.int u8 0,.int
 u8 0,.int u8 0,.str [],.int u8 0,.int u8 0,.int u8 0,.str []] 72 4,.dead,.dead]else R (.slice 0 0 0
 false 0 0) [.row [.int u8 0,.int u8 0,.int u8 0,.str [],.int u8 0,.int u8 0,.int u8 0,.str [],
 .int u8 0,.int u8 0,.int u8 0,.str []] 72 4,.dead,.dead]else bif !usB (rT (q4 n cs) 1).u (rT (q4 n cs) 1).s (rT (q4 n cs)
 1).m (rT (q4 n cs) 1).d then bif !!usB (rT (q4 n cs) 2).u (rT (q4 n cs) 2).s (rT (q4 n cs) 2).m (rT (q4 n cs) 2).d then R zX_1 [.row [.int u8 (rT (q4
 n cs) 0).u,.int u8 (rT (q4 n cs) 0).s,.int u8 (rT (q4 n cs) 0).m,.str (rT (q4 n cs) 0).d,.int u8 (rT (q4 n cs) 2).u,.int
 u8 (rT (q4 n cs) 2).s,.int u8 (rT (q4 n cs) 2).m,.str (rT (q4 n cs) 2).d,.int u8 0,.int u8 0,.int u8 0,.str
 []] 72 4,.dead]else R zX_0 [.row [.int u8 (rT (q4 n cs) 0).u,.int u8 (rT (q4 n cs) 0).s,.int u8 (rT (q4 n cs) 0).m,.str
 (rT (q4 n cs) 0).d,.int u8 0,.int u8 0,.int u8 0,.str [],.int u8 0,.int u8 0,.int u8 0,.str []]
 72 4,.dead]else bif !usB (rT (q4 n cs) 2).u (rT (q4 n cs) 2).s (rT (q4 n cs) 2).m (rT (q4 n cs) 2).d then R zX_1 [.row [.int u8 (rT (q4 n cs)
 0).u,.int u8 (rT (q4 n cs) 0).s,.int u8 (rT (q4 n cs) 0).m,.str (rT (q4 n cs) 0).d,.int u8 (rT (q4 n cs) 1).u,.int u8
 (rT (q4 n cs) 1).s,.int u8 (rT (q4 n cs) 1).m,.str (rT (q4 n cs) 1).d,.int u8 0,.int u8 0,.int u8 0,.str []] 72 4]
 else R (.slice 0 0 3 false 0 0) [.row [.int u8 (rT (q4 n cs) 0).u,.int u8 (rT (q4 n cs) 0).s,.int u8 (rT (q4 n cs) 0).m,.str
 (rT (q4 n cs) 0).d,.int u8 (rT (q4 n cs) 1).u,.int u8 (rT (q4 n cs) 1).s,.int u8 (rT (q4 n cs) 1).m,.str (rT (q4 n cs) 1).d,
 .int u8 (rT (q4 n cs) 2).u,.int u8 (rT (q4 n cs) 2).s,.int u8 (rT (q4 n cs) 2).m,.str (rT (q4 n cs) 2).d] 72 4]else bif okT ((k4
 n)-0) (q4 n cs)&&((k4 n)-0).beq 4 then bif !usB (rT (q4 n cs) 0).u (rT (q4 n cs) 0).s (rT (q4 n cs) 0).m (rT (q4 n cs) 0).d then bif !!usB (rT (q4 n cs)
 1).u (rT (q4 n cs) 1).s (rT (q4 n cs) 1).m (rT (q4 n cs) 1).d then bif !!usB (rT (q4 n cs) 2).u (rT (q4 n cs) 2).s (rT (q4 n cs) 2).m (rT (q4 n cs) 2).d then bif
 !!usB (rT (q4 n cs) 3).u (rT (q4 n cs) 3).s (rT (q4 n cs) 3).m (rT (q4 n cs) 3).d then R (.slice 0 0 3 false 0 0) [.row [.int u8 (rT (q4 n cs) 1).u,
 .int u8 (rT (q4 n cs) 1).s,.int u8 (rT (q4 n cs) 1).m,.str (rT (q4 n cs) 1).d,.int u8 (rT (q4 n cs) 2).u,.int u8 (rT (q4
 n cs) 2).s,.int u8 (rT (q4 n cs) 2).m,.str (rT (q4 n cs) 2).d,.int u8 (rT (q4 n cs) 3).u,.int u8 (rT (q4 n cs) 3).s,.int
 u8 (rT (q4 n cs) 3).m,.str (rT (q4 n cs) 3).d,.int u8 0,.int u8 0,.int u8 0,.str []] 72 4,.dead,.dead,
 .dead]else R zX_1 [.row [.int u8 (rT (q4 n cs) 1).u,.int u8 (rT (q4 n cs) 1).s,.int u8 (rT (q4 n cs) 1).m,.str (rT (q4 n
 cs) 1).d,.int u8 (rT (q4 n cs) 2).u,.int u8 (rT (q4 n cs) 2).s,.int u8 (rT (q4 n cs) 2).m,.str (rT (q4 n cs) 2).d,.int
 u8 0,.int u8 0,.int u8 0,.str [],.int u8 0,.int u8 0,.int u8 0,.str []] 72 4,.dead,.dead,
 .dead]else bif !!usB (rT (q4 n cs) 3).u (rT (q4 n cs) 3).s (rT (q4 n cs) 3).m (rT (q4 n cs) 3).d then R zX_1 [.row [.int u8 (rT (q4 n cs) 1).u,
 .int u8 (rT (q4 n cs) 1).s,.int u8 (rT (q4 n cs) 1).m,.str (rT (q4 n cs) 1).d,.int u8 (rT (q4 n cs) 3).u,.int u8 (rT (q4
 n cs) 3).s,.int u8 (rT (q4 n cs) 3).m,.str (rT (q4 n cs) 3).d,.int u8 0,.int u8 0,.int u8 0,.str [],.int u8
 0,.int u8 0,.int u8 0,.str []] 72 4,.dead,.dead,.dead]else R zX_0 [.row [.int u8 (rT (q4 n cs) 1).u,.int
 u8 (rT (q4 n cs) 1).s,.int u8 (rT (q4 n cs) 1).m,.str (rT (q4 n cs) 1).d,.int u8 0,.int u8 0,.int u8 0,.str
 [],.int u8 0,.int u8 0,.int u8 0,.str [],.int u8 0,.int u8 0,.int u8 0,.str []] 72 4,.dead,
 .dead,.dead]else bif !!usB (rT (q4 n cs) 2).u (rT (q4 n cs) 2).s (rT (q4 n cs) 2).m (rT (q4 n cs) 2).d then bif !!usB (rT (q4 n cs) 3).u (rT (q4 n cs)
 3).s (rT (q4 n cs) 3).m (rT (q4 n cs) 3).d then R zX_1 [.row [.int u8 (rT (q4 n cs) 2).u,.int u8 (rT (q4 n cs) 2).s,.int u8 (rT
 (q4 n cs) 2).m,.str (rT (q4 n cs) 2).d,.int u8 (rT (q4 n cs) 3).u,.int u8 (rT (q4 n cs) 3).s,.int u8 (rT (q4 n cs) 3).m,.str
 (rT (q4 n cs) 3).d,.int u8 0,.int u8 0,.int u8 0,.str [],.int u8 0,.int u8 0,.int u8 0,.str []]
 72 4,.dead,.dead,.dead]else R zX_0 [.row [.int u8 (rT (q4 n cs) 2).u,.int u8 (rT (q4 n cs) 2).s,.int u8 (rT (q4 n
 cs) 2).m,.str (rT (q4 n cs) 2).d,.int u8 0,.int u8 0,.int u8 0,.str [],.int u8 0,.int u8 0,.int
 u8 0,.str [],.int u8 0,.int u8 0,.int u8 0,.str []] 72 4,.dead,.dead,.dead]else bif !!usB (rT (q4 n cs)
 3).u (rT (q4 n cs) 3).s (rT (q4 n cs) 3).m (rT (q4 n cs) 3).d then R zX_0 [.row [.int u8 (rT (q4 n cs) 3).u,.int u8 (rT (q4 n cs) 3).s,
 .int u8 (rT (q4 n cs) 3).m,.str (rT (q4 n cs) 3).d,.int u8 0,.int u8 0,.int u8 0,.str [],.int u8 0,.int
 u8 0,.int u8 0,.str [],.int u8 0,.int u8 0,.int u8 0,.str []] 72 4,.dead,.dead,.dead]else R
 (.slice 0 0 0 false 0 0) [.row [.int u8 0,.int u8 0,.int u8 0,.str [],.int u8 0,.int u8 0,.int
 u8 0,.str [],.int u8 0,.int u8 0,.int u8 0,.str [],.int u8 0,.int u8 0,.int u8 0,.str
 []] 72 4,.dead,.dead,.dead]else bif !usB (rT (q4 n cs) 1).u (rT (q4 n cs) 1).s (rT (q4 n cs) 1).m (rT (q4 n cs) 1).d then bif !!usB (rT (q4 n cs)
 2).u (rT (q4 n cs) 2).s (rT (q4 n cs) 2).m (rT (q4 n cs) 2).d then bif !!usB (rT (q4 n cs) 3).u (rT (q4 n cs) 3).s (rT (q4 n cs) 3).m (rT (q4 n cs) 3).d then R
 (.slice 0 0 3 false 0 0) [.row [.int u8 (rT (q4 n cs) 0).u,.int u8 (rT (q4 n cs) 0).s,.int u8 (rT (q4 n cs) 0).m,.str (rT (q4
 n cs) 0).d,.int u8 (rT (q4 n cs) 2).u,.int u8 (rT (q4 n cs) 2).s,.int u8 (rT (q4 n cs) 2).m,.str (rT (q4 n cs) 2).d,.int
 u8 (rT (q4 n cs) 3).u,.int u8 (rT (q4 n cs) 3).s,.int u8 (rT (q4 n cs) 3).m,.str (rT (q4 n cs) 3).d,.int u8 0,.int
 u8 0,.int u8 0,.str []] 72 4,.dead,.dead]else R zX_1 [.row [.int u8 (rT (q4 n cs) 0).u,.int u8 (rT (q4 n cs)
 0).s,.int u8 (rT (q4 n cs) 0).m,.str (rT (q4 n cs) 0).d,.int u8 (rT (q4 n cs) 2).u,.int u8 (rT (q4 n cs) 2).s,.int u8
 (rT (q4 n cs) 2).m,.str (rT (q4 n cs) 2).d,.int u8 0,.int u8 0,.int u8 0,.str [],.int u8 0,.int u8 0,.int
 u8 0,.str []] 72 4,.dead,.dead]else bif !!usB (rT (q4 n cs) 3).u (rT (q4 n cs) 3).s (rT (q4 n cs) 3).m (rT (q4 n cs) 3).d then R zX_1 [.row
 [.int u8 (rT (q4 n cs) 0).u,.int u8 (rT (q4 n cs) 0).s,.int u8 (rT (q4 n cs) 0).m,.str (rT (q4 n cs) 0).d,.int u8 (rT
 (q4 n cs) 3).u,.int u8 (rT (q4 n cs) 3).s,.int u8 (rT (q4 n cs) 3).m,.str (rT (q4 n cs) 3).d,.int u8 0,.int u8 0,.int
 u8 0,.str [],.int u8 0,.int u8 0,.int u8 0,.str []] 72 4,.dead,.dead]else R zX_0 [.row [.int u8
 (rT (q4 n cs) 0).u,.int u8 (rT (q4 n cs) 0).s,.int u8 (rT (q4 n cs) 0).m,.str (rT (q4 n cs) 0).d,.int u8 0,.int u8 0,
 .int u8 0,.str [],.int u8 0,.int u8 0,.int u8 0,.str [],.int u8 0,.int u8 0,.int u8 0,
 .str []] 72 4,.dead,.dead]else bif !usB (rT (q4 n cs) 2).u (rT (q4 n cs) 2).s (rT (q4 n cs) 2).m (rT (q4 n cs) 2).d then bif !!usB (rT (q4 n cs) 3).u
 (rT (q4 n cs) 3).s (rT (q4 n cs) 3).m (rT (q4 n cs) 3).d then R (.slice 0 0 3 false 0 0) [.row [.int u8 (rT (q4 n cs) 0).u,.int u8 (rT (q4
 n cs) 0).s,.int u8 (rT (q4 n cs) 0).m,.str (rT (q4 n cs) 0).d,.int u8 (rT (q4 n cs) 1).u,.int u8 (rT (q4 n cs) 1).s,.int
 u8 (rT (q4 n cs) 1).m,.str (rT (q4 n cs) 1).d,.int u8 (rT (q4 n cs) 3).u,.int u8 (rT (q4 n cs) 3).s,.int u8 (rT (q4 n cs)
 3).m,.str (rT (q4 n cs) 3).d,.int u8 0,.int u8 0,.int u8 0,.str []] 72 4,.dead]else R zX_1 [.row [.int u8 (rT
 (q4 n cs) 0).u,.int u8 (rT (q4 n cs) 0).s,.int u8 (rT (q4 n cs) 0).m,.str (rT (q4 n cs) 0).d,.int u8 (rT (q4 n cs) 1).u,.int
 u8 (rT (q4 n cs) 1).s,.int u8 (rT (q4 n cs) 1).m,.str (rT (q4 n cs) 1).d,.int u8 0,.int u8 0,.int u8 0,.str
 [],.int u8 0,.int u8 0,.int u8 0,.str []] 72 4,.dead]else bif !usB (rT (q4 n cs) 3).u (rT (q4 n cs) 3).s (rT (q4 n cs) 3).m
 (rT (q4 n cs) 3).d then R (.slice 0 0 3 false 0 0) [.row [.int u8 (rT (q4 n cs) 0).u,.int u8 (rT (q4 n cs) 0).s,.int u8 (rT (q4
 n cs) 0).m,.str (rT (q4 n cs) 0).d,.int u8 (rT (q4 n cs) 1).u,.int u8 (rT (q4 n cs) 1).s,.int u8 (rT (q4 n cs) 1).m,.str (rT
 (q4 n cs) 1).d,.int u8 (rT (q4 n cs) 2).u,.int u8 (rT (q4 n cs) 2).s,.int u8 (rT (q4 n cs) 2).m,.str (rT (q4 n cs) 2).d,.int
 u8 0,.int u8 0,.int u8 0,.str []] 72 4]else R (.slice 0 0 4 false 0 0) [.row [.int u8 (rT (q4 n cs) 0).u,.int
 u8 (rT (q4 n cs) 0).s,.int u8 (rT (q4 n cs) 0).m,.str (rT (q4 n cs) 0).d,.int u8 (rT (q4 n cs) 1).u,.int u8 (rT (q4 n cs)
 1).s,.int u8 (rT (q4 n cs) 1).m,.str (rT (q4 n cs) 1).d,.int u8 (rT (q4 n cs) 2).u,.int u8 (rT (q4 n cs) 2).s,.int u8
 (rT (q4 n cs) 2).m,.str (rT (q4 n cs) 2).d,.int u8 (rT (q4 n cs) 3).u,.int u8 (rT (q4 n cs) 3).s,.int u8 (rT (q4 n cs) 3).m,
 .str (rT (q4 n cs) 3).d] 72 4]else False else False else False):=by kernel_rfl
def bx:List TL→List TL
 |[]=>[]
 |r::l=>bif usB r.u r.s r.m r.d then r::bx l else bx l
def fm:List TL→List V
 |[]=>[]
 |r::l=>bif usB r.u r.s r.m r.d then fm l else .int .u8 0::.int .u8 0::.int .u8 0::.str []::fm l
def usaL(cs:List V):List TL:=(tlD cs).take 4
def usaT:List V→Option (Qx)
 |[.lst x n cs]=>some [(okT n cs&&nilX (iF x 0 (k4 n) 4),(.nilSlice,[])),(okT n cs,(.slice 0 0 (bx (usaL cs)).length false 0 0,[.row (tls (bx (usaL cs))++fm (usaL cs)) 72 4]))]
 |_=>none
theorem k4_eq(n:Nat):k4 n=min 4 n:=by unfold k4;split<;>omega
theorem usa_ok(args:List V)(L:Qx)(o:V×St)(h:usaT args=some L)(ho:aL L=some o):FnSat Qq 59 args [] (Is o):=by
 unfold usaT at h;split at h
 ·rename_i x n cs;cases h;cases hk:okT n cs with
  |false=>rw[hk]at ho;simp[aL]at ho
  |true=>
  rw[hk,aH]at ho;obtain⟨l,rfl,rfl,h1,h2⟩:=fL hk;have hK:k4 l.length=(l.take 4).length:=by rw[k4_eq,List.length_take]
  have hq:q4 l.length (tls l)=tls (l.take 4):=by
   unfold q4;rw[Nat.sub_zero,k4_eq,Nat.mul_comm,tls_take];congr 1;rcases Nat.le_total 4 l.length with h|h
   ·rw[Nat.min_eq_left h]
   ·rw[Nat.min_eq_right h,cz h,cz (Nat.le_refl _)]
  have c1:decide (0≤if 4<(l.length:Int)then 4 else(l.length:Int))=true:=am (by split<;>omega);have c2:(true&&(k4 l.length).ble l.length)=true:=by rw[aH];exact ag (by rw[k4_eq];omega)
  refine FnSat.fits ((dX aA CL1_ok (lim:=9) (n:=10) (cast (usa_tree x l.length (tls l) (fun v st=>Fits 0 [o.1] o.2 [some v] st)).symm ?_)).mono fun u st hq=>sD hq);rw[c1,c2,ae,ae];cases hx:nilX (iF x 0 (k4 l.length) 4)with
  |true=>
   rw[hx]at ho;cases ho;exact⟨[],[.nilSlice],rfl,rfl,FitsM.of trivial,by decide,fun i hi=>by omega⟩
  |false=>
  rw[hx]at ho;have ho:(V.slice 0 0 (bx (usaL (tls l))).length false 0 0,[Blk.row (tls (bx (usaL (tls l)))++fm (usaL (tls l))) 72 4])=o:=Option.some.inj ho;rw[←ho,ak,hq,Nat.sub_zero,hK];have hu:usaL (tls l)=l.take 4:=by unfold usaL;rw[ci]
  rw[hu];have hl:(l.take 4).length≤4:=by rw[List.length_take];omega
  have hkq:okT (l.take 4).length (tls (l.take 4))=true:=ji (by omega);rw[hkq];clear hx ho hu hkq hK hq c1 c2 hk h1 h2;generalize l.take 4=q at*
  simp only[rT_tls,aH]
  match q,hl with
  |[],_=>exact dD rfl rfl
  |[a],_=>
   simp only[List.getD_cons_zero];cases ha:usB a.u a.s a.m a.d<;>(simp only[bx,fm,ha,ae,ak];exact dD rfl rfl)
  |[a,b],_=>
   simp only[List.getD_cons_zero,List.getD_cons_succ];cases ha:usB a.u a.s a.m a.d<;>cases hb:usB b.u b.s b.m b.d<;>(simp only[bx,fm,ha,hb,ae,ak];exact dD rfl rfl)
  |[a,b,c],_=>
   simp only[List.getD_cons_zero,List.getD_cons_succ];cases ha:usB a.u a.s a.m a.d<;>cases hb:usB b.u b.s b.m b.d<;>cases hc:usB c.u c.s c.m c.d<;>(simp only[bx,fm,ha,hb,hc,ae,ak];exact dD rfl rfl)
  |[a,b,c,d],_=>
   simp only[List.getD_cons_zero,List.getD_cons_succ];cases ha:usB a.u a.s a.m a.d<;>cases hb:usB b.u b.s b.m b.d<;>cases hc:usB c.u c.s c.m c.d<;>cases hd:usB d.u d.s d.m d.d<;>(simp only[bx,fm,ha,hb,hc,hd,ae,ak];exact dD rfl rfl)
  |a::b::c::d::e::r,hl=>simp only[bi]at hl;omega
 ·cases h
def AY0:Tab:=⟨addT noT 158 matT,noL,aT 9⟩
theorem AY0_ok:TabOk3 Qq AY0:=⟨aR aJ mat_ok,aK,au 9⟩
def ayF(y1:Value)(p:Value)(k:Nat)(ds:List V)(y2:Value)(h:List UInt8)(y3:Value)(now:Int):V:=.func (.func 157) [] [.lptr y1 1 [.lst p k ds] 0,.lptr y2 1 [.str h] 0,.lptr y3 1 [.int .i64 now] 0]
def zY_0(cs:List V)(i:Int):=[Blk.row [V.int u8 (aq (cs.getD (i.toNat*4+0) (V.bool false))),V.int u8 (aq (cs.getD (i.toNat*4+1) (V.bool false))),V.int u8 (aq (cs.getD (i.toNat*4+2) (V.bool false))),V.str (ab (cs.getD (i.toNat*4+3) (V.bool false)))] 72 4]
theorem ay_round(x:Value)(n:Nat)(cs:List V)(y1:Value)(p:Value)(k:Nat)(ds:List V)(y2:Value)(h:List UInt8)(y3:Value)(now:Int)(i:Int)(R:Qz):al Qq AY0 9 10 (ah 9) 160 26 [0,1,4,7,8] [.lst x n cs,ayF y1 p k ds y2 h y3 now,.int .i64 0,.int .i64 n,.int .i64 i] [] R=
 (
 bif decide (i<(↑n:Int))then bif decide (0≤i)&&decide (i<(↑n:Int))then bif (i.toNat*4+4).ble cs.length then bif ao u8 (cs.getD
 (i.toNat*4+0) (.bool false))then bif ao u8 (cs.getD (i.toNat*4+1) (.bool false))then bif ao u8 (cs.getD (i.toNat*4+2)
 (.bool false))then bif ar (cs.getD (i.toNat*4+3) (.bool false))then bif okS k ds&&(u8B ((aq (cs.getD (i.toNat*4+1) (.bool false))))&&u8B
 ((aq (cs.getD (i.toNat*4+2) (.bool false)))))then bif matB ((aq (cs.getD (i.toNat*4+0) (.bool false)))) ((aq (cs.getD (i.toNat*4+1)
 (.bool false)))) ((aq (cs.getD (i.toNat*4+2) (.bool false)))) ((ab (cs.getD (i.toNat*4+3) (.bool false)))) (List.map ab ds) (h) (now)then
 R .ret [some (.lst x n cs),some (V.func (Fn.func 157) [] [V.lptr y1 1 [.lst p k ds] 0,V.lptr y2 1 [.str h] 0,V.lptr y3 1 [.int i64 now] 0]),
 some (.int i64 i),some (.int i64 (↑n:Int)),some (.int i64 i)] (zY_0 cs i)else R .normal [some (.lst x n cs),some (V.func
 (Fn.func 157) [] [V.lptr y1 1 [.lst p k ds] 0,V.lptr y2 1 [.str h] 0,V.lptr y3 1 [.int i64 now] 0]),some (.int i64 0),some (.int
 i64 (↑n:Int)),some (.int i64 (i64.wrap (i+1)))] (zY_0 cs i)else False else False else False else False else False else False else
 False else R (.exit 0) [some (.lst x n cs),some (V.func (Fn.func 157) [] [V.lptr y1 1 [.lst p k ds] 0,V.lptr y2 1 [.str h] 0,V.lptr y3 1 [.int
 i64 now] 0]),some (.int i64 0),some (.int i64 (↑n:Int)),some (.int i64 i)] []):=by kernel_rfl
def inU(r:TL):Bool:=u8B r.s&&u8B r.m
def anyC(l:List TL)(ds:List (List UInt8))(h:List UInt8)(now:Int):Bool:=l.any fun r=>matB r.u r.s r.m r.d ds h now
structure AY where
 x:Value
 n:Nat
 cs:List V
 y1:Value
 p:Value
 k:Nat
 ds:List V
 y2:Value
 h:List UInt8
 y3:Value
 now:Int
 i:Nat
def AY.f(z:AY):V:=ayF z.y1 z.p z.k z.ds z.y2 z.h z.y3 z.now
def ayV(z:AY):List V:=[.lst z.x z.n z.cs,ayF z.y1 z.p z.k z.ds z.y2 z.h z.y3 z.now,.int .i64 0,.int .i64 z.n,.int .i64 z.i]
def ayJ(_:AY):St:=[]
def qL(z:AY):Bool:=okT z.n z.cs&&(okS z.k z.ds&&((tlD z.cs).all inU&&Nat.ble z.i z.n))
def ayMu(z:AY):Nat:=z.n-z.i
def ayDec:List (Option V)→St→Option AY
 |[some (.lst x n cs),some (.func (.func 157) [] [.lptr y1 1 [.lst p k ds] 0,.lptr y2 1 [.str h] 0,.lptr y3 1 [.int .i64 now] 0]),some (.int .i64 0),some (.int .i64 _),some (.int .i64 0)],_=>some ⟨x,n,cs,y1,p,k,ds,y2,h,y3,now,0⟩
 |_,_=>none
def ayW(cs ds:List V)(h:List UInt8)(now:Int)(i:Nat):Bool:=anyC ((tlD cs).drop i) (ds.map ab) h now
def uC(x:Value)(n:Nat)(cs:List V)(f:V)(b:Bool)(K:Exit→List V→St→Prop):Prop:=
 bif b then ∀i:Nat,K .ret [.lst x n cs,f,.int .i64 i,.int .i64 n,.int .i64 i] []else K (.exit 0) [.lst x n cs,f,.int .i64 0,.int .i64 n,.int .i64 n] []
def ayOut:Asks AY:=fun z K=>uC z.x z.n z.cs (ayF z.y1 z.p z.k z.ds z.y2 z.h z.y3 z.now) (ayW z.cs z.ds z.h z.now z.i) K
theorem ay_roundOk(z:AY)(hx:qL z=true):al Qq AY0 9 10 (ah 9) 160 26 [0,1,4,7,8] (ayV z) (ayJ z) (aD 0 qL ayV ayJ ayMu ayOut z):=by
 obtain⟨x,n,cs,y1,p,k,ds,y2,h,y3,now,i⟩:=z;unfold qL at hx;simp only[ad]at hx;have hx1:okT n cs=true:=hx.1;have hx2:okS k ds=true:=hx.2.1;have hx3:(tlD cs).all inU=true:=hx.2.2.1;have p1:i≤n:=aw hx.2.2.2;obtain⟨l,rfl,rfl,p2,p3⟩:=fL hx1;rw[p3]at hx3;show al Qq AY0 9 10 (ah 9) 160 26 [0,1,4,7,8] [.lst x l.length (tls l),ayF y1 p k ds y2 h y3 now,.int .i64 0,.int .i64 l.length,.int .i64 i] [] _;rw[ay_round];unfold zY_0;have out:∀K,ayOut ⟨x,l.length,tls l,y1,p,k,ds,y2,h,y3,now,i⟩ K→uC x l.length (tls l) (ayF y1 p k ds y2 h y3 now) (anyC (l.drop i) (ds.map ab) h now) K:=fun K hK=>by
  have hK:uC x l.length (tls l) (ayF y1 p k ds y2 h y3 now) (anyC ((tlD (tls l)).drop i) (ds.map ab) h now) K:=hK;rw[p3]at hK;exact hK
 have fl:∀a j:Int,aM [.lst x l.length (tls l),ayF y1 p k ds y2 h y3 now,.int .i64 a,.int .i64 l.length,.int .i64 j]=true:=fun _ _=>rfl;cases hd:l.drop i with
 |nil=>
  have hi:=bY hd p1;rw[bH (show ¬((i:Int)<(l.length:Int)) by omega),ak];refine⟨_,[],fun K hK=>?_,aV _ (fl 0 i) _ rfl _⟩;have hK:=out K hK;rw[hd]at hK;have hn:i=l.length:=by omega
  rw[hn];exact hK
 |cons c r=>
  obtain⟨e1,e2,e3⟩:=bn hd;have get:∀j,j<4→(tls l).getD (i*4+j) (.bool false)=c.cells.getD j (.bool false):=fun j hj=>by
   obtain⟨t1,t2⟩:=tls_at hd hj;rw[bX,bX,Nat.mul_comm,t1]
  have g0:(tls l).getD (i*4+0) (.bool false)=.int .u8 c.u:=get 0 (by omega);have g1:(tls l).getD (i*4+1) (.bool false)=.int .u8 c.s:=get 1 (by omega);have g2:(tls l).getD (i*4+2) (.bool false)=.int .u8 c.m:=get 2 (by omega);have g3:(tls l).getD (i*4+3) (.bool false)=.str c.d:=get 3 (by omega);have hc:inU c=true:=List.all_eq_true.1 hx3 c (List.mem_of_mem_drop (by rw[hd];simp));have hc:(u8B c.s&&u8B c.m)=true:=hc;have d1:decide ((i:Int)<(l.length:Int))=true:=am (by omega);have d2:decide ((0:Int)≤(i:Int))=true:=am (by omega);have l4:(i*4+4).ble (tls l).length=true:=ag (by rw[dV];omega);have w2:i64.wrap ((i:Int)+1)=((i+1:Nat):Int):=by rw[IntWalk.i64_in _ ⟨by omega,by omega⟩];omega
  simp only[d1,d2,bp,l4,g0,g1,g2,g3,ar,ab,ao,aq,decide_true,w2,hx2,hc,bv,ae];have next:anyC (c::r) (ds.map ab) h now=(matB c.u c.s c.m c.d (ds.map ab) h now||anyC r (ds.map ab) h now):=rfl
  refine ac (fun e=>?_) (fun e=>?_)
  ·refine⟨_,[],fun K hK=>?_,aV _ (fl i i) _ rfl _⟩;have hK:=out K hK;rw[hd,next,e]at hK;exact hK i
  ·refine⟨⟨x,l.length,tls l,y1,p,k,ds,y2,h,y3,now,i+1⟩,?_,aV _ (fl 0 _) _ rfl _,by simp only[ayMu];omega,fun K hK=>?_⟩
   ·unfold qL;simp only[ad];exact⟨hx1,hx2,by rw[p3];exact hx3,ag (show i+1≤l.length by omega)⟩
   ·have hK:=out K hK;rw[hd,next,e,Bool.false_or]at hK;show uC x l.length (tls l) (ayF y1 p k ds y2 h y3 now) (anyC ((tlD (tls l)).drop (i+1)) (ds.map ab) h now) K;rw[p3,e2];exact hK
def lkAY:Nat→Trans→Trans:=ba 26 (bK 0 (szOf Qq 160) [0,1,4,7,8] ayDec qL ayV ayJ ayOut) (ah 9)
theorem lkAY_ok:aQ Qq 0 lkAY 160:=by
 unfold lkAY;exact bB (aY 9 0 160) (by kernel_rfl) fun f st Q h=>bc (P:=Qq) (T:=AY0) (k:=0) (lim:=9) (n:=10) (g:=160) (p0:=26) (lk:=ah 9) aA AY0_ok (bf 9 _ _) ayMu ay_roundOk h
def AY1:Tab:=⟨noT,noL,cI (aT 9) 160 0 lkAY⟩
theorem AY1_ok:TabOk3 Qq AY1:=⟨aJ,aK,bq (au 9) lkAY_ok⟩
theorem ay_tree(x:Value)(n:Nat)(cs:List V)(y1:Value)(p:Value)(k:Nat)(ds:List V)(y2:Value)(h:List UInt8)(y3:Value)(now:Int)(R:V→Prop):runW Qq AY1 9 10 156 [.lst x n cs,.func (.func 157) [] [.lptr y1 1 [.lst p k ds] 0,.lptr y2 1 [.str h] 0,.lptr y3 1 [.int .i64 now] 0]] R=
  (
 Fits 0 [.lst x n cs,V.func (Fn.func 157) [] [V.lptr y1 1 [.lst p k ds] 0,V.lptr y2 1 [.str h] 0,V.lptr y3 1 [.int i64 now] 0],.int i64 0,.int
 i64 (↑n:Int),.int i64 0] [] [some (.lst x n cs),some (V.func (Fn.func 157) [] [V.lptr y1 1 [.lst p k ds] 0,V.lptr y2 1 [.str h] 0,V.lptr y3 1
 [.int i64 now] 0]),some (.int i64 0),some (.int i64 (↑n:Int)),some (.int i64 0)] []∧bif qL {x:=x,n:=n,cs:=cs,y1:=y1,p:=p,k:=k,ds:=ds,y2:=y2,h:=h,y3:=y3,now:=now,i:=0}
 then bif ayW cs ds h now 0 then ∀(i:Nat),R (.bool true)else R (.bool false)else False):=by kernel_rfl
theorem ay_sat(x:Value)(n:Nat)(cs:List V)(y1:Value)(p:Value)(k:Nat)(ds:List V)(y2:Value)(h:List UInt8)(y3:Value)(now:Int)(h1:okT n cs=true)(h2:okS k ds=true)(h3:(tlD cs).all inU=true):FnSat Qq 156 [.lst x n cs,.func (.func 157) [] [.lptr y1 1 [.lst p k ds] 0,.lptr y2 1 [.str h] 0,.lptr y3 1 [.int .i64 now] 0]] [] (Is (.bool (anyC (tlD cs) (ds.map ab) h now),[])):=by
 refine ax (lim:=9) (n:=10) aA AY1_ok rfl rfl ?_;rw[ay_tree];have e:ayW cs ds h now 0=anyC (tlD cs) (ds.map ab) h now:=rfl;rw[e];refine⟨aV _ rfl _ rfl _,aa (by unfold qL;rw[h1,h2,h3];exact ag (Nat.zero_le _)) ?_⟩;cases anyC (tlD cs) (ds.map ab) h now with
 |false=>rfl
 |true=>intro _;rfl
end Go.Proofs.YtebkeppoicllmaaGreatDoor
namespace Go.Proofs.YtebkeppoicllmaaGreatDoor
open Go.IntKind (u8 u16 u32 u64 i8 i16 i32 i64)
open Go Go.Vm Go.RowKit
theorem func3{Φ Ψ:Frz}{m m':List MB}{fn:Fn}{v1 v2 v3:V}{x:Value}(h:@real _ Φ m (.func fn [] [v1,v2,v3])=some x):∃y1 y2 y3,@real _ Φ m v1=some y1∧@real _ Φ m v2=some y2∧@real _ Φ m v3=some y3∧
  ∀u1 u2 u3,@real _ Ψ m' u1=some y1→@real _ Ψ m' u2=some y2→@real _ Ψ m' u3=some y3→@real _ Ψ m' (.func fn [] [u1,u2,u3])=some x:=by
 cases h1:@real _ Φ m v1 with
 |none=>simp[real,ap,h1]at h
 |some y1=>
 cases h2:@real _ Φ m v2 with
 |none=>simp[real,ap,h1,h2]at h
 |some y2=>
 cases h3:@real _ Φ m v3 with
 |none=>simp[real,ap,h1,h2,h3]at h
 |some y3=>
 refine⟨y1,y2,y3,rfl,rfl,rfl,fun u1 u2 u3 k1 k2 k3=>?_⟩;simp only[real,ap,h1,h2,h3]at h;simp only[real,ap,k1,k2,k3];exact h
variable [Φ:Frz]
def anyOK(p:V)(k:Nat)(ds:List V)(st:St):Bool:=match eu st p with
 |some (c,l)=>c&&(okS k ds&&(l.all inU&&Nat.ble l.length 9223372036854775807))
 |none=>false
def anyW(p:V)(ds:List V)(h:List UInt8)(now:Int)(st:St):Bool:=match eu st p with
 |some (_,l)=>anyC l (ds.map ab) h now
 |none=>false
def anyFV(OK:V→Nat→List V→St→Bool)(AV:V→List V→List UInt8→Int→St→Bool):List V→St→Option (Qx)
 |[p,.func (.func 157) [] [.ptr b1 0,.ptr b2 0,.ptr b3 0]],st=>match st[b1]?,st[b2]?,st[b3]? with
  |some (.row [.lst _ k ds] _ _),some (.row [.str h] _ _),some (.row [.int .i64 now] _ _)=>some [(OK p k ds st,(.bool (AV p ds h now st),st))]
  |_,_,_=>none
 |_,_=>none
theorem anyFV_ok(args:List V)(s:St)(L:Qx)(o:V×St)(h:anyFV anyOK anyW args s=some L)(ho:aL L=some o):FnSat Qq 156 args s (Is o):=by
 unfold anyFV at h;split at h
 ·rename_i p b1 b2 b3;split at h
  ·rename_i q k ds t1 s1 hh t2 s2 now t3 s3 hb1 hb2 hb3;cases h;obtain⟨hk,rfl⟩:=aO ho;unfold anyOK at hk;unfold anyW;cases hv:eu s p with
   |none=>rw[hv]at hk;cases hk
   |some a=>
   obtain⟨c,l⟩:=a;rw[hv]at hk;simp only[ad]at hk;obtain⟨rfl,h1,h2,h3⟩:=hk;refine cx rfl fun B W0 w m rargs hr ha=>?_;obtain⟨a,r,q1,q2,rfl⟩:=aj ha;obtain⟨a2,r2,q3,q4,rfl⟩:=aj q2;simp only[ap,af]at q4;subst q4;have e2:=iR hr hv q1;obtain⟨x1,x2,x3,f1,f2,f3,hf⟩:=func3 (Ψ:=Frz.of w) (m':=[]) q3;obtain⟨y1,g1⟩:=oV hr hb1 rfl f1;obtain⟨y2,g2⟩:=oV hr hb2 rfl f2;obtain⟨y3,g3⟩:=oV hr hb3 rfl f3;have hl:l.length≤9223372036854775807:=aw h3;have:=@ay_sat (Frz.of w) a l.length (tls l) y1 q k ds y2 hh y3 now (ji hl) h1 (by rw[ci];exact h2);rw[ci]at this;exact⟨[lstT a l,.func (.func 157) [] [.lptr y1 1 [.lst q k ds] 0,.lptr y2 1 [.str hh] 0,.lptr y3 1 [.int .i64 now] 0]],@aI _ (Frz.of w) [] _ _ _ _ e2 (@aI _ (Frz.of w) [] _ _ _ _ (hf _ _ _ g1 g2 g3) rfl),this⟩
  ·cases h
 ·cases h
def AG(OK:V→Nat→List V→St→Bool)(AV:V→List V→List UInt8→Int→St→Bool):Tab:=⟨addT noT 59 usaT,addS noL 156 (anyFV OK AV),aT 9⟩
theorem AG_ok:TabOk3 Qq (AG anyOK anyW):=⟨aR aJ usa_ok,bP aK anyFV_ok,au 9⟩
theorem any_tree(OK:V→Nat→List V→St→Bool)(AV:V→List V→List UInt8→Int→St→Bool)(x:Value)(n:Nat)(cs:List V)(p:Value)(k:Nat)(ds:List V)(h:List UInt8)(now:Int)(R:V→Prop):runW Qq (AG OK AV) 9 10 102 [.lst x n cs,.lst p k ds,.str h,.int .i64 now] R=
  (
 bif okT n cs&&nilX (iF x 0 (k4 n) 4)then bif OK .nilSlice k ds [.row [.lst p k ds] 22 1,.row [.str h] 9 1,.row [.int i64 now] 3 1]then R
 (.bool (AV .nilSlice ds h now [.row [.lst p k ds] 22 1,.row [.str h] 9 1,.row [.int i64 now] 3 1]))else False else bif okT n cs then bif OK
 (.slice 3 0 (bx (usaL cs)).length false 0 0) k ds [.row [.lst p k ds] 22 1,.row [.str h] 9 1,.row [.int i64 now] 3 1,.row (aF 3 (tls
 (bx (usaL cs))++fm (usaL cs))) 72 4]then R (.bool (AV (.slice 3 0 (bx (usaL cs)).length false 0 0) ds h now [.row [.lst p k ds] 22 1,.row [.str h]
 9 1,.row [.int i64 now] 3 1,.row (aF 3 (tls (bx (usaL cs))++fm (usaL cs))) 72 4]))else False else False):=by kernel_rfl
theorem shA(k:Nat):∀a b:List V,aF k (a++b)=aF k a++aF k b
 |[],b=>rfl
 |v::r,b=>by simp only[List.cons_append,aF,shA k r b]
theorem shT(k:Nat):∀l:List TL,aF k (tls l)=tls l
 |[]=>rfl
 |r::l=>by simp only[tls,aF,V.shift,shT k l]
theorem shZ(k:Nat):∀q:List TL,aF k (fm q)=fm q
 |[]=>rfl
 |r::l=>by
  rw[fm];cases usB r.u r.s r.m r.d with
  |true=>exact shZ k l
  |false=>simp only[ak,aF,V.shift,shZ k l]
theorem view_tls{st:St}{b:Nat}{l:List TL}{z:List V}(hb:(∃t sz,st[b]?=some (.row (tls l++z) t sz))∨∃o,st[b]?=some (.ro o (tls l++z)))(ex:Bool)(c zz:Nat):eu st (.slice b 0 l.length ex c zz)=some (true,l):=by
 have ht:List.take (l.length*4) (tls l++z)=tls l:=by
  rw[List.take_append_of_le_length (by rw[dV];omega)];exact cz (by rw[dV];omega)
 have hle:(0+l.length*4).ble (tls l++z).length=true:=ag (by rw[bQ,dV];omega);have hv:cQ st 4 (.slice b 0 l.length ex c zz)=some (true,(l.length,tls l)):=by
  rcases hb with⟨t,sz,hb⟩|⟨o,hb⟩<;>simp only[cQ,hb,hle,List.drop_zero,ht]
 unfold eu;rw[hv];simp only[i4,ci,a9,bv]
theorem mU{p:TL→Bool}:∀q:List TL,q.all p=true→(bx q).all p=true
 |[],_=>rfl
 |r::l,h=>by
  rw[List.all_cons,ad]at h;rw[bx];cases usB r.u r.s r.m r.d with
  |true=>rw[ae,List.all_cons,h.1,mU l h.2];rfl
  |false=>exact mU l h.2
theorem qp:∀q:List TL,(bx q).length≤q.length
 |[]=>Nat.le_refl _
 |r::l=>by
  have:=qp l;rw[bx];cases usB r.u r.s r.m r.d with
  |true=>simpa using this
  |false=>rw[ak,bi];omega
theorem take_all{α:Type}{p:α→Bool}{l:List α}(n:Nat)(h:l.all p=true):(l.take n).all p=true:=by
 rw[List.all_eq_true]at h ⊢;exact fun x hx=>h x (List.mem_of_mem_take hx)
theorem nil_zero{m:List MB}{x y:Value}{n:Nat}{cs:List V}(h:real m (.lst x n cs)=some y)(hn:nilX (iF x 0 (k4 n) 4)=true):n=0:=by
 obtain⟨xs,_,_,hk⟩:=ed h;rcases hk with⟨a,cap,rfl,rfl,_⟩|⟨b,off,cap,arr,t,fz,rfl,h1,h2,_⟩
 ·rfl
 ·exfalso;unfold iF nilX at hn;simp only at hn;rw[if_neg (by omega)]at hn;cases hn
def anyT:List V→Option (Qx)
 |[.lst _ n cs,.lst _ k ds,.str h,.int .i64 now]=>some [(okT n cs&&(okS k ds&&(tlD cs).all inU),(.bool (anyC (bx (usaL cs)) (ds.map ab) h now),[]))]
 |_=>none
theorem anyT_ok(args:List V)(L:Qx)(o:V×St)(h:anyT args=some L)(ho:aL L=some o):FnSat Qq 102 args [] (Is o):=by
 unfold anyT at h;split at h
 ·rename_i x n cs p k ds hh now;cases h;obtain⟨hk,rfl⟩:=aO ho;simp only[ad]at hk;obtain⟨h1,h2,h3⟩:=hk;intro B W0 m w rargs hargs hr;obtain⟨a,r,q1,q2,e⟩:=aj hargs;refine(show FnSat Qq 102 [.lst x n cs,.lst p k ds,.str hh,.int .i64 now] [] (Is (.bool (anyC (bx (usaL cs)) (ds.map ab) hh now),[]))from ?_) B W0 m w rargs hargs hr;refine ax (lim:=9) (n:=10) aA AG_ok rfl rfl ?_;rw[any_tree,h1,aH];refine ac (fun hn=>?_) (fun _=>?_)
  ·have n0:=nil_zero q1 hn;subst n0;obtain⟨l,rfl,e0,_⟩:=fL h1;have:l=[]:=List.eq_nil_of_length_eq_zero e0.symm;subst this;refine aa ?_ rfl;show(true&&(okS k ds&&(([]:List TL).all inU&&Nat.ble 0 9223372036854775807)))=true;rw[h2];rfl
  ·rw[ae];have hlen:(bx (usaL cs)).length≤4:=by
    have:=qp (usaL cs);have h4:(usaL cs).length≤4:=by unfold usaL;rw[List.length_take];omega
    omega
   have hv:eu [Blk.row [V.lst p k ds] 22 1,Blk.row [V.str hh] 9 1,Blk.row [V.int i64 now] 3 1,Blk.row (aF 3 (tls (bx (usaL cs))++fm (usaL cs))) 72 4] (V.slice 3 0 (bx (usaL cs)).length false 0 0)=some (true,bx (usaL cs)):=by
    refine view_tls (z:=fm (usaL cs)) (.inl ⟨72,4,?_⟩) false 0 0;rw[shA,shT,shZ];rfl
   unfold anyOK anyW;rw[hv];refine aa ?_ rfl;show(true&&(okS k ds&&((bx (usaL cs)).all inU&&Nat.ble (bx (usaL cs)).length 9223372036854775807)))=true;have hg:(bx (usaL cs)).all inU=true:=mU _ (take_all 4 h3);rw[h2,hg,ag (by omega)];rfl
 ·cases h
def anyG:List V→St→Option (Qx)
 |[p,q,.str h,.int .i64 now],st=>match eu st p,bC st q with
  |some (b,l),some (c,r)=>some [(b&&(c&&(l.all inU&&(Nat.ble l.length 9223372036854775807&&Nat.ble r.length 9223372036854775807))),(.bool (anyC (bx (l.take 4)) r h now),st))]
  |_,_=>none
 |_,_=>none
theorem anyG_ok(args:List V)(s:St)(L:Qx)(o:V×St)(h:anyG args s=some L)(ho:aL L=some o):FnSat Qq 102 args s (Is o):=by
 unfold anyG at h;split at h
 ·rename_i p q hh now;split at h
  ·rename_i b l c r hv hw;cases h;obtain⟨hk,rfl⟩:=aO ho;simp only[ad]at hk;obtain⟨rfl,rfl,h1,h2,h3⟩:=hk;refine cx rfl fun B W0 w m rargs hr ha=>?_;obtain⟨a,r1,q1,q2,rfl⟩:=aj ha;obtain⟨a2,r2,q3,q4,rfl⟩:=aj q2;have e1:=iR hr hv q1;have e2:=cB hr hw q3;have h2:=aw h2;have h3:=aw h3;have:=@anyT_ok (Frz.of w) [lstT a l,lstS a2 r,.str hh,.int .i64 now] _ (.bool (anyC (bx (l.take 4)) r hh now),[]) (by unfold lstT lstS anyT;rfl) (by
    rw[ji h2,dH h3,ci,h1,ai];unfold usaL;rw[ci];rfl)
   exact⟨[lstT a l,lstS a2 r,.str hh,.int .i64 now],@aI _ (Frz.of w) [] _ _ _ _ e1 (@aI _ (Frz.of w) [] _ _ _ _ e2 q4),this⟩
  ·cases h
 ·cases h
end Go.Proofs.YtebkeppoicllmaaGreatDoor
namespace Go.Proofs.YtebkeppoicllmaaGreatDoor
open Go Go.Vm Go.RowKit
variable [Φ:Frz]
def yOK(p q:V)(st:St):Bool:=match eu st p,bC st q with
 |some (b,l),some (c,r)=>b&&(c&&(l.all inU&&(Nat.ble l.length 9223372036854775807&&Nat.ble r.length 9223372036854775807)))
 |_,_=>false
def yV(p q:V)(h:List UInt8)(now:Int)(st:St):Bool:=match eu st p,bC st q with
 |some (_,l),some (_,r)=>anyC (bx (l.take 4)) r h now
 |_,_=>false
def anyGV(OK:V→V→St→Bool)(AV:V→V→List UInt8→Int→St→Bool):List V→St→Option (Qx)
 |[p,q,.str h,.int .i64 now],st=>some [(OK p q st,(.bool (AV p q h now st),st))]
 |_,_=>none
theorem anyGV_ok(args:List V)(s:St)(L:Qx)(o:V×St)(h:anyGV yOK yV args s=some L)(ho:aL L=some o):FnSat Qq 102 args s (Is o):=by
 unfold anyGV at h;split at h
 ·rename_i p q hh now;cases h;obtain⟨hb,rfl⟩:=aO ho;unfold yOK at hb;split at hb
  ·rename_i b l c r hv hw;have hL:yV p q hh now s=anyC (bx (l.take 4)) r hh now:=by unfold yV;rw[hv,hw]
   rw[hL];refine anyG_ok [p,q,.str hh,.int .i64 now] s [(b&&(c&&(l.all inU&&(Nat.ble l.length 9223372036854775807&&Nat.ble r.length 9223372036854775807))),(.bool (anyC (bx (l.take 4)) r hh now),s))] _ (by simp only[anyG,hv,hw]) ?_;rw[hb];rfl
  ·cases hb
 ·cases h
end Go.Proofs.YtebkeppoicllmaaGreatDoor
end
