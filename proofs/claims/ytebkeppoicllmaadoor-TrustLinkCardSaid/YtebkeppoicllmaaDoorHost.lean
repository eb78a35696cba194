/- Whether a certificate is a host's: what it comes to. -/
import Derived.Test.YtebkeppoicllmaaDoorLabels
import Derived.Test.YtebkeppoicllmaaDoorBys
import Derived.Test.YtebkeppoicllmaaDoorVmc
namespace Go.Proofs.YtebkeppoicllmaaDoor
open Go.IntKind (u8 u16 u32 u64 i8 i16 i32 i64)
open Go Go.Vm Go.RowKit
set_option linter.unusedVariables false
set_option maxRecDepth 100000
set_option linter.unusedSectionVars false
variable [Φ:Frz]
noncomputable def HC0:Tab:=⟨addT (addP (addP noT 21 cpP) 22 matchP) 23 labsT,noL,bf 9⟩
theorem HC0_ok:TabOk3 Tryd.prog HC0:=⟨b8 (aQ (aQ aL cp_ok) match_ok) labs_ok,aM,au 9⟩
theorem hc_tree(s h:List UInt8)(R:V→Prop):lookW HC0 20 [.str s,.ptr 0 0] [.ro false [.str h]] (fun v _=>R v)=
  (
 bif iO s h then bif !fC s then R (.bool true)else bif mayN (eC s)then R (.bool (decide ((↑(lsN (eC s) []):Int)>1)))else bif !mayN (eC s)then R
 (.bool false)else False else R (.bool false)):=by kernel_rfl
def gG(s h:List UInt8):Bool:=iO s h&&(!fC s||decide ((lsN (eC s) []:Int)>1))
def hcL:List V→St→Option (Bool×V)
 |[.str s,.ptr 0 0],[.ro false [.str h]]=>some (true,.bool (gG s h))
 |_,_=>none
theorem match_pat{p s:List UInt8}(h:iO p s=true):mayN (eC p)=true:=by
 unfold iO at h;rw[Bool.and_eq_true]at h;exact h.1
theorem hcL_ok(args:List V)(s:St)(v:V)(h:hcL args s=some (true,v)):v.flat=true∧(∀b∈s,ax b.cs=true)∧FnSat Tryd.prog 20 args s (fun u _=>u=v):=by
 unfold hcL at h;split at h
 ·rename_i s h;cases h;refine⟨rfl,by simp[Blk.cs,ax,V.flat],lookW_ok HC0_ok ?_⟩;rw[hc_tree];unfold gG;cases h1:iO s h with
  |false=>rfl
  |true=>
   rw[match_pat h1];cases fC s<;>rfl
 ·cases h
noncomputable def HX0:Tab:=⟨noT,addL noL 20 hcL,bf 9⟩
theorem HX0_ok:TabOk3 Tryd.prog HX0:=⟨aL,addL_ok aM hcL_ok,au 9⟩
theorem hx_round(x:Value)(n:Nat)(cs:List V)(h:List UInt8)(i:Int)(R:Exit→List (Option V)→St→Prop):ao Tryd.prog HX0 9 10 (ah 9) 33 26 [0,1,4,7,8] [.lst x n cs,.func (.func 20) [] [.ptr 1 0],.int .i64 0,.int .i64 n,.int .i64 i] [.dead,.row [.str h] 9 1] R=
  (
 bif decide (i<(↑n:Int))then bif decide (0≤i)&&decide (i<(↑n:Int))then bif (i.toNat*1).blt cs.length then bif aw (cs.getD (i.toNat*1) (.bool false))
 then bif gG (aa (cs.getD (i.toNat*1) (.bool false))) h then R .ret [some (.lst x n cs),some (V.func (Fn.func 20) [] [.ptr 1 0]),some (.int i64
 i),some (.int i64 (↑n:Int)),some (.int i64 i)] [.dead,.row [.str h] 9 1]else R .normal [some (.lst x n cs),some (V.func (Fn.func 20)
 [] [.ptr 1 0]),some (.int i64 0),some (.int i64 (↑n:Int)),some (.int i64 (i64.wrap (i+1)))] [.dead,.row [.str h] 9 1]
 else False else False else False else R (.exit 0) [some (.lst x n cs),some (V.func (Fn.func 20) [] [.ptr 1 0]),some (.int i64 0),some (.int i64
 (↑n:Int)),some (.int i64 i)] [.dead,.row [.str h] 9 1]):=by kernel_rfl
structure HX where
 x:Value
 n:Nat
 cs:List V
 h:List UInt8
 i:Nat
def hxV(y:HX):List V:=[.lst y.x y.n y.cs,.func (.func 20) [] [.ptr 1 0],.int .i64 0,.int .i64 y.n,.int .i64 y.i]
def hxJ(y:HX):St:=[.dead,.row [.str y.h] 9 1]
def lW(y:HX):Bool:=okS y.n y.cs&&Nat.ble y.i y.n
def hxMu(y:HX):Nat:=y.n-y.i
def hxDec:List (Option V)→St→Option HX
 |[some (.lst x n cs),some (.func (.func 20) [] [.ptr 1 0]),some (.int .i64 0),some (.int .i64 _),some (.int .i64 0)],_::.row [.str h] _ _::_=>some ⟨x,n,cs,h,0⟩
 |_,_=>none
def anyH(cs:List V)(h:List UInt8):Bool:=(cs.map aa).any fun s=>gG s h
def oL(x:Value)(n:Nat)(cs:List V)(h:List UInt8)(b:Bool)(K:Exit→List V→St→Prop):Prop:=
 bif b then ∀i:Nat,K .ret [.lst x n cs,.func (.func 20) [] [.ptr 1 0],.int .i64 i,.int .i64 n,.int .i64 i] [.dead,.row [.str h] 9 1]else K (.exit 0) [.lst x n cs,.func (.func 20) [] [.ptr 1 0],.int .i64 0,.int .i64 n,.int .i64 n] [.dead,.row [.str h] 9 1]
def hxOut:Asks HX:=fun y K=>oL y.x y.n y.cs y.h (anyH (y.cs.drop y.i) y.h) K
theorem kU(v:V)(hv:v.flat=true)(n i a:Int)(b:Blk)(h:List UInt8):Fits 2 [v,.func (.func 20) [] [.ptr 1 0],.int .i64 a,.int .i64 n,.int .i64 i] [.dead,.row [.str h] 9 1] [some v,some (.func (.func 20) [] [.ptr 1 0]),some (.int .i64 a),some (.int .i64 n),some (.int .i64 i)] [b,.row [.str h] 9 1]:=
 ⟨[0,1],[v,.func (.func 20) [] [.ptr 1 0],.int .i64 a,.int .i64 n,.int .i64 i],rfl,by simp[renL,renV,fS v hv],FitsM.of ⟨.inl rfl,.inr ⟨_,.inl rfl,rfl⟩,trivial⟩,by decide,fun i hi=>by
   match i,hi with
   |0,_|1,_=>rfl⟩
theorem hx_roundOk(y:HX)(hx:lW y=true):ao Tryd.prog HX0 9 10 (ah 9) 33 26 [0,1,4,7,8] (hxV y) (hxJ y) (aR 2 lW hxV hxJ hxMu hxOut y):=by
 obtain⟨x,n,cs,h,i⟩:=y;unfold lW at hx;rw[Bool.and_eq_true]at hx;have p1:i≤n:=Nat.le_of_ble_eq_true hx.2;have hx1:okS n cs=true:=hx.1;obtain⟨l,rfl,rfl,p2,p3⟩:=fa hx1;show ao Tryd.prog HX0 9 10 (ah 9) 33 26 [0,1,4,7,8] [.lst x l.length (strs l),.func (.func 20) [] [.ptr 1 0],.int .i64 0,.int .i64 l.length,.int .i64 i] [.dead,.row [.str h] 9 1] _;rw[hx_round];have ha:∀j,anyH ((strs l).drop j) h=(l.drop j).any fun s=>gG s h:=fun j=>by
  unfold anyH;rw[List.map_drop,aA]
 have out:∀K,hxOut ⟨x,l.length,strs l,h,i⟩ K→oL x l.length (strs l) h ((l.drop i).any fun s=>gG s h) K:=fun K hK=>by
  have hK:oL x l.length (strs l) h (anyH ((strs l).drop i) h) K:=hK;rw[ha]at hK;exact hK
 cases hd:l.drop i with
 |nil=>
  have hi:=dc hd p1;rw[decide_eq_false (show ¬((i:Int)<(l.length:Int)) by omega),cond_false];refine⟨_,_,fun K hK=>?_,kU _ rfl _ _ _ _ h⟩;have hK:=out K hK;rw[hd]at hK;rw[hi];exact hK
 |cons c r=>
  obtain⟨e1,e2,e3⟩:=bF hd;obtain⟨e4,e5⟩:=i4 hd;have q1:decide ((i:Int)<(l.length:Int))=true:=decide_eq_true (by omega);have q2:decide ((0:Int)≤(i:Int))=true:=decide_eq_true (by omega);rw[q1,q2];simp only[Int.toNat_natCast,e4,e5,aw,aa,cond_true,Bool.and_true,show i64.wrap ((i:Int)+1)=((i+1:Nat):Int) by rw[IntWalk.i64_in _ ⟨by omega,by omega⟩];omega];cases hc:gG c h with
  |true=>
   refine⟨_,_,fun K hK=>?_,kU _ rfl _ _ _ _ h⟩;have hK:=out K hK;rw[hd,List.any_cons,hc]at hK;exact hK i
  |false=>
   refine⟨⟨x,l.length,strs l,h,i+1⟩,?_,kU _ rfl _ _ _ _ h,by simp only[hxMu];omega,fun K hK=>?_⟩
   ·unfold lW;rw[Bool.and_eq_true];exact⟨hx1,Nat.ble_eq_true_of_le (show i+1≤l.length by omega)⟩
   ·have hK:=out K hK;show oL x l.length (strs l) h (anyH ((strs l).drop (i+1)) h) K;rw[ha,e2];rw[hd,List.any_cons,hc,Bool.false_or]at hK;exact hK
noncomputable def lkHX:Nat→Trans→Trans:=bA 26 (cx 2 (szOf Tryd.prog 33) [0,1,4,7,8] hxDec lW hxV hxJ hxOut) (ah 9)
theorem lkHX_ok:aC Tryd.prog 2 lkHX 33:=by
 unfold lkHX;exact cm (bj 9 2 33) (by kernel_rfl) fun f st Q h=>bN (P:=Tryd.prog) (T:=HX0) (k:=2) (lim:=9) (n:=10) (g:=33) (p0:=26) (lk:=ah 9) aH HX0_ok (bn 9 _ _) hxMu hx_roundOk h
noncomputable def HX1:Tab:=⟨noT,noL,dS (bf 9) 33 2 lkHX⟩
theorem HX1_ok:TabOk3 Tryd.prog HX1:=⟨aL,aM,bT (au 9) lkHX_ok⟩
theorem host_tree(k g:List UInt8)(x:Value)(n:Nat)(cs:List V)(f u:Int)(ca:Bool)(h:List UInt8)(R:V→Prop):runW Tryd.prog HX1 9 10 11 [.agg [.str k,.str g,.lst x n cs,.int .i64 f,.int .i64 u,.bool ca],.str h] R=
  (
 Fits 2 [.lst x n cs,V.func (Fn.func 20) [] [.ptr 1 0],.int i64 0,.int i64 (↑n:Int),.int i64 0] [.dead,.row [.str h] 9 1] [some
 (.lst x n cs),some (V.func (Fn.func 20) [] [.ptr 1 0]),some (.int i64 0),some (.int i64 (↑n:Int)),some (.int i64 0)] [.row [.str k,
 .str g,.lst x n cs,.int i64 f,.int i64 u,.bool ca] 27 6,.row [.str h] 9 1]∧bif lW {x:=x,n:=n,cs:=cs,h:=h,i:=0}then bif
 anyH cs h then ∀(i:Nat),R (.bool true)else R (.bool false)else False):=by kernel_rfl
theorem host_sat(k g:List UInt8)(x:Value)(l:List (List UInt8))(f u:Int)(ca:Bool)(h:List UInt8)(hl:l.length≤9223372036854775807):
  FnSat Tryd.prog 11 [.agg [.str k,.str g,lstS x l,.int .i64 f,.int .i64 u,.bool ca],.str h] [] (Is (.bool (l.any fun s=>gG s h),[])):=by
 refine aJ (lim:=9) (n:=10) aH HX1_ok rfl rfl ?_;unfold lstS;rw[host_tree];have ha:anyH (strs l) h=l.any fun s=>gG s h:=by unfold anyH;rw[aA]
 rw[ha];refine⟨kU _ rfl _ _ _ _ h,ae (by unfold lW;rw[iL hl];exact Nat.ble_eq_true_of_le (Nat.zero_le _)) ?_⟩;cases l.any fun s=>gG s h with
 |false=>rfl
 |true=>intro _;rfl
def hasH(l:List (List UInt8))(h:List UInt8):Bool:=l.any fun s=>gG s h
def hostG:List V→St→Option (List (Bool×(V×St)))
 |[.agg [.str k,.str g,p,.int .i64 f,.int .i64 u,.bool ca],.str h],st=>match cC st p with
  |some (b,l)=>some [(b&&Nat.ble l.length 9223372036854775807,(.bool (hasH l h),st))]
  |none=>none
 |_,_=>none
theorem hostG_ok(args:List V)(s:St)(l:List (Bool×(V×St)))(o:V×St)(h:hostG args s=some l)(ho:aP l=some o):FnSat Tryd.prog 11 args s (Is o):=by
 unfold hostG at h;split at h
 ·rename_i k g p f u ca hh;split at h
  ·rename_i b ls hv;cases h;obtain⟨hb,rfl⟩:=cM ho;rw[Bool.and_eq_true]at hb;obtain⟨rfl,h1⟩:=hb;refine eN rfl fun B W0 w m rargs hr ha=>?_;obtain⟨a,r,q1,q2,rfl⟩:=ai ha;obtain⟨y,hy⟩:=crt_frz hr hv q1;have q3:=bH (Ψ:=Frz.of w) (m':=[]) _ _ rfl q2;exact⟨[.agg [.str k,.str g,lstS y ls,.int .i64 f,.int .i64 u,.bool ca],.str hh],@ay _ (Frz.of w) [] _ _ _ _ hy q3,@host_sat (Frz.of w) k g y ls f u ca hh (Nat.le_of_ble_eq_true h1)⟩
  ·cases h
 ·cases h
theorem dates_tree(k g:List UInt8)(x:Value)(n:Nat)(cs:List V)(f u:Int)(ca:Bool)(now:Int)(R:V→Prop):runW Tryd.prog HX0 9 10 15 [.agg [.str k,.str g,.lst x n cs,.int .i64 f,.int .i64 u,.bool ca],.int .i64 now] R=
  (
 bif decide (f≤now)then R (.bool (decide (now≤u)))else R (.bool false)):=by kernel_rfl
def aS(f u now:Int):Bool:=decide (f≤now)&&decide (now≤u)
theorem dates_sat(k g:List UInt8)(x:Value)(n:Nat)(cs:List V)(f u:Int)(ca:Bool)(now:Int):
  FnSat Tryd.prog 15 [.agg [.str k,.str g,.lst x n cs,.int .i64 f,.int .i64 u,.bool ca],.int .i64 now] [] (Is (.bool (aS f u now),[])):=by
 refine aJ (lim:=9) (n:=10) aH HX0_ok rfl rfl ?_;rw[dates_tree];unfold aS;cases decide (f≤now)<;>rfl
def oW:List V→St→Option (List (Bool×(V×St)))
 |[.agg [.str k,.str g,p,.int .i64 f,.int .i64 u,.bool ca],.int .i64 now],st=>match cC st p with
  |some (b,_)=>some [(b,(.bool (aS f u now),st))]
  |none=>none
 |_,_=>none
theorem nJ(args:List V)(s:St)(l:List (Bool×(V×St)))(o:V×St)(h:oW args s=some l)(ho:aP l=some o):FnSat Tryd.prog 15 args s (Is o):=by
 unfold oW at h;split at h
 ·rename_i k g p f u ca now;split at h
  ·rename_i b ls hv;cases h;obtain⟨rfl,rfl⟩:=cM ho;refine eN rfl fun B W0 w m rargs hr ha=>?_;obtain⟨a,r,q1,q2,rfl⟩:=ai ha;obtain⟨y,hy⟩:=crt_frz hr hv q1;have q3:=bH (Ψ:=Frz.of w) (m':=[]) _ _ rfl q2;exact⟨[.agg [.str k,.str g,lstS y ls,.int .i64 f,.int .i64 u,.bool ca],.int .i64 now],@ay _ (Frz.of w) [] _ _ _ _ hy q3,@dates_sat (Frz.of w) k g y _ _ f u ca now⟩
  ·cases h
 ·cases h
end Go.Proofs.YtebkeppoicllmaaDoor
