/- Whether a policy matches a host: what it comes to. -/
import Derived.Test.YtebkeppoicllmaaGreatDoorMatch
import Derived.Test.YtebkeppoicllmaaGreatDoorBys
namespace Go.Proofs.YtebkeppoicllmaaGreatDoor
open Go.IntKind (u8 u16 u32 u64 i8 i16 i32 i64)
open Go Go.Vm Go.RowKit
set_option linter.unusedVariables false
set_option maxRecDepth 100000
set_option linter.unusedSectionVars false
variable [Φ:Frz]
noncomputable def PC0:Tab:=⟨addP noT 73 matchP,noL,c8 9⟩
theorem PC0_ok:TabOk3 Tryz.prog PC0:=⟨b9 cp match_ok,cr,be 9⟩
theorem pc_tree(s h:List UInt8)(R:V→Prop):lookW PC0 72 [.str s,.ptr 0 0] [.ro false [.str h]] (fun v _=>R v)=
  (
 R (.bool (cL s h))):=by kernel_rfl
def pcL:List V→St→Option (Bool×V)
 |[.str s,.ptr 0 0],[.ro false [.str h]]=>some (true,.bool (cL s h))
 |_,_=>none
theorem pcL_ok(args:List V)(s:St)(v:V)(h:pcL args s=some (true,v)):v.flat=true∧(∀b∈s,av b.cs=true)∧FnSat Tryz.prog 72 args s (fun u _=>u=v):=by
 unfold pcL at h;split at h
 ·rename_i s h;cases h;refine⟨rfl,by simp[Blk.cs,av,V.flat],lookW_ok PC0_ok ?_⟩;rw[pc_tree]
 ·cases h
noncomputable def PX0:Tab:=⟨noT,addL noL 72 pcL,c8 9⟩
theorem PX0_ok:TabOk3 Tryz.prog PX0:=⟨cp,addL_ok cr pcL_ok,be 9⟩
theorem px_round(x:Value)(n:Nat)(cs:List V)(h:List UInt8)(i:Int)(R:Exit→List (Option V)→St→Prop):cb Tryz.prog PX0 9 10 (aN 9) 129 26 [0,1,4,7,8] [.lst x n cs,.func (.func 72) [] [.ptr 1 0],.int .i64 0,.int .i64 n,.int .i64 i] [.dead,.row [.str h] 9 1] R=
  (
 bif decide (i<(↑n:Int))then bif decide (0≤i)&&decide (i<(↑n:Int))then bif (i.toNat*1).blt cs.length then bif cF (cs.getD (i.toNat*1) (.bool false))
 then bif cL (bI (cs.getD (i.toNat*1) (.bool false))) h then R .ret [some (.lst x n cs),some (V.func (Fn.func 72) [] [.ptr 1 0]),some (.int i64
 i),some (.int i64 (↑n:Int)),some (.int i64 i)] [.dead,.row [.str h] 9 1]else R .normal [some (.lst x n cs),some (V.func (Fn.func 72)
 [] [.ptr 1 0]),some (.int i64 0),some (.int i64 (↑n:Int)),some (.int i64 (i64.wrap (i+1)))] [.dead,.row [.str h] 9 1]
 else False else False else False else R (.exit 0) [some (.lst x n cs),some (V.func (Fn.func 72) [] [.ptr 1 0]),some (.int i64 0),some (.int i64
 (↑n:Int)),some (.int i64 i)] [.dead,.row [.str h] 9 1]):=by kernel_rfl
structure PX where
 x:Value
 n:Nat
 cs:List V
 h:List UInt8
 i:Nat
def pxV(y:PX):List V:=[.lst y.x y.n y.cs,.func (.func 72) [] [.ptr 1 0],.int .i64 0,.int .i64 y.n,.int .i64 y.i]
def pxJ(y:PX):St:=[.dead,.row [.str y.h] 9 1]
def iS(y:PX):Bool:=okS y.n y.cs&&Nat.ble y.i y.n
def pxMu(y:PX):Nat:=y.n-y.i
def pxDec:List (Option V)→St→Option PX
 |[some (.lst x n cs),some (.func (.func 72) [] [.ptr 1 0]),some (.int .i64 0),some (.int .i64 _),some (.int .i64 0)],_::.row [.str h] _ _::_=>some ⟨x,n,cs,h,0⟩
 |_,_=>none
def anyM(cs:List V)(h:List UInt8):Bool:=(cs.map bI).any fun s=>cL s h
def kR(x:Value)(n:Nat)(cs:List V)(h:List UInt8)(b:Bool)(K:Exit→List V→St→Prop):Prop:=
 bif b then ∀i:Nat,K .ret [.lst x n cs,.func (.func 72) [] [.ptr 1 0],.int .i64 i,.int .i64 n,.int .i64 i] [.dead,.row [.str h] 9 1]else K (.exit 0) [.lst x n cs,.func (.func 72) [] [.ptr 1 0],.int .i64 0,.int .i64 n,.int .i64 n] [.dead,.row [.str h] 9 1]
def pxOut:Asks PX:=fun y K=>kR y.x y.n y.cs y.h (anyM (y.cs.drop y.i) y.h) K
theorem iu(v:V)(hv:v.flat=true)(n i a:Int)(b:Blk)(h:List UInt8):Fits 2 [v,.func (.func 72) [] [.ptr 1 0],.int .i64 a,.int .i64 n,.int .i64 i] [.dead,.row [.str h] 9 1] [some v,some (.func (.func 72) [] [.ptr 1 0]),some (.int .i64 a),some (.int .i64 n),some (.int .i64 i)] [b,.row [.str h] 9 1]:=
 ⟨[0,1],[v,.func (.func 72) [] [.ptr 1 0],.int .i64 a,.int .i64 n,.int .i64 i],rfl,by simp[renL,renV,d8 v hv],FitsM.of ⟨.inl rfl,.inr ⟨_,.inl rfl,rfl⟩,trivial⟩,by decide,fun i hi=>by
   match i,hi with
   |0,_|1,_=>rfl⟩
theorem px_roundOk(y:PX)(px:iS y=true):cb Tryz.prog PX0 9 10 (aN 9) 129 26 [0,1,4,7,8] (pxV y) (pxJ y) (bX 2 iS pxV pxJ pxMu pxOut y):=by
 obtain⟨x,n,cs,h,i⟩:=y;unfold iS at px;rw[Bool.and_eq_true]at px;have p1:i≤n:=Nat.le_of_ble_eq_true px.2;have px1:okS n cs=true:=px.1;obtain⟨l,rfl,rfl,p2,p3⟩:=iV px1;show cb Tryz.prog PX0 9 10 (aN 9) 129 26 [0,1,4,7,8] [.lst x l.length (strs l),.func (.func 72) [] [.ptr 1 0],.int .i64 0,.int .i64 l.length,.int .i64 i] [.dead,.row [.str h] 9 1] _;rw[px_round];have ha:∀j,anyM ((strs l).drop j) h=(l.drop j).any fun s=>cL s h:=fun j=>by
  unfold anyM;rw[List.map_drop,bx]
 have out:∀K,pxOut ⟨x,l.length,strs l,h,i⟩ K→kR x l.length (strs l) h ((l.drop i).any fun s=>cL s h) K:=fun K hK=>by
  have hK:kR x l.length (strs l) h (anyM ((strs l).drop i) h) K:=hK;rw[ha]at hK;exact hK
 cases hd:l.drop i with
 |nil=>
  have hi:=hH hd p1;rw[decide_eq_false (show ¬((i:Int)<(l.length:Int)) by omega),cond_false];refine⟨_,_,fun K hK=>?_,iu _ rfl _ _ _ _ h⟩;have hK:=out K hK;rw[hd]at hK;rw[hi];exact hK
 |cons c r=>
  obtain⟨e1,e2,e3⟩:=dA hd;obtain⟨e4,e5⟩:=strs_at hd;have q1:decide ((i:Int)<(l.length:Int))=true:=decide_eq_true (by omega);have q2:decide ((0:Int)≤(i:Int))=true:=decide_eq_true (by omega);rw[q1,q2];simp only[Int.toNat_natCast,e4,e5,cF,bI,cond_true,Bool.and_true,show i64.wrap ((i:Int)+1)=((i+1:Nat):Int) by rw[IntWalk.i64_in _ ⟨by omega,by omega⟩];omega];cases hc:cL c h with
  |true=>
   refine⟨_,_,fun K hK=>?_,iu _ rfl _ _ _ _ h⟩;have hK:=out K hK;rw[hd,List.any_cons,hc]at hK;exact hK i
  |false=>
   refine⟨⟨x,l.length,strs l,h,i+1⟩,?_,iu _ rfl _ _ _ _ h,by simp only[pxMu];omega,fun K hK=>?_⟩
   ·unfold iS;rw[Bool.and_eq_true];exact⟨px1,Nat.ble_eq_true_of_le (show i+1≤l.length by omega)⟩
   ·have hK:=out K hK;show kR x l.length (strs l) h (anyM ((strs l).drop (i+1)) h) K;rw[ha,e2];rw[hd,List.any_cons,hc,Bool.false_or]at hK;exact hK
noncomputable def lkPX:Nat→Trans→Trans:=dm 26 (i5 2 (szOf Tryz.prog 129) [0,1,4,7,8] pxDec iS pxV pxJ pxOut) (aN 9)
theorem lkPX_ok:aX Tryz.prog 2 lkPX 129:=by
 unfold lkPX;exact iA (dk 9 2 129) (by kernel_rfl) fun f st Q h=>eL (P:=Tryz.prog) (T:=PX0) (k:=2) (lim:=9) (n:=10) (g:=129) (p0:=26) (lk:=aN 9) bQ PX0_ok (bY 9 _ _) pxMu px_roundOk h
noncomputable def PX1:Tab:=⟨noT,noL,ju (c8 9) 129 2 lkPX⟩
theorem PX1_ok:TabOk3 Tryz.prog PX1:=⟨cp,cr,eY (be 9) lkPX_ok⟩
theorem pm_tree(mo:Int)(x:Value)(n:Nat)(cs:List V)(ag:Int)(h:List UInt8)(R:V→Prop):runW Tryz.prog PX1 9 10 36 [.agg [.int .u8 mo,.lst x n cs,.int .i64 ag],.str h] R=
  (
 Fits 2 [.lst x n cs,V.func (Fn.func 72) [] [.ptr 1 0],.int i64 0,.int i64 (↑n:Int),.int i64 0] [.dead,.row [.str h] 9 1] [some
 (.lst x n cs),some (V.func (Fn.func 72) [] [.ptr 1 0]),some (.int i64 0),some (.int i64 (↑n:Int)),some (.int i64 0)] [.row [.int
 u8 mo,.lst x n cs,.int i64 ag] 56 3,.row [.str h] 9 1]∧bif iS {x:=x,n:=n,cs:=cs,h:=h,i:=0}then bif anyM cs h then ∀(i:
 Nat),R (.bool true)else R (.bool false)else False):=by kernel_rfl
def polM(l:List (List UInt8))(h:List UInt8):Bool:=l.any fun s=>cL s h
def polT:List V→Option (List (Bool×(V×St)))
 |[.agg [.int .u8 _,.lst _ n cs,.int .i64 _],.str h]=>some [(okS n cs,(.bool (polM (cs.map bI) h),[]))]
 |_=>none
theorem polT_ok(args:List V)(L:List (Bool×(V×St)))(o:V×St)(h:polT args=some L)(ho:a9 L=some o):FnSat Tryz.prog 36 args [] (Is o):=by
 unfold polT at h;split at h
 ·rename_i mo x n cs ag h;cases h;obtain⟨hk,rfl⟩:=ff ho;refine ci (lim:=9) (n:=10) bQ PX1_ok rfl rfl ?_;rw[pm_tree];have ha:anyM cs h=polM (cs.map bI) h:=rfl;rw[ha];refine⟨iu _ rfl _ _ _ _ h,bf (by unfold iS;rw[hk];exact Nat.ble_eq_true_of_le (Nat.zero_le _)) ?_⟩;cases polM (cs.map bI) h with
  |false=>rfl
  |true=>intro _;rfl
 ·cases h
end Go.Proofs.YtebkeppoicllmaaGreatDoor
