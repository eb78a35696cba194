/- PolicyHosts: what it comes to. -/
import Derived.Test.YtebkeppoicllmaaGreatDoorLong17
import Derived.Test.YtebkeppoicllmaaGreatDoorAggOne
import Derived.Test.YtebkeppoicllmaaGreatDoorAwake17
import Derived.Test.YtebkeppoicllmaaGreatDoorLoopD
namespace Go.Proofs.YtebkeppoicllmaaGreatDoor
open Go.IntKind (u8 u16 u32 u64 i8 i16 i32 i64)
open Go Go.Vm Go.RowKit
set_option linter.unusedVariables false
set_option maxRecDepth 100000
set_option linter.unusedSectionVars false
variable [Φ:Frz]
theorem pol_sat(mo:Int)(x:Value)(l:List (List UInt8))(ag:Int)(h:List UInt8)(h1:l.length≤9223372036854775807):FnSat Tryz.prog 36 [.agg [.int .u8 mo,lstS x l,.int .i64 ag],.str h] [] (Is (.bool (polM l h),[])):=
 polT_ok [.agg [.int .u8 mo,lstS x l,.int .i64 ag],.str h] _ (.bool (polM l h),[]) (by unfold lstS polT;rfl) (by rw[okS_mk h1,bx];rfl)
def plOK(p:V)(st:St):Bool:=match dQ st p with
 |some (b,l)=>b&&Nat.ble l.length 9223372036854775807
 |none=>false
def plV(p:V)(h:List UInt8)(st:St):Bool:=match dQ st p with
 |some (_,l)=>polM l h
 |none=>false
def polGV(OK:V→St→Bool)(PV:V→List UInt8→St→Bool):List V→St→Option (List (Bool×(V×St)))
 |[.agg [.int .u8 _,p,.int .i64 _],.str h],st=>some [(OK p st,(.bool (PV p h st),st))]
 |_,_=>none
theorem polGV_ok(args:List V)(s:St)(L:List (Bool×(V×St)))(o:V×St)(h:polGV plOK plV args s=some L)(ho:a9 L=some o):FnSat Tryz.prog 36 args s (Is o):=by
 unfold polGV at h;split at h
 ·rename_i mo p ag hh;cases h;obtain⟨hb,rfl⟩:=ff ho;unfold plOK at hb;split at hb
  ·rename_i b l hv;have hL:plV p hh s=polM l hh:=by unfold plV;rw[hv]
   rw[hL];rw[Bool.and_eq_true]at hb;obtain⟨rfl,h1⟩:=hb;refine frz_sat rfl fun B W0 w m rargs hr ha=>?_;obtain⟨x1,r1,q1,q2,rfl⟩:=ah ha;obtain⟨y1,g1⟩:=agg_one (Ψ:=Frz.of w) (m':=[]) (f:=fun y=>lstS y l) (fun y hy=>viewS_ok hr hv hy) [.int .u8 mo] rfl (b:=[.int .i64 ag]) rfl q1;have q3:=bH (Ψ:=Frz.of w) (m':=[]) _ _ rfl q2;exact⟨[.agg [.int .u8 mo,lstS y1 l,.int .i64 ag],.str hh],@ao _ (Frz.of w) [] _ _ _ _ g1 q3,@pol_sat (Frz.of w) mo y1 l ag hh (Nat.le_of_ble_eq_true h1)⟩
  ·cases hb
 ·cases h
noncomputable def PHT(LOK LB:V→St→Bool)(OK:V→St→Bool)(PV:V→List UInt8→St→Bool):Tab:=⟨addP noT 34 ly,addS (addS noL 33 (loGV LOK LB)) 36 (polGV OK PV),c8 9⟩
theorem PHT_ok:TabOk3 Tryz.prog (PHT loOK loB plOK plV):=⟨b9 cp ks,iD (iD cr loG_ok) polGV_ok,be 9⟩
theorem ph_round(LOK LB:V→St→Bool)(OK:V→St→Bool)(PV:V→List UInt8→St→Bool)(mo ag:Int)(n:Nat)(cs:List V)(h:List UInt8)(a b an:Bool)(i:Int)(R:Exit→List (Option V)→St→Prop):cb Tryz.prog (PHT LOK LB OK PV) 9 10 (aN 9) 7 1018 [2,6,7,8,9,10,11] [.str h,.bool false,.ptr 0 0,.bool a,.bool b,.bool an,.int .i64 i] [.row [.int .u8 mo,.slice 1 0 n false 0 0,.int .i64 ag] 56 3,.row cs 9 1] R=
  (
 bif decide (i<(↑n:Int))then bif an then R .normal [some (.str h),some (.bool false),some (.ptr 0 0),some (.bool a),some (.bool b),some (.bool true),
 some (.int i64 (i64.wrap (i+1)))] [.row [.int u8 mo,.slice 1 0 n false 0 0,.int i64 ag] 56 3,.row cs 9 1]else bif decide
 (0≤i)then bif decide (0≤i64.wrap (i+1))then bif i.toNat.ble (i64.wrap (i+1)).toNat&&(i64.wrap (i+1)).toNat.ble n then bif OK
 (.slice 1 (0+i.toNat*1) ((i64.wrap (i+1)).toNat-i.toNat) false (if false=true then 0-i.toNat else 0+i.toNat) (if i.toNat=0 then 0 else 0))
 [.row [.int u8 mo,.slice 1 0 n false 0 0,.int i64 ag] 56 3,.row cs 9 1]then R .normal [some (.str h),some (.bool false),some (.ptr 0
 0),some (.bool a),some (.bool b),some (.bool (PV (.slice 1 (0+i.toNat*1) ((i64.wrap (i+1)).toNat-i.toNat) false (if false=true then 0-i.toNat
 else 0+i.toNat) (if i.toNat=0 then 0 else 0)) h [.row [.int u8 mo,.slice 1 0 n false 0 0,.int i64 ag] 56 3,.row cs 9 1])),some (.int
 i64 (i64.wrap (i+1)))] [.row [.int u8 mo,.slice 1 0 n false 0 0,.int i64 ag] 56 3,.row cs 9 1]else False else False else
 False else False else R (.exit 0) [some (.str h),some (.bool false),some (.ptr 0 0),some (.bool a),some (.bool b),some (.bool an),some (.int i64
 i)] [.row [.int u8 mo,.slice 1 0 n false 0 0,.int i64 ag] 56 3,.row cs 9 1]):=by kernel_rfl
structure PH where
 mo:Int
 ag:Int
 n:Nat
 cs:List V
 h:List UInt8
 a:Bool
 b:Bool
 an:Bool
 i:Nat
def phV(y:PH):List V:=[.str y.h,.bool false,.ptr 0 0,.bool y.a,.bool y.b,.bool y.an,.int .i64 y.i]
def phJ(y:PH):St:=[.row [.int .u8 y.mo,.slice 1 0 y.n false 0 0,.int .i64 y.ag] 56 3,.row y.cs 9 1]
def eI(y:PH):Bool:=okS y.n y.cs&&Nat.ble y.i y.n
def phMu(y:PH):Nat:=y.n-y.i
def phDec:List (Option V)→St→Option PH
 |[some (.str h),some (.bool false),some (.ptr c 0),some (.bool a),some (.bool b),some (.bool an),some (.int .i64 0)],st=>match st[c]? with
  |some (.row [.int .u8 mo,.slice d 0 n false 0 0,.int .i64 ag] _ _)=>match st[d]? with
   |some (.row cs _ _)=>some ⟨mo,ag,n,cs,h,a,b,an,0⟩
   |_=>none
  |_=>none
 |_,_=>none
def kU(mo ag:Int)(n:Nat)(cs:List V)(h:List UInt8)(a b an:Bool)(K:Exit→List V→St→Prop):Prop:=
 ∀i:Int,K (.exit 0) [.str h,.bool false,.ptr 0 0,.bool a,.bool b,.bool an,.int .i64 i] [.row [.int .u8 mo,.slice 1 0 n false 0 0,.int .i64 ag] 56 3,.row cs 9 1]
def phA(cs:List V)(i:Nat)(h:List UInt8):Bool:=polM ((cs.map bI).drop i) h
def phOut:Asks PH:=fun y K=>kU y.mo y.ag y.n y.cs y.h y.a y.b (y.an||phA y.cs y.i y.h) K
theorem ph_fits(mo ag:Int)(n:Nat){cs:List V}(hf:av cs=true)(h:List UInt8)(a b an:Bool)(i:Int):Fits 0 [.str h,.bool false,.ptr 0 0,.bool a,.bool b,.bool an,.int .i64 i] [.row [.int .u8 mo,.slice 1 0 n false 0 0,.int .i64 ag] 56 3,.row cs 9 1] [some (.str h),some (.bool false),some (.ptr 0 0),some (.bool a),some (.bool b),some (.bool an),some (.int .i64 i)] [.row [.int .u8 mo,.slice 1 0 n false 0 0,.int .i64 ag] 56 3,.row cs 9 1]:=
 ⟨[0,1],[.str h,.bool false,.ptr 0 0,.bool a,.bool b,.bool an,.int .i64 i],rfl,rfl,FitsM.of ⟨.inr ⟨_,.inl rfl,rfl⟩,fb hf rfl,trivial⟩,by simp,fun i hi=>by omega⟩
theorem iI:∀(l:List (List UInt8)) (i:Nat),(strs l).drop i=strs (l.drop i)
 |l,0=>rfl
 |[],i+1=>rfl
 |_::r,i+1=>iI r i
theorem pol_at{l:List (List UInt8)}{i:Nat}{c:List UInt8}{r:List (List UInt8)}(hd:l.drop i=c::r)(b0:Blk)(t:TypeId)(h:List UInt8)(z w:Nat)(e:Bool):plOK (.slice 1 i 1 e z w) [b0,.row (strs l) t 1]=true∧plV (.slice 1 i 1 e z w) h [b0,.row (strs l) t 1]=cL c h:=by
 obtain⟨e1,e2,e3⟩:=dA hd;have h1:((strs l).drop i).take 1=strs [c]:=by rw[iI,hd];rfl
 have hv:dQ [b0,.row (strs l) t 1] (.slice 1 i 1 e z w)=some (true,[c]):=by
  simp only[dQ,gc,List.getElem?_cons_succ,List.getElem?_cons_zero,Nat.mul_one,h1,dq,d6,bx];rw[Nat.ble_eq_true_of_le (show i+1≤l.length by omega)];rfl
 unfold plOK plV;rw[hv];refine⟨rfl,?_⟩;show polM [c] h=_;unfold polM;simp
theorem ph_roundOk(y:PH)(hy:eI y=true):cb Tryz.prog (PHT loOK loB plOK plV) 9 10 (aN 9) 7 1018 [2,6,7,8,9,10,11] (phV y) (phJ y) (bX 0 eI phV phJ phMu phOut y):=by
 obtain⟨mo,ag,n,cs,h,a,b,an,i⟩:=y;unfold eI at hy;rw[Bool.and_eq_true]at hy;have p1:i≤n:=Nat.le_of_ble_eq_true hy.2;have hx1:okS n cs=true:=hy.1;obtain⟨l,rfl,rfl,p2,p3⟩:=iV hx1;show cb Tryz.prog (PHT loOK loB plOK plV) 9 10 (aN 9) 7 1018 [2,6,7,8,9,10,11] [.str h,.bool false,.ptr 0 0,.bool a,.bool b,.bool an,.int .i64 i] [.row [.int .u8 mo,.slice 1 0 l.length false 0 0,.int .i64 ag] 56 3,.row (strs l) 9 1] _;rw[ph_round];have out:∀K,phOut ⟨mo,ag,l.length,strs l,h,a,b,an,i⟩ K→kU mo ag l.length (strs l) h a b (an||polM (l.drop i) h) K:=fun K hK=>by
  have hK:kU mo ag l.length (strs l) h a b (an||phA (strs l) i h) K:=hK;unfold phA at hK;rw[bx]at hK;exact hK
 have w2:i<l.length→i64.wrap ((i:Int)+1)=((i+1:Nat):Int):=fun h=>by rw[IntWalk.i64_in _ ⟨by omega,by omega⟩];omega
 cases hd:l.drop i with
 |nil=>
  rw[decide_eq_false (show ¬((i:Int)<(l.length:Int)) by have:=hH hd p1;omega),cond_false];refine⟨_,_,fun K hK=>?_,ph_fits mo ag l.length (gH l) h a b an i⟩;have hK:=out K hK;rw[hd,show polM [] h=false from rfl,Bool.or_false]at hK;exact hK i
 |cons c r=>
  obtain⟨e1,e2,e3⟩:=dA hd;have next:∀an',(an'=(an||cL c h))→bX 0 eI phV phJ phMu phOut ⟨mo,ag,l.length,strs l,h,a,b,an,i⟩ .normal [some (.str h),some (.bool false),some (.ptr 0 0),some (.bool a),some (.bool b),some (.bool an'),some (.int .i64 ((i+1:Nat):Int))] [.row [.int .u8 mo,.slice 1 0 l.length false 0 0,.int .i64 ag] 56 3,.row (strs l) 9 1]:=fun an' ha=>by
   refine⟨⟨mo,ag,l.length,strs l,h,a,b,an',i+1⟩,?_,ph_fits mo ag l.length (gH l) h a b an' _,by simp only[phMu];omega,fun K hK=>?_⟩
   ·unfold eI;rw[Bool.and_eq_true];exact⟨hx1,Nat.ble_eq_true_of_le (show i+1≤l.length by omega)⟩
   ·have hK:=out K hK;rw[hd,show polM (c::r) h=(cL c h||polM r h)from rfl,←Bool.or_assoc,←ha]at hK;show kU mo ag l.length (strs l) h a b (an'||phA (strs l) (i+1) h) K;unfold phA;rw[bx,e2];exact hK
  rw[decide_eq_true (show(i:Int)<(l.length:Int) by omega),cond_true,w2 e3];refine az (fun h1=>next true (by rw[h1];rfl)) (fun h1=>?_);have q:=pol_at hd (.row [.int .u8 mo,.slice 1 0 l.length false 0 0,.int .i64 ag] 56 3) 9 h;rw[decide_eq_true (show(0:Int)≤(i:Int) by omega),cond_true,decide_eq_true (show(0:Int)≤((i+1:Nat):Int) by omega),cond_true,Int.toNat_natCast,Int.toNat_natCast,Nat.ble_eq_true_of_le (show i≤i+1 by omega),Nat.ble_eq_true_of_le (show i+1≤l.length by omega),Bool.and_self,cond_true];rw[show 0+i*1=i by omega,show i+1-i=1 by omega,(q _ _ _).1,cond_true,(q _ _ _).2];exact next _ (by rw[h1];rfl)
def phIs(f:Fr)(st:St):Bool:=match f.T.get 7 with
 |some (.ptr c 0)=>match st[c]? with
  |some (.row [_,.slice _ _ _ false _ _,_] _ _)=>true
  |_=>false
 |_=>false
noncomputable def lkPH:Nat→Trans→Trans:=eZ 1018 phIs (i5 0 (szOf Tryz.prog 7) [2,6,7,8,9,10,11] phDec eI phV phJ phOut) (aN 9)
theorem lkPH_ok:aX Tryz.prog 0 lkPH 7:=by
 unfold lkPH;exact fnLoopDW (dk 9 0 7) (by kernel_rfl) fun f st Q h=>eL (P:=Tryz.prog) (T:=PHT loOK loB plOK plV) (k:=0) (lim:=9) (n:=10) (g:=7) (p0:=1018) (lk:=aN 9) bQ PHT_ok (bY 9 _ _) phMu ph_roundOk h
noncomputable def PHU(LOK LB:V→St→Bool)(OK:V→St→Bool)(PV:V→List UInt8→St→Bool):Tab:=⟨addP noT 34 ly,addS (addS noL 33 (loGV LOK LB)) 36 (polGV OK PV),ju (c8 9) 7 0 lkPH⟩
theorem PHU_ok:TabOk3 Tryz.prog (PHU loOK loB plOK plV):=⟨b9 cp ks,iD (iD cr loG_ok) polGV_ok,eY (be 9) lkPH_ok⟩
theorem ph_law(LOK LB:V→St→Bool)(OK:V→St→Bool)(PV:V→List UInt8→St→Bool)(mo:Int)(x:Value)(n:Nat)(cs:List V)(ag:Int)(y:Value)(m:Nat)(ds:List V)(h:List UInt8)(R:V→Prop):runW Tryz.prog (PHU LOK LB OK PV) 9 10 7 [.agg [.int .u8 mo,.lst x n cs,.int .i64 ag],.lst y m ds,.str h] R=
  (
 bif LOK (.lst x n cs) []then bif LB (.lst x n cs) []then R (.bool true)else bif LOK (.lst y m ds) []then bif LB (.lst y m ds) []then R (.bool true)else bif
 decide ((↑h.length:Int)>3000)then R (.bool true)else bif n.beq 0 then bif m.beq 0 then bif OK (.lst x n cs) []then bif OK (.slice 2 0 0 false 0 0) [.ro false
 [.int u8 mo,.lst x n cs,.int i64 ag],.ro false [.int u8 mo,.slice 2 0 0 false 0 0,.int i64 ag],.ro false []]then Fits 0
 [.str h,.bool false,.ptr 0 0,.bool (PV (.lst x n cs) h []),.bool (PV (.slice 2 0 0 false 0 0) h [.ro false [.int u8 mo,.lst x n cs,.int
 i64 ag],.ro false [.int u8 mo,.slice 2 0 0 false 0 0,.int i64 ag],.ro false []]),.bool false,.int i64 0] [.row [.int
 u8 mo,.slice 1 0 0 false 0 0,.int i64 ag] 56 3,.row [] 9 1] [some (.str h),some (.bool false),some (.ptr 1 0),some (.bool (PV (.lst x n
 cs) h [])),some (.bool (PV (.slice 2 0 0 false 0 0) h [.ro false [.int u8 mo,.lst x n cs,.int i64 ag],.ro false [.int u8 mo,
 .slice 2 0 0 false 0 0,.int i64 ag],.ro false []])),some (.bool false),some (.int i64 0)] [.row [.int u8 mo,.lst x n cs,.int
 i64 ag] 56 3,.row [.int u8 mo,.slice 2 0 0 false 0 0,.int i64 ag] 56 3,.row [] 9 1]∧∀(i:Int),bif !PV (.lst x n cs) h []then R
 (.bool (PV (.slice 2 0 0 false 0 0) h [.ro false [.int u8 mo,.lst x n cs,.int i64 ag],.ro false [.int u8 mo,.slice 2 0 0 false 0
 0,.int i64 ag],.ro false []]==false))else bif PV (.slice 2 0 0 false 0 0) h [.ro false [.int u8 mo,.lst x n cs,.int i64 ag],
 .ro false [.int u8 mo,.slice 2 0 0 false 0 0,.int i64 ag],.ro false []]then R (.bool (PV (.slice 2 0 0 false 0 0) h [.ro false [.int
 u8 mo,.lst x n cs,.int i64 ag],.ro false [.int u8 mo,.slice 2 0 0 false 0 0,.int i64 ag],.ro false []]==false))else R
 (.bool false)else False else False else bif ds.length.beq (m*1)&&ds.all V.one then bif (0+m).ble 9223372036854775807&&((0+m)*16).ble 140737488355328 then
 bif OK (.lst x n cs) []then bif OK (.slice 3 0 (0+m) false 0 0) [.ro false [.int u8 mo,.lst x n cs,.int i64 ag],.ro false [.int
 u8 mo,.slice 3 0 (0+m) false 0 0,.int i64 ag],.dead,.ro false ds]then Fits 0 [.str h,.bool false,.ptr 0 0,.bool (PV (.lst x n cs) h
 []),.bool (PV (.slice 3 0 (0+m) false 0 0) h [.ro false [.int u8 mo,.lst x n cs,.int i64 ag],.ro false [.int u8 mo,.slice 3 0
 (0+m) false 0 0,.int i64 ag],.dead,.ro false ds]),.bool false,.int i64 0] [.row [.int u8 mo,.slice 1 0 (0+m) false 0 0,
 .int i64 ag] 56 3,.row ds 9 1] [some (.str h),some (.bool false),some (.ptr 1 0),some (.bool (PV (.lst x n cs) h [])),some (.bool (PV (.slice 3 0
 (0+m) false 0 0) h [.ro false [.int u8 mo,.lst x n cs,.int i64 ag],.ro false [.int u8 mo,.slice 3 0 (0+m) false 0 0,.int
 i64 ag],.dead,.ro false ds])),some (.bool false),some (.int i64 0)] [.row [.int u8 mo,.lst x n cs,.int i64 ag] 56 3,
 .row [.int u8 mo,.slice 3 0 (0+m) false 0 0,.int i64 ag] 56 3,.dead,.row ds 9 1]∧bif eI {mo:=mo,ag:=ag,n:=0+m,cs:=ds,h:=h,a:=PV (.lst x n cs) h [],b:=PV (.slice 3 0 (0+m) false 0 0) h [.ro false [.int u8 mo,.lst x n cs,.int i64 ag],.ro false [.int u8 mo,.slice 3 0 (0+m) false 0 0,.int i64 ag],.dead,.ro false ds],an:=false,i:=0}
 then ∀(i:Int),bif !PV (.lst x n cs) h []then R (.bool (PV (.slice 3 0 (0+m) false 0 0) h [.ro false [.int u8 mo,.lst x n cs,.int i64
 ag],.ro false [.int u8 mo,.slice 3 0 (0+m) false 0 0,.int i64 ag],.dead,.ro false ds]==(false||phA ds 0 h)))else bif PV (.slice 3
 0 (0+m) false 0 0) h [.ro false [.int u8 mo,.lst x n cs,.int i64 ag],.ro false [.int u8 mo,.slice 3 0 (0+m) false 0 0,.int
 i64 ag],.dead,.ro false ds]then R (.bool (PV (.slice 3 0 (0+m) false 0 0) h [.ro false [.int u8 mo,.lst x n cs,.int i64 ag],
 .ro false [.int u8 mo,.slice 3 0 (0+m) false 0 0,.int i64 ag],.dead,.ro false ds]==(false||phA ds 0 h)))else R (.bool false)else
 False else False else False else False else False else bif cs.length.beq (n*1)&&cs.all V.one then bif (0+n).ble 9223372036854775807&&((0+n)*16).ble
 140737488355328 then bif m.beq 0 then bif OK (.lst x n cs) []then bif OK (.slice 3 0 (0+n) false 0 0) [.ro false [.int u8 mo,.lst x n cs,.int
 i64 ag],.ro false [.int u8 mo,.slice 3 0 (0+n) false 0 0,.int i64 ag],.dead,.ro false cs]then Fits 0 [.str h,.bool false,
 .ptr 0 0,.bool (PV (.lst x n cs) h []),.bool (PV (.slice 3 0 (0+n) false 0 0) h [.ro false [.int u8 mo,.lst x n cs,.int i64 ag],.ro
 false [.int u8 mo,.slice 3 0 (0+n) false 0 0,.int i64 ag],.dead,.ro false cs]),.bool false,.int i64 0] [.row [.int
 u8 mo,.slice 1 0 (0+n) false 0 0,.int i64 ag] 56 3,.row cs 9 1] [some (.str h),some (.bool false),some (.ptr 1 0),some (.bool (PV (.lst
 x n cs) h [])),some (.bool (PV (.slice 3 0 (0+n) false 0 0) h [.ro false [.int u8 mo,.lst x n cs,.int i64 ag],.ro false [.int u8
 mo,.slice 3 0 (0+n) false 0 0,.int i64 ag],.dead,.ro false cs])),some (.bool false),some (.int i64 0)] [.row [.int u8 mo,
 .lst x n cs,.int i64 ag] 56 3,.row [.int u8 mo,.slice 3 0 (0+n) false 0 0,.int i64 ag] 56 3,.dead,.row cs 9 1]∧bif eI {mo:=mo,ag:=ag,n:=0+n,cs:=cs,h:=h,a:=PV (.lst x n cs) h [],b:=PV (.slice 3 0 (0+n) false 0 0) h [.ro false [.int u8 mo,.lst x n cs,.int i64 ag],.ro false [.int u8 mo,.slice 3 0 (0+n) false 0 0,.int i64 ag],.dead,.ro false cs],an:=false,i:=0}
 then ∀(i:Int),bif !PV (.lst x n cs) h []then R (.bool (PV (.slice 3 0 (0+n) false 0 0) h [.ro false [.int u8 mo,.lst x n cs,.int i64
 ag],.ro false [.int u8 mo,.slice 3 0 (0+n) false 0 0,.int i64 ag],.dead,.ro false cs]==(false||phA cs 0 h)))else bif PV (.slice 3
 0 (0+n) false 0 0) h [.ro false [.int u8 mo,.lst x n cs,.int i64 ag],.ro false [.int u8 mo,.slice 3 0 (0+n) false 0 0,.int
 i64 ag],.dead,.ro false cs]then R (.bool (PV (.slice 3 0 (0+n) false 0 0) h [.ro false [.int u8 mo,.lst x n cs,.int i64 ag],
 .ro false [.int u8 mo,.slice 3 0 (0+n) false 0 0,.int i64 ag],.dead,.ro false cs]==(false||phA cs 0 h)))else R (.bool false)else
 False else False else False else bif ds.length.beq (m*1)&&ds.all V.one then bif cs.length.beq ((0+n)*1)then bif (0+n+m).ble 9223372036854775807&&((0+n+
 m)*16).ble 140737488355328 then bif OK (.lst x n cs) []then bif OK (.slice 4 0 (0+n+m) false 0 0) [.ro false [.int u8 mo,.lst x n cs,.int
 i64 ag],.ro false [.int u8 mo,.slice 4 0 (0+n+m) false 0 0,.int i64 ag],.dead,.dead,.ro false (cs++ds)]then Fits 0
 [.str h,.bool false,.ptr 0 0,.bool (PV (.lst x n cs) h []),.bool (PV (.slice 4 0 (0+n+m) false 0 0) h [.ro false [.int u8 mo,.lst x n cs,
 .int i64 ag],.ro false [.int u8 mo,.slice 4 0 (0+n+m) false 0 0,.int i64 ag],.dead,.dead,.ro false (cs++ds)]),.bool
 false,.int i64 0] [.row [.int u8 mo,.slice 1 0 (0+n+m) false 0 0,.int i64 ag] 56 3,.row (cs++ds) 9 1] [some (.str h),some
 (.bool false),some (.ptr 1 0),some (.bool (PV (.lst x n cs) h [])),some (.bool (PV (.slice 4 0 (0+n+m) false 0 0) h [.ro false [.int u8 mo,.lst
 x n cs,.int i64 ag],.ro false [.int u8 mo,.slice 4 0 (0+n+m) false 0 0,.int i64 ag],.dead,.dead,.ro false (cs++
 ds)])),some (.bool false),some (.int i64 0)] [.row [.int u8 mo,.lst x n cs,.int i64 ag] 56 3,.row [.int u8 mo,.slice 4
 0 (0+n+m) false 0 0,.int i64 ag] 56 3,.dead,.dead,.row (cs++ds) 9 1]∧bif eI {mo:=mo,ag:=ag,n:=0+n+m,cs:=cs++ds,h:=h,a:=PV (.lst x n cs) h [],b:=PV (.slice 4 0 (0+n+m) false 0 0) h [.ro false [.int u8 mo,.lst x n cs,.int i64 ag],.ro false [.int u8 mo,.slice 4 0 (0+n+m) false 0 0,.int i64 ag],.dead,.dead,.ro false (cs++ds)],an:=false,i:=0}
 then ∀(i:Int),bif !PV (.lst x n cs) h []then R (.bool (PV (.slice 4 0 (0+n+m) false 0 0) h [.ro false [.int u8 mo,.lst x n cs,.int i64
 ag],.ro false [.int u8 mo,.slice 4 0 (0+n+m) false 0 0,.int i64 ag],.dead,.dead,.ro false (cs++ds)]==(false||phA (cs++ds)
 0 h)))else bif PV (.slice 4 0 (0+n+m) false 0 0) h [.ro false [.int u8 mo,.lst x n cs,.int i64 ag],.ro false [.int u8 mo,
 .slice 4 0 (0+n+m) false 0 0,.int i64 ag],.dead,.dead,.ro false (cs++ds)]then R (.bool (PV (.slice 4 0 (0+n+m) false 0 0) h [.ro
 false [.int u8 mo,.lst x n cs,.int i64 ag],.ro false [.int u8 mo,.slice 4 0 (0+n+m) false 0 0,.int i64 ag],.dead,
 .dead,.ro false (cs++ds)]==(false||phA (cs++ds) 0 h)))else R (.bool false)else False else False else False else False else False else False else False
 else False else False else False):=by kernel_rfl
theorem ph_in(mo ag:Int)(n:Nat){cs:List V}(hf:av cs=true)(h:List UInt8)(a b an:Bool)(i:Int){c d:Nat}{st:St}(hcd:c≠d)(h1:st[c]?=some (.row [.int .u8 mo,.slice d 0 n false 0 0,.int .i64 ag] 56 3))(h2:st[d]?=some (.row cs 9 1)):Fits 0 [.str h,.bool false,.ptr 0 0,.bool a,.bool b,.bool an,.int .i64 i] [.row [.int .u8 mo,.slice 1 0 n false 0 0,.int .i64 ag] 56 3,.row cs 9 1] [some (.str h),some (.bool false),some (.ptr c 0),some (.bool a),some (.bool b),some (.bool an),some (.int .i64 i)] st:=
 ⟨[c,d],[.str h,.bool false,.ptr c 0,.bool a,.bool b,.bool an,.int .i64 i],rfl,rfl,FitsM.of ⟨.inr ⟨_,.inl rfl,h1⟩,fb hf h2,trivial⟩,by simp[hcd],fun i hi=>by omega⟩
theorem pl_at{st:St}{k:Nat}{q:List (List UInt8)}(hk:st[k]?=some (.ro false (strs q)))(hq:q.length≤9223372036854775807):plOK (.slice k 0 q.length false 0 0) st=true∧∀h,plV (.slice k 0 q.length false 0 0) h st=polM q h:=by
 have hv:dQ st (.slice k 0 q.length false 0 0)=some (true,q):=by
  have h2:Nat.ble (0+q.length*1) q.length=true:=Nat.ble_eq_true_of_le (by omega);have h1:((strs q).drop 0).take (q.length*1)=strs q:=by rw[List.drop_zero,List.take_of_length_le (by rw[dq];omega)]
  simp only[dQ,gc,hk,h1,h2,dq,Nat.beq_refl,d6,bx,Bool.and_self]
 unfold plOK plV;rw[hv];exact⟨Nat.ble_eq_true_of_le hq,fun _=>rfl⟩
theorem loN_ge:∀(l:List (List UInt8)) (n:Nat),n+5*l.length≤loN n l∨6000≤loN n l
 |[],n=>.inl (by simp[loN])
 |s::r,n=>by
  rw[loN];split
  ·rcases loN_ge r (n+5+min 6000 s.length)with h|h
   ·exact .inl (by rw[List.length_cons];omega)
   ·exact .inr h
  ·exact .inr (by omega)
theorem short_of{l:List (List UInt8)}(h:longS l=false):l.length≤1200:=by
 have h:=of_decide_eq_false h;rcases loN_ge l 0 with h1|h1<;>omega
theorem ph_tail(l e:List (List UInt8))(h:List UInt8):bif !polM l h then V.bool (polM (l++e) h==(false||phA (strs (l++e)) 0 h))=V.bool true else bif polM (l++e) h then V.bool (polM (l++e) h==(false||phA (strs (l++e)) 0 h))=V.bool true else V.bool false=V.bool true:=by
 have h1:phA (strs (l++e)) 0 h=polM (l++e) h:=by unfold phA;rw[bx,List.drop_zero]
 have h2:polM (l++e) h=(polM l h||polM e h):=by unfold polM;rw[List.any_append]
 rw[h1,h2];cases polM l h<;>cases polM e h<;>rfl
theorem strs_one:∀l:List (List UInt8),(strs l).all V.one=true
 |[]=>rfl
 |_::r=>by
  have:=strs_one r;show(true&&(strs r).all V.one)=true;rw[this];rfl
theorem kT{mo ag:Int}{h:List UInt8}{l e q:List (List UInt8)}(hq:q=l++e){cs:List V}(hcs:cs=strs q){N:Nat}(hN:N=q.length)(hs:q.length≤2400){M st:St}{k c d:Nat}(hM:M[k]?=some (.ro false cs))(hcd:c≠d)(hc:st[c]?=some (.row [.int .u8 mo,.slice d 0 N false 0 0,.int .i64 ag] 56 3))(hd:st[d]?=some (.row cs 9 1)){a:Bool}:
  bif plOK (.slice k 0 N false 0 0) M then Fits 0 [.str h,.bool false,.ptr 0 0,.bool a,.bool (plV (.slice k 0 N false 0 0) h M),.bool false,.int .i64 0] [.row [.int .u8 mo,.slice 1 0 N false 0 0,.int .i64 ag] 56 3,.row cs 9 1] [some (.str h),some (.bool false),some (.ptr c 0),some (.bool a),some (.bool (plV (.slice k 0 N false 0 0) h M)),some (.bool false),some (.int .i64 0)] st∧
   bif eI ⟨mo,ag,N,cs,h,a,plV (.slice k 0 N false 0 0) h M,false,0⟩then ∀i:Int,bif !polM l h then V.bool (plV (.slice k 0 N false 0 0) h M==(false||phA cs 0 h))=V.bool true else bif plV (.slice k 0 N false 0 0) h M then V.bool (plV (.slice k 0 N false 0 0) h M==(false||phA cs 0 h))=V.bool true else V.bool false=V.bool true else False else False:=by
 subst hcs hN;obtain⟨k1,k2⟩:=pl_at hM (by omega);rw[k1,cond_true,k2 h];refine⟨ph_in mo ag _ (gH q) h a _ false 0 hcd hc hd,bf ?_ fun i=>?_⟩
 ·unfold eI;show(okS q.length (strs q)&&Nat.ble 0 q.length)=true;rw[okS_mk (by omega)];rfl
 ·subst hq;exact ph_tail l e h
theorem strs_app:∀l e:List (List UInt8),strs l++strs e=strs (l++e)
 |[],_=>rfl
 |_::r,e=>congrArg _ (strs_app r e)
theorem ph_close(mo:Int)(x:Value)(l:List (List UInt8))(ag:Int)(y:Value)(e:List (List UInt8))(h:List UInt8)(h1:l.length≤9223372036854775807)(h2:e.length≤9223372036854775807):
  FnSat Tryz.prog 7 [.agg [.int .u8 mo,lstS x l,.int .i64 ag],lstS y e,.str h] [] (fun v _=>v=.bool true):=by
 refine runW_ok (lim:=9) (n:=10) bQ PHU_ok ?_;unfold lstS;refine cast (ph_law loOK loB plOK plV mo x l.length (strs l) ag y e.length (strs e) h (fun v=>v=.bool true)).symm ?_;have vS:∀(st:St) (x:Value) (l:List (List UInt8)),dQ st (.lst x l.length (strs l))=some (true,l):=fun st x l=>by
  simp only[dQ,gc,dq,Nat.mul_one,Nat.beq_refl,d6,bx,Bool.and_self]
 have g1:∀(x:Value) (l:List (List UInt8)),l.length≤9223372036854775807→loOK (.lst x l.length (strs l)) []=true∧loB (.lst x l.length (strs l)) []=longS l:=fun x l hl=>by
  unfold loOK loB;rw[vS];exact⟨Nat.ble_eq_true_of_le hl,rfl⟩
 have g2:plOK (.lst x l.length (strs l)) []=true:=by unfold plOK;rw[vS];exact Nat.ble_eq_true_of_le h1
 have g3:plV (.lst x l.length (strs l)) h []=polM l h:=by unfold plV;rw[vS]
 rw[(g1 x l h1).1,(g1 x l h1).2,(g1 y e h2).1,(g1 y e h2).2,cond_true,cond_true];refine az (fun _=>rfl) (fun hl=>?_);refine az (fun _=>rfl) (fun he=>?_);have s1:=short_of hl;have s2:=short_of he;refine az (fun _=>rfl) (fun _=>?_);simp only[g2,g3,cond_true,dq,strs_one,Nat.mul_one,Nat.zero_add,Nat.beq_refl,Bool.and_self];have b1:∀n:Nat,n≤2400→(n.ble 9223372036854775807&&(n*16).ble 140737488355328)=true:=fun n hn=>by
  rw[Nat.ble_eq_true_of_le (show n≤9223372036854775807 by omega),Nat.ble_eq_true_of_le (show n*16≤140737488355328 by omega)];rfl
 rw[b1 l.length (by omega),b1 e.length (by omega),b1 (l.length+e.length) (by omega)];simp only[cond_true];refine az (fun n0=>?_) (fun n0=>?_)
 ·have l0:l=[]:=List.eq_nil_of_length_eq_zero (Nat.eq_of_beq_eq_true n0);subst l0;refine az (fun m0=>?_) (fun m0=>?_)
  ·have e0:e=[]:=List.eq_nil_of_length_eq_zero (Nat.eq_of_beq_eq_true m0);subst e0;refine bf (pl_at (q:=[]) rfl (by simp)).1 ⟨ph_in mo ag 0 (cs:=[]) rfl h _ _ false 0 (by decide) rfl rfl,fun i=>?_⟩;rfl
  ·exact kT (l:=[]) (e:=e) rfl rfl rfl (show e.length≤2400 by omega) rfl (by decide) rfl rfl
 ·refine az (fun m0=>?_) (fun m0=>?_)
  ·have e0:e=[]:=List.eq_nil_of_length_eq_zero (Nat.eq_of_beq_eq_true m0);subst e0;exact kT (l:=l) (e:=[]) (List.append_nil l).symm rfl rfl (by omega) rfl (by decide) rfl rfl
  ·exact kT (l:=l) (e:=e) rfl (strs_app l e) (List.length_append).symm (by rw[List.length_append];omega) rfl (by decide) rfl rfl
end Go.Proofs.YtebkeppoicllmaaGreatDoor
