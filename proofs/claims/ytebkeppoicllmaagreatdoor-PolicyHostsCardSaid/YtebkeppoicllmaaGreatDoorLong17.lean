/- How long texts are: what the statements' own function comes to. -/
import Derived.Test.YtebkeppoicllmaaGreatDoorPMatch
namespace Go.Proofs.YtebkeppoicllmaaGreatDoor
open Go.IntKind (u8 u16 u32 u64 i8 i16 i32 i64)
open Go Go.Vm Go.RowKit
set_option linter.unusedVariables false
set_option maxRecDepth 100000
set_option linter.unusedSectionVars false
variable [Φ:Frz]
theorem lo_round(x:Value)(n:Nat)(cs:List V)(a i:Int)(R:Exit→List (Option V)→St→Prop):cb Tryz.prog T3 9 10 (aN 9) 33 58 [0,3,4] [.lst x n cs,.int .i64 a,.int .i64 i] [] R=
  (
 bif decide (i<(↑n:Int))then bif decide (a<6000)then bif decide (0≤i)&&decide (i<(↑n:Int))then bif (i.toNat*1).blt cs.length then bif cF (cs.getD
 (i.toNat*1) (.bool false))then R .normal [some (.lst x n cs),some (.int i64 (i64.wrap (i64.wrap (a+5)+if(↑(bI (cs.getD
 (i.toNat*1) (.bool false))).length:Int)<6000 then(↑(bI (cs.getD (i.toNat*1) (.bool false))).length:Int)else 6000))),some (.int i64
 (i64.wrap (i+1)))] []else False else False else False else R (.exit 0) [some (.lst x n cs),some (.int i64 a),some (.int i64 i)] []
 else R (.exit 0) [some (.lst x n cs),some (.int i64 a),some (.int i64 i)] []):=by kernel_rfl
def loN:Nat→List (List UInt8)→Nat
 |n,[]=>n
 |n,s::r=>if n<6000 then loN (n+5+min 6000 s.length) r else n
structure LO where
 x:Value
 n:Nat
 cs:List V
 a:Nat
 i:Nat
def loV(q:LO):List V:=[.lst q.x q.n q.cs,.int .i64 q.a,.int .i64 q.i]
def loJ(_:LO):St:=[]
def ig(q:LO):Bool:=okS q.n q.cs&&(Nat.ble q.i q.n&&Nat.ble q.a 20000)
def loMu(q:LO):Nat:=q.n-q.i
def loDec:List (Option V)→St→Option LO
 |[some (.lst x n cs),some (.int .i64 a),some (.int .i64 0)],_=>some ⟨x,n,cs,a.toNat,0⟩
 |_,_=>none
def loS(a:Nat)(cs:List V):Nat:=loN a (cs.map bI)
def lb(x:Value)(n:Nat)(cs:List V)(a:Nat)(K:Exit→List V→St→Prop):Prop:=∀j:Nat,K (.exit 0) [.lst x n cs,.int .i64 a,.int .i64 j] []
def loOut:Asks LO:=fun q K=>lb q.x q.n q.cs (loS q.a (q.cs.drop q.i)) K
theorem lo_roundOk(q:LO)(hx:ig q=true):cb Tryz.prog T3 9 10 (aN 9) 33 58 [0,3,4] (loV q) (loJ q) (bX 0 ig loV loJ loMu loOut q):=by
 obtain⟨x,n,cs,a,i⟩:=q;unfold ig at hx;simp only[Bool.and_eq_true]at hx;have hx1:okS n cs=true:=hx.1;have p1:i≤n:=Nat.le_of_ble_eq_true hx.2.1;have p0:a≤20000:=Nat.le_of_ble_eq_true hx.2.2;obtain⟨l,rfl,rfl,p2,p3⟩:=iV hx1;show cb Tryz.prog T3 9 10 (aN 9) 33 58 [0,3,4] [.lst x l.length (strs l),.int .i64 a,.int .i64 i] [] _;rw[lo_round];have ha:∀b j,loS b ((strs l).drop j)=loN b (l.drop j):=fun b j=>by
  unfold loS;rw[List.map_drop,bx]
 have out:∀K,loOut ⟨x,l.length,strs l,a,i⟩ K→lb x l.length (strs l) (loN a (l.drop i)) K:=fun K hK=>by
  have hK:lb x l.length (strs l) (loS a ((strs l).drop i)) K:=hK;rw[ha]at hK;exact hK
 have fin:loN a (l.drop i)=a→bX 0 ig loV loJ loMu loOut ⟨x,l.length,strs l,a,i⟩ (.exit 0) [some (.lst x l.length (strs l)),some (.int .i64 a),some (.int .i64 i)] []:=fun h=>by
  refine⟨[.lst x l.length (strs l),.int .i64 a,.int .i64 i],[],fun K hK=>?_,d5 _ rfl _ rfl _⟩;have hK:=out K hK;rw[h]at hK;exact hK i
 cases hd:l.drop i with
 |nil=>
  have hi:=hH hd p1;rw[decide_eq_false (show ¬((i:Int)<(l.length:Int)) by omega),cond_false];exact fin (by rw[hd];rfl)
 |cons c r=>
  obtain⟨e1,e2,e3⟩:=dA hd;obtain⟨e4,e5⟩:=strs_at hd;rw[decide_eq_true (show((i:Int)<(l.length:Int)) by omega),cond_true];refine az (fun h=>?_) (fun h=>?_)
  ·have h:=of_decide_eq_true h;have q2:decide ((0:Int)≤(i:Int))=true:=decide_eq_true (by omega);simp only[q2,Int.toNat_natCast,e4,e5,cF,bI,cond_true,Bool.and_true,show i64.wrap ((i:Int)+1)=((i+1:Nat):Int) by rw[IntWalk.i64_in _ ⟨by omega,by omega⟩];omega];have q3:i64.wrap (i64.wrap ((a:Int)+5)+if(c.length:Int)<6000 then(c.length:Int)else 6000)=((a+5+min 6000 c.length:Nat):Int):=by
    rw[IntWalk.i64_in ((a:Int)+5) ⟨by omega,by omega⟩];split
    ·rw[IntWalk.i64_in _ ⟨by omega,by omega⟩];omega
    ·rw[IntWalk.i64_in _ ⟨by omega,by omega⟩];omega
   rw[q3];refine⟨⟨x,l.length,strs l,a+5+min 6000 c.length,i+1⟩,?_,d5 _ rfl _ rfl _,by simp only[loMu];omega,fun K hK=>?_⟩
   ·unfold ig;simp only[Bool.and_eq_true];exact⟨hx1,Nat.ble_eq_true_of_le (show i+1≤l.length by omega),Nat.ble_eq_true_of_le (show a+5+min 6000 c.length≤20000 by omega)⟩
   ·have hK:=out K hK;show lb x l.length (strs l) (loS (a+5+min 6000 c.length) ((strs l).drop (i+1))) K;rw[ha,e2];rw[hd,loN,if_pos (by omega)]at hK;exact hK
  ·have h:=of_decide_eq_false h;exact fin (by rw[hd,loN,if_neg (by omega)])
noncomputable def lkLO:Nat→Trans→Trans:=dm 58 (i5 0 (szOf Tryz.prog 33) [0,3,4] loDec ig loV loJ loOut) (aN 9)
theorem lkLO_ok:aX Tryz.prog 0 lkLO 33:=by
 unfold lkLO;exact iA (dk 9 0 33) (by kernel_rfl) fun f st Q h=>eL (P:=Tryz.prog) (T:=T3) (k:=0) (lim:=9) (n:=10) (g:=33) (p0:=58) (lk:=aN 9) bQ T3_ok (bY 9 _ _) loMu lo_roundOk h
noncomputable def LO1:Tab:=⟨noT,noL,ju (c8 9) 33 0 lkLO⟩
theorem LO1_ok:TabOk3 Tryz.prog LO1:=⟨cp,cr,eY (be 9) lkLO_ok⟩
theorem lo_tree(x:Value)(n:Nat)(cs:List V)(R:V→Prop):runW Tryz.prog LO1 9 10 33 [.lst x n cs] R=
  (
 Fits 0 [.lst x n cs,.int i64 0,.int i64 0] [] [some (.lst x n cs),some (.int i64 0),some (.int i64 0)] []∧bif ig {x:=x,n:=n,cs:=cs,a:=0,i:=0}
 then ∀(j:Nat),R (.bool (decide ((↑(loS 0 cs):Int)≥6000)))else False):=by kernel_rfl
def longS(l:List (List UInt8)):Bool:=decide ((loN 0 l:Int)≥6000)
theorem lo_sat(x:Value)(l:List (List UInt8))(h1:l.length≤9223372036854775807):FnSat Tryz.prog 33 [lstS x l] [] (Is (.bool (longS l),[])):=by
 refine ci (lim:=9) (n:=10) bQ LO1_ok rfl rfl ?_;unfold lstS;rw[lo_tree];have hs:loS 0 (strs l)=loN 0 l:=by unfold loS;rw[bx]
 rw[hs];refine⟨d5 _ rfl _ rfl _,bf ?_ (fun j=>rfl)⟩;unfold ig;show(okS l.length (strs l)&&(Nat.ble 0 l.length&&Nat.ble 0 20000))=true;rw[okS_mk h1];rfl
def loOK(p:V)(st:St):Bool:=match dQ st p with
 |some (b,l)=>b&&Nat.ble l.length 9223372036854775807
 |none=>false
def loB(p:V)(st:St):Bool:=match dQ st p with
 |some (_,l)=>longS l
 |none=>false
def loGV(OK LB:V→St→Bool):List V→St→Option (List (Bool×(V×St)))
 |[p],st=>some [(OK p st,(.bool (LB p st),st))]
 |_,_=>none
theorem loG_ok(args:List V)(s:St)(l:List (Bool×(V×St)))(o:V×St)(h:loGV loOK loB args s=some l)(ho:a9 l=some o):FnSat Tryz.prog 33 args s (Is o):=by
 unfold loGV at h;split at h
 ·rename_i p;cases h;obtain⟨hb,rfl⟩:=ff ho;unfold loOK at hb;split at hb
  ·rename_i b ls hv;rw[Bool.and_eq_true]at hb;obtain⟨rfl,h1⟩:=hb;have hL:loB p s=longS ls:=by unfold loB;rw[hv]
   rw[hL];refine frz_sat rfl fun B W0 w m rargs hr ha=>?_;obtain⟨x,r,q1,q2,rfl⟩:=ah ha;have g1:=viewS_ok hr hv q1;have q3:=bH (Ψ:=Frz.of w) (m':=[]) _ _ rfl q2;exact⟨[lstS x ls],@ao _ (Frz.of w) [] _ _ _ _ g1 q3,@lo_sat (Frz.of w) x ls (Nat.le_of_ble_eq_true h1)⟩
  ·cases hb
 ·cases h
end Go.Proofs.YtebkeppoicllmaaGreatDoor
