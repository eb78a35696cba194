/- One text among some: what it comes to. -/
import Derived.Test.YtebkeppoicllmaaDoorLinkA
namespace Go.Proofs.YtebkeppoicllmaaDoor
open Go.IntKind (u8 u16 u32 u64 i8 i16 i32 i64)
open Go Go.Vm Go.RowKit
set_option linter.unusedVariables false
set_option maxRecDepth 100000
set_option linter.unusedSectionVars false
variable [Φ:Frz]
theorem in_round(x:Value)(n:Nat)(cs:List V)(s:List UInt8)(i:Int)(R:Exit→List (Option V)→St→Prop):ao Tryd.prog T3 9 10 (ah 9) 28 26 [0,1,4,7,8] [.lst x n cs,.str s,.int .i64 0,.int .i64 n,.int .i64 i] [] R=
  (
 bif decide (i<(↑n:Int))then bif decide (0≤i)&&decide (i<(↑n:Int))then bif (i.toNat*1).blt cs.length then bif aw (cs.getD (i.toNat*1) (.bool false))
 then bif s==aa (cs.getD (i.toNat*1) (.bool false))then R .ret [some (.lst x n cs),some (.str s),some (.int i64 i),some (.int i64 (↑n
 :Int)),some (.int i64 i)] []else R .normal [some (.lst x n cs),some (.str s),some (.int i64 0),some (.int i64 (↑n:Int)),some
 (.int i64 (i64.wrap (i+1)))] []else False else False else False else R (.exit 0) [some (.lst x n cs),some (.str s),some (.int i64 0),
 some (.int i64 (↑n:Int)),some (.int i64 i)] []):=by kernel_rfl
structure IN where
 x:Value
 n:Nat
 cs:List V
 s:List UInt8
 i:Nat
def inV(y:IN):List V:=[.lst y.x y.n y.cs,.str y.s,.int .i64 0,.int .i64 y.n,.int .i64 y.i]
def inJ(_:IN):St:=[]
def lU(y:IN):Bool:=okS y.n y.cs&&Nat.ble y.i y.n
def inMu(y:IN):Nat:=y.n-y.i
def inDec:List (Option V)→St→Option IN
 |[some (.lst x n cs),some (.str s),some (.int .i64 0),some (.int .i64 _),some (.int .i64 0)],_=>some ⟨x,n,cs,s,0⟩
 |_,_=>none
def hasV(cs:List V)(s:List UInt8):Bool:=(cs.map aa).any (fun t=>s==t)
def oK(x:Value)(n:Nat)(cs:List V)(s:List UInt8)(b:Bool)(K:Exit→List V→St→Prop):Prop:=
 bif b then ∀i:Nat,K .ret [.lst x n cs,.str s,.int .i64 i,.int .i64 n,.int .i64 i] []else K (.exit 0) [.lst x n cs,.str s,.int .i64 0,.int .i64 n,.int .i64 n] []
def inOut:Asks IN:=fun y K=>oK y.x y.n y.cs y.s (hasV (y.cs.drop y.i) y.s) K
theorem in_roundOk(y:IN)(hx:lU y=true):ao Tryd.prog T3 9 10 (ah 9) 28 26 [0,1,4,7,8] (inV y) (inJ y) (aR 0 lU inV inJ inMu inOut y):=by
 obtain⟨x,n,cs,s,i⟩:=y;unfold lU at hx;rw[Bool.and_eq_true]at hx;have p1:i≤n:=Nat.le_of_ble_eq_true hx.2;have hx1:okS n cs=true:=hx.1;obtain⟨l,rfl,rfl,p2,p3⟩:=fa hx1;show ao Tryd.prog T3 9 10 (ah 9) 28 26 [0,1,4,7,8] [.lst x l.length (strs l),.str s,.int .i64 0,.int .i64 l.length,.int .i64 i] [] _;rw[in_round];have ha:∀j,hasV ((strs l).drop j) s=(l.drop j).any fun t=>s==t:=fun j=>by
  unfold hasV;rw[List.map_drop,aA]
 have out:∀K,inOut ⟨x,l.length,strs l,s,i⟩ K→oK x l.length (strs l) s ((l.drop i).any fun t=>s==t) K:=fun K hK=>by
  have hK:oK x l.length (strs l) s (hasV ((strs l).drop i) s) K:=hK;rw[ha]at hK;exact hK
 cases hd:l.drop i with
 |nil=>
  have hi:=dc hd p1;rw[decide_eq_false (show ¬((i:Int)<(l.length:Int)) by omega),cond_false];refine⟨_,[],fun K hK=>?_,bD [.lst x l.length (strs l),.str s,.int .i64 0,.int .i64 l.length,.int .i64 i] rfl _ rfl _⟩;have hK:=out K hK;rw[hd]at hK;rw[hi];exact hK
 |cons c r=>
  obtain⟨e1,e2,e3⟩:=bF hd;obtain⟨e4,e5⟩:=i4 hd;have q1:decide ((i:Int)<(l.length:Int))=true:=decide_eq_true (by omega);have q2:decide ((0:Int)≤(i:Int))=true:=decide_eq_true (by omega);rw[q1,q2];simp only[Int.toNat_natCast,e4,e5,aw,aa,cond_true,Bool.and_true,show i64.wrap ((i:Int)+1)=((i+1:Nat):Int) by rw[IntWalk.i64_in _ ⟨by omega,by omega⟩];omega];cases hc:(s==c)with
  |true=>
   refine⟨_,[],fun K hK=>?_,bD [.lst x l.length (strs l),.str s,.int .i64 i,.int .i64 l.length,.int .i64 i] rfl _ rfl _⟩;have hK:=out K hK;rw[hd,List.any_cons,hc]at hK;exact hK i
  |false=>
   refine⟨⟨x,l.length,strs l,s,i+1⟩,?_,bD _ rfl _ rfl _,by simp only[inMu];omega,fun K hK=>?_⟩
   ·unfold lU;rw[Bool.and_eq_true];exact⟨hx1,Nat.ble_eq_true_of_le (show i+1≤l.length by omega)⟩
   ·have hK:=out K hK;show oK x l.length (strs l) s (hasV ((strs l).drop (i+1)) s) K;rw[ha,e2];rw[hd,List.any_cons,hc,Bool.false_or]at hK;exact hK
noncomputable def lkIN:Nat→Trans→Trans:=bA 26 (cx 0 (szOf Tryd.prog 28) [0,1,4,7,8] inDec lU inV inJ inOut) (ah 9)
theorem lkIN_ok:aC Tryd.prog 0 lkIN 28:=by
 unfold lkIN;exact cm (bj 9 0 28) (by kernel_rfl) fun f st Q h=>bN (P:=Tryd.prog) (T:=T3) (k:=0) (lim:=9) (n:=10) (g:=28) (p0:=26) (lk:=ah 9) aH T3_ok (bn 9 _ _) inMu in_roundOk h
noncomputable def IN1:Tab:=⟨noT,noL,dS (bf 9) 28 0 lkIN⟩
theorem IN1_ok:TabOk3 Tryd.prog IN1:=⟨aL,aM,bT (au 9) lkIN_ok⟩
theorem in_tree(x:Value)(n:Nat)(cs:List V)(s:List UInt8)(R:V→Prop):runW Tryd.prog IN1 9 10 16 [.lst x n cs,.str s] R=
  (
 Fits 0 [.lst x n cs,.str s,.int i64 0,.int i64 (↑n:Int),.int i64 0] [] [some (.lst x n cs),some (.str s),some (.int i64
 0),some (.int i64 (↑n:Int)),some (.int i64 0)] []∧bif lU {x:=x,n:=n,cs:=cs,s:=s,i:=0}then bif hasV cs s then ∀(i:Nat),R
 (.bool true)else R (.bool false)else False):=by kernel_rfl
theorem in_sat(x:Value)(l:List (List UInt8))(s:List UInt8)(hl:l.length≤9223372036854775807):FnSat Tryd.prog 16 [lstS x l,.str s] [] (Is (.bool (l.any fun t=>s==t),[])):=by
 refine aJ (lim:=9) (n:=10) aH IN1_ok rfl rfl ?_;unfold lstS;rw[in_tree];have ha:hasV (strs l) s=l.any fun t=>s==t:=by unfold hasV;rw[aA]
 rw[ha];refine⟨bD _ rfl _ rfl _,ae (by unfold lU;rw[iL hl];exact Nat.ble_eq_true_of_le (Nat.zero_le _)) ?_⟩;cases l.any fun t=>s==t with
 |false=>rfl
 |true=>intro _;rfl
def hasS(l:List (List UInt8))(s:List UInt8):Bool:=l.any fun t=>s==t
def inG:List V→St→Option (List (Bool×(V×St)))
 |[p,.str s],st=>match cC st p with
  |some (b,l)=>some [(b&&Nat.ble l.length 9223372036854775807,(.bool (hasS l s),st))]
  |none=>none
 |_,_=>none
theorem inG_ok(args:List V)(s:St)(l:List (Bool×(V×St)))(o:V×St)(h:inG args s=some l)(ho:aP l=some o):FnSat Tryd.prog 16 args s (Is o):=by
 unfold inG at h;split at h
 ·rename_i p t;split at h
  ·rename_i b ls hv;cases h;obtain⟨hb,rfl⟩:=cM ho;rw[Bool.and_eq_true]at hb;obtain⟨rfl,h1⟩:=hb;refine eN rfl fun B W0 w m rargs hr ha=>?_;obtain⟨a,r,q1,q2,rfl⟩:=ai ha;have hy:=ed hr hv q1;have q3:=bH (Ψ:=Frz.of w) (m':=[]) _ _ rfl q2;exact⟨[lstS a ls,.str t],@ay _ (Frz.of w) [] _ _ _ _ hy q3,@in_sat (Frz.of w) a ls t (Nat.le_of_ble_eq_true h1)⟩
  ·cases h
 ·cases h
end Go.Proofs.YtebkeppoicllmaaDoor
