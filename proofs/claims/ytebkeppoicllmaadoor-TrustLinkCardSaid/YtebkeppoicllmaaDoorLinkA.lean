/- Whether certificates are linked: what it comes to. -/
import Derived.Test.YtebkeppoicllmaaDoorHost
import Derived.Test.YtebkeppoicllmaaDoorCert2
import Derived.Test.YtebkeppoicllmaaDoorDig
namespace Go.Proofs.YtebkeppoicllmaaDoor
open Go.IntKind (u8 u16 u32 u64 i8 i16 i32 i64)
open Go Go.Vm Go.RowKit
set_option linter.unusedVariables false
set_option maxRecDepth 100000
set_option linter.unusedSectionVars false
variable [Φ:Frz]
noncomputable def DG0:Tab:=⟨addT (addP noT 12 spkiP) 13 sumT,noL,bf 9⟩
theorem DG0_ok:TabOk3 Tryd.prog DG0:=⟨b8 (aQ aL spki_ok) sum_ok,aM,au 9⟩
theorem dig_tree(k:List UInt8)(R:V→Prop):runW Tryd.prog DG0 9 10 6 [.str k] R=
  (
 bif du k==[]then R (.str [])else bif okL (du k)then R (.str (sumF (du k)))else False):=by kernel_rfl
def digB(k:List UInt8):List UInt8:=bif du k==[]then[]else sumF (du k)
def digP:List V→Option V
 |[.str k]=>some (.str (digB k))
 |_=>none
theorem dig_ok(args:List V)(v:V)(h:digP args=some v):FnSat Tryd.prog 6 args [] (Is (v,[])):=by
 unfold digP at h;split at h
 ·rename_i k;cases h;refine aJ (lim:=9) (n:=10) aH DG0_ok rfl rfl ?_;rw[dig_tree];unfold digB;refine ab (fun h=>?_) (fun h=>?_)
  ·rw[h];rfl
  ·rw[h];have hk:okL (du k)=true:=by
    refine decide_eq_true ?_;unfold du;split
    ·simp
    ·split
     ·simp
     ·have h1:=bL 4 k;have h2:=bL 48 (putB 4 k);omega
   rw[hk];rfl
 ·cases h
def lkT:List (Nat×V):=[(2,.ptr 0 0)]
noncomputable def lkRg:Array Tmp×Code×Code:=(dk (fi Tryd.prog 7)).getD (#[],.skip,.skip)
noncomputable def lkAs:Code:=lkRg.2.1
noncomputable def lkBd:Code:=lkRg.2.2
noncomputable def lkL(s:LoopState)(p:Option Code):Blk:=gY Tryd.prog 7 s p lkT 2
noncomputable def LK0:Tab:=⟨addP noT 6 digP,noL,bf 9⟩
theorem LK0_ok:TabOk3 Tryd.prog LK0:=⟨aQ aL dig_ok,aM,au 9⟩
theorem lk_round(b:Bool)(x:Value)(n:Nat)(cs:List V)(i:Int)(R:Exit→List (Option V)→St→Prop):ao Tryd.prog LK0 9 10 (ah 9) 27 6 [0,1,3] [.yield 3,.ptr 1 0,.int .i64 i] [.row [.bool b] 4 1,.row [.lst x n cs] 25 1,.defd,lkL .ready none] R=
  (
 bif decide (i<(↑n:Int))then bif decide (0≤i)&&decide (i<(↑n:Int))then bif (i.toNat*6+5).blt cs.length then bif dP (cs.getD (i.toNat*6+5)
 (.bool false))then bif dr (cs.getD (i.toNat*6+5) (.bool false))then bif decide (0≤i64.wrap (i-1))&&decide (i64.wrap (i-1)<(↑n:
 Int))then bif ((i64.wrap (i-1)).toNat*6+1).blt cs.length then bif aw (cs.getD ((i64.wrap (i-1)).toNat*6+1) (.bool false))then bif
 decide (0≤i)&&decide (i<(↑n:Int))then bif (i.toNat*6+0).blt cs.length then bif aw (cs.getD (i.toNat*6+0) (.bool false))then bif aa (cs.getD
 ((i64.wrap (i-1)).toNat*6+1) (.bool false))==digB (aa (cs.getD (i.toNat*6+0) (.bool false)))then R .normal [some (V.yield 3),some (.ptr 1
 0),some (.int i64 (i64.wrap (i+1)))] [.row [.bool b] 4 1,.row [.lst x n cs] 25 1,Blk.defd,lkL LoopState.ready none]else R .ret [some
 (V.yield 3),some (.ptr 1 0),some (.int i64 i)] [.row [.bool false] 4 1,.row [.lst x n cs] 25 1,Blk.defd,lkL LoopState.done (some Code.ret)]else
 False else False else False else False else False else False else R .ret [some (V.yield 3),some (.ptr 1 0),some (.int i64 i)] [.row [.bool false] 4 1,
 .row [.lst x n cs] 25 1,Blk.defd,lkL LoopState.done (some Code.ret)]else False else False else False else R (.exit 0) [some (V.yield 3),some (.ptr 1 0),some
 (.int i64 i)] [.row [.bool b] 4 1,.row [.lst x n cs] 25 1,Blk.defd,lkL LoopState.ready none]):=by kernel_rfl
def bw:List CR→Bool
 |a::b::r=>b.ca&&((a.g==digB b.k)&&bw (b::r))
 |_=>true
structure LK where
 b:Bool
 x:Value
 n:Nat
 cs:List V
 i:Nat
def lkV(y:LK):List V:=[.yield 3,.ptr 1 0,.int .i64 (y.i+1:Nat)]
noncomputable def lkM(b:Bool)(x:Value)(n:Nat)(cs:List V)(s:LoopState)(p:Option Code):St:=[.row [.bool b] 4 1,.row [.lst x n cs] 25 1,.defd,lkL s p]
noncomputable def lkJ(y:LK):St:=lkM y.b y.x y.n y.cs .ready none
def ks(y:LK):Bool:=okR y.n y.cs&&Nat.ble y.i y.n
def lkMu(y:LK):Nat:=y.n-y.i
def lkDec:List (Option V)→St→Option LK
 |[some (.yield 3),some (.ptr 1 0),some (.int .i64 1)],.row [.bool b] _ _::.row [.lst x n cs] _ _::_=>some ⟨b,x,n,cs,0⟩
 |_,_=>none
def linkV(cs:List V)(i:Nat):Bool:=bw ((crD [] cs).drop i)
noncomputable def lkOutG(b:Bool)(x:Value)(n:Nat)(cs:List V)(c:Bool)(K:Exit→List V→St→Prop):Prop:=
 bif c then ∀j:Int,K (.exit 0) [.yield 3,.ptr 1 0,.int .i64 j] (lkM b x n cs .ready none)else ∀j:Int,K .ret [.yield 3,.ptr 1 0,.int .i64 j] (lkM false x n cs .done (some .ret))
noncomputable def lkOut:Asks LK:=fun y K=>lkOutG y.b y.x y.n y.cs (linkV y.cs y.i) K
theorem lkL_fit(σ:List Nat)(h0:σ[0]?=some 0)(h2:σ[2]?=some 2)(s:LoopState)(p:Option Code):FitB σ (lkL s p) (lkL s p):=by
 unfold lkL gY;split
 ·refine .inr ⟨_,_,_,_,_,_,_,_,_,_,rfl,rfl,h2,FitT.of (fun t v hm=>?_)⟩;simp only[lkT,List.mem_cons,Prod.mk.injEq,List.not_mem_nil,or_false]at hm;obtain⟨rfl,rfl⟩:=hm;exact⟨.ptr 0 0,by simp[renV,h0],rfl⟩
 ·exact .inl rfl
theorem oF(b:Bool)(x:Value)(n:Nat)(cs:List V)(j:Int)(s:LoopState)(p:Option Code):Fits 4 [.yield 3,.ptr 1 0,.int .i64 j] (lkM b x n cs s p) [some (.yield 3),some (.ptr 1 0),some (.int .i64 j)] (lkM b x n cs s p):=
 ⟨[0,1,2,3],[.yield 3,.ptr 1 0,.int .i64 j],rfl,rfl,FitsM.of ⟨.inr ⟨_,.inl rfl,rfl⟩,.inr ⟨_,.inl rfl,rfl⟩,.inr ⟨_,.inl rfl,rfl⟩,.inr ⟨_,lkL_fit _ rfl rfl s p,rfl⟩,trivial⟩,by decide,fun i hi=>by
   match i,hi with
   |0,_|1,_|2,_|3,_=>rfl⟩
theorem lk_roundOk(y:LK)(hx:ks y=true):ao Tryd.prog LK0 9 10 (ah 9) 27 6 [0,1,3] (lkV y) (lkJ y) (aR 4 ks lkV lkJ lkMu lkOut y):=by
 obtain⟨b,x,n,cs,i⟩:=y;unfold ks at hx;rw[Bool.and_eq_true]at hx;have p1:i≤n:=Nat.le_of_ble_eq_true hx.2;have hx1:okR n cs=true:=hx.1;obtain⟨p2,p3,p4,p5⟩:=okR_spec hx1;show ao Tryd.prog LK0 9 10 (ah 9) 27 6 [0,1,3] [.yield 3,.ptr 1 0,.int .i64 ((i+1:Nat):Int)] [.row [.bool b] 4 1,.row [.lst x n cs] 25 1,.defd,lkL .ready none] _;rw[lk_round];have out:∀K,lkOut ⟨b,x,n,cs,i⟩ K→lkOutG b x n cs (bw ((crD [] cs).drop i)) K:=fun K hK=>hK;by_cases hi:i+1<n
 ·obtain⟨a,r,ha⟩:∃a r,(crD [] cs).drop i=a::r:=by
   cases hd:(crD [] cs).drop i with
   |nil=>have:=congrArg List.length hd;simp at this;omega
   |cons a r=>exact⟨a,r,rfl⟩
  obtain⟨_,ha2,_⟩:=bF ha;obtain⟨c,q,hc⟩:∃c q,r=c::q:=by
   cases r with
   |nil=>have:=congrArg List.length ha;simp at this;omega
   |cons c q=>exact⟨c,q,rfl⟩
  subst hc;have A:=cr_at p2 ha;have C:=cr_at p2 ha2;have w1:i64.wrap (((i+1:Nat):Int)-1)=(i:Int):=by rw[IntWalk.i64_in _ ⟨by omega,by omega⟩];omega
  have w2:i64.wrap (((i+1:Nat):Int)+1)=((i+1+1:Nat):Int):=by rw[IntWalk.i64_in _ ⟨by omega,by omega⟩];omega
  have d1:decide (((i+1:Nat):Int)<(n:Int))=true:=decide_eq_true (by omega);have d2:decide ((0:Int)≤((i+1:Nat):Int))=true:=decide_eq_true (by omega);have d3:decide ((i:Int)<(n:Int))=true:=decide_eq_true (by omega);have d4:decide ((0:Int)≤(i:Int))=true:=decide_eq_true (by omega);have l5:((i+1)*6+5).blt cs.length=true:=Nat.ble_eq_true_of_le (by omega);have l1:(i*6+1).blt cs.length=true:=Nat.ble_eq_true_of_le (by omega);have l0:((i+1)*6+0).blt cs.length=true:=Nat.ble_eq_true_of_le (by omega);simp only[w1,w2,d1,d2,d3,d4,Int.toNat_natCast,l5,l1,l0,A.g,C.ca,C.k,dP,dr,aw,aa,Bool.and_self,cond_true];have next:(bw ((crD [] cs).drop i))=(c.ca&&((a.g==digB c.k)&&bw ((crD [] cs).drop (i+1)))):=by rw[ha,ha2];rfl
  have bad:bw ((crD [] cs).drop i)=false→aR 4 ks lkV lkJ lkMu lkOut ⟨b,x,n,cs,i⟩ .ret [some (.yield 3),some (.ptr 1 0),some (.int .i64 ((i+1:Nat):Int))] [.row [.bool false] 4 1,.row [.lst x n cs] 25 1,.defd,lkL .done (some .ret)]:=fun h=>by
   refine⟨_,_,fun K hK=>?_,oF false x n cs _ .done (some .ret)⟩;have hK:=out K hK;rw[h]at hK;exact hK _
  refine ab (fun h1=>?_) (fun h1=>bad (by rw[next,h1];rfl));refine ab (fun h2=>?_) (fun h2=>bad (by rw[next,h1,h2];rfl));rw[h1,h2,Bool.true_and,Bool.true_and]at next
  refine⟨⟨b,x,n,cs,i+1⟩,?_,oF b x n cs _ .ready none,by simp only[lkMu];omega,fun K hK=>?_⟩
  ·unfold ks;rw[Bool.and_eq_true];exact⟨hx1,Nat.ble_eq_true_of_le (show i+1≤n by omega)⟩
  ·have hK:=out K hK;rw[next]at hK;exact hK
 ·rw[decide_eq_false (show ¬(((i+1:Nat):Int)<(n:Int)) by omega),cond_false];refine⟨_,_,fun K hK=>?_,oF b x n cs _ .ready none⟩;have hK:=out K hK;have:bw ((crD [] cs).drop i)=true:=by
   match hd:(crD [] cs).drop i with
   |[]=>rfl
   |[_]=>rfl
   |_::_::_=>have:=congrArg List.length hd;simp at this;omega
  rw[this]at hK;exact hK _
noncomputable def lkLK:Nat→Trans→Trans:=bA 6 (cx 4 (szOf Tryd.prog 27) [0,1,3] lkDec ks lkV lkJ lkOut) (ah 9)
theorem lkLK_ok:aC Tryd.prog 4 lkLK 27:=by
 unfold lkLK;exact cm (bj 9 4 27) (by kernel_rfl) fun f st Q h=>bN (P:=Tryd.prog) (T:=LK0) (k:=4) (lim:=9) (n:=10) (g:=27) (p0:=6) (lk:=ah 9) aH LK0_ok (bn 9 _ _) lkMu lk_roundOk h
noncomputable def LK1:Tab:=⟨addP noT 6 digP,noL,dS (bf 9) 27 4 lkLK⟩
theorem LK1_ok:TabOk3 Tryd.prog LK1:=⟨aQ aL dig_ok,aM,bT (au 9) lkLK_ok⟩
theorem link_tree(x:Value)(n:Nat)(cs:List V)(R:V→Prop):runW Tryd.prog LK1 9 10 7 [.lst x n cs] R=
  (
 Fits 4 [V.yield 3,.ptr 1 0,.int i64 1] [.row [.bool false] 4 1,.row [.lst x n cs] 25 1,Blk.defd,lkL LoopState.ready none] [some (V.yield 3),some
 (.ptr 1 0),some (.int i64 1)] [.row [.bool false] 4 1,.row [.lst x n cs] 25 1,Blk.defd,Blk.loop LoopState.ready none 11 ((Tr.lf.nd none (Tr.lf.nd
 (some (.lst x n cs)) Tr.lf)).nd (some (.lst x n cs)) (Tr.lf.nd (some (.ptr 0 0)) (Tr.lf.nd (some (V.func (Fn.func 27) [] [.ptr 1 0])) Tr.lf))) {toList:=[7,8]}
 lkAs lkBd 2]∧bif ks {b:=false,x:=x,n:=n,cs:=cs,i:=0}then bif linkV cs 0 then ∀(j:Int),R (.bool true)else ∀(j:Int),R (.bool false)else
 False):=by kernel_rfl
theorem lk_enter(b:Bool)(x:Value)(n:Nat)(cs:List V)(T2:Tr)(h2:T2.get 2=some (.ptr 0 0)):
  Fits 4 [.yield 3,.ptr 1 0,.int .i64 1] [.row [.bool b] 4 1,.row [.lst x n cs] 25 1,.defd,lkL .ready none] [some (.yield 3),some (.ptr 1 0),some (.int .i64 1)] [.row [.bool b] 4 1,.row [.lst x n cs] 25 1,.defd,.loop .ready none 11 T2 {toList:=[7,8]} lkAs lkBd 2]:=by
 have hL:lkL .ready none=.loop .ready none 11 (io .lf lkT) {toList:=[7,8]} lkAs lkBd 2:=by kernel_rfl
 refine⟨[0,1,2,3],[.yield 3,.ptr 1 0,.int .i64 1],rfl,rfl,FitsM.of ?_,by decide,fun i hi=>by
  match i,hi with
  |0,_|1,_|2,_|3,_=>rfl⟩
 refine⟨.inr ⟨_,.inl rfl,rfl⟩,.inr ⟨_,.inl rfl,rfl⟩,.inr ⟨_,.inl rfl,rfl⟩,.inr ⟨_,?_,rfl⟩,trivial⟩;rw[hL];refine .inr ⟨_,_,_,_,_,_,_,_,_,_,rfl,rfl,rfl,FitT.of fun t v hm=>?_⟩;simp only[lkT,List.mem_cons,Prod.mk.injEq,List.not_mem_nil,or_false]at hm;obtain⟨rfl,rfl⟩:=hm;exact⟨_,rfl,h2⟩
theorem link_sat(x:Value)(n:Nat)(cs:List V)(h:okR n cs=true):FnSat Tryd.prog 7 [.lst x n cs] [] (Is (.bool (bw (crD [] cs)),[])):=by
 refine aJ (lim:=9) (n:=10) aH LK1_ok rfl rfl ?_;rw[link_tree];refine⟨lk_enter _ _ _ _ _ rfl,ae ?_ ?_⟩
 ·unfold ks;rw[Bool.and_eq_true];exact⟨h,Nat.ble_eq_true_of_le (Nat.zero_le _)⟩
 ·have e:linkV cs 0=bw (crD [] cs):=rfl;rw[←e];cases linkV cs 0 with
  |true=>intro j;rfl
  |false=>intro j;rfl
def linkG:List V→St→Option (List (Bool×(V×St)))
 |[p],st=>match mL st p with
  |some (b,l)=>some [(b&&Nat.ble l.length 9223372036854775807,(.bool (bw l),st))]
  |none=>none
 |_,_=>none
theorem linkG_ok(args:List V)(s:St)(l:List (Bool×(V×St)))(o:V×St)(h:linkG args s=some l)(ho:aP l=some o):FnSat Tryd.prog 7 args s (Is o):=by
 unfold linkG at h;split at h
 ·rename_i p;split at h
  ·rename_i b ls hv;cases h;obtain⟨hb,rfl⟩:=cM ho;rw[Bool.and_eq_true]at hb;obtain⟨rfl,h1⟩:=hb;refine eN rfl fun B W0 w m rargs hr ha=>?_;obtain⟨a,r,q1,q2,rfl⟩:=ai ha;obtain⟨L,e1,e2,e3⟩:=viewR_ok hr hv q1;have q3:=bH (Ψ:=Frz.of w) (m':=[]) _ _ rfl q2;have hl:L.length≤9223372036854775807:=by rw[←List.length_map (f:=(·.c)),e1];exact Nat.le_of_ble_eq_true h1
   have:=@link_sat (Frz.of w) a L.length (crs L) (okR_mk hl e3);rw[kX,e1]at this;exact⟨[lstR a L],@ay _ (Frz.of w) [] _ _ _ _ e2 q3,this⟩
  ·cases h
 ·cases h
end Go.Proofs.YtebkeppoicllmaaDoor
