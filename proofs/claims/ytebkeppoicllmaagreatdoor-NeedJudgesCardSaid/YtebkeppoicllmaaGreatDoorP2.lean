/- Parts of this work: what the functions come to. -/
import Derived.Test.YtebkeppoicllmaaGreatDoorP1
noncomputable section
set_option linter.unusedVariables false
set_option linter.unusedSectionVars false
set_option maxRecDepth 100000
namespace Go.Proofs.YtebkeppoicllmaaGreatDoor
open Go.IntKind (u8 u16 u32 u64 i8 i16 i32 i64)
open Go Go.Vm Go.RowKit
variable [Φ:Frz]
def DG0:Tab:=⟨addT (addP noT 75 mj) 76 sumT,noL,aT 9⟩
theorem DG0_ok:TabOk3 Qq DG0:=⟨aR (bg aJ spki_ok) sum_ok,aK,au 9⟩
theorem dig_tree(k:List UInt8)(R:V→Prop):runW Qq DG0 9 10 39 [.str k] R=
  (
 bif cy k==[]then R (.str [])else bif okL (cy k)then R (.str (sumF (cy k)))else False):=by kernel_rfl
def digB(k:List UInt8):List UInt8:=bif cy k==[]then[]else sumF (cy k)
def digP:List V→Option V
 |[.str k]=>some (.str (digB k))
 |_=>none
theorem dig_ok(args:List V)(v:V)(h:digP args=some v):FnSat Qq 39 args [] (Is (v,[])):=by
 unfold digP at h;split at h
 ·rename_i k;cases h;refine ax (lim:=9) (n:=10) aA DG0_ok rfl rfl ?_;rw[dig_tree];unfold digB;refine ac (fun h=>?_) (fun h=>?_)
  ·rw[h];rfl
  ·rw[h];have hk:okL (cy k)=true:=by
    refine am ?_;unfold cy;split
    ·simp
    ·split
     ·simp
     ·have h1:=cj 4 k;have h2:=cj 48 (putB 4 k);omega
   rw[hk];rfl
 ·cases h
def lkT:List (Nat×V):=[(2,.ptr 0 0)]
def lkRg:Array Tmp×Code×Code:=(fd (iq Qq 91)).getD (#[],.skip,.skip)
def lkAs:Code:=lkRg.2.1
def lkBd:Code:=lkRg.2.2
def lkL(s:LoopState)(p:Option Code):Blk:=ko Qq 91 s p lkT 2
def LK0:Tab:=⟨addP noT 39 digP,noL,aT 9⟩
theorem LK0_ok:TabOk3 Qq LK0:=⟨bg aJ dig_ok,aK,au 9⟩
theorem lk_round(b:Bool)(x:Value)(n:Nat)(cs:List V)(i:Int)(R:Qz):al Qq LK0 9 10 (ah 9) 189 6 [0,1,3] [.yield 3,.ptr 1 0,.int .i64 i] [.row [.bool b] 4 1,.row [.lst x n cs] 27 1,.defd,lkL .ready none] R=
  (
 bif decide (i<(↑n:Int))then bif decide (0≤i)&&decide (i<(↑n:Int))then bif (i.toNat*6+5).blt cs.length then bif de (cs.getD (i.toNat*6+5)
 (.bool false))then bif ew (cs.getD (i.toNat*6+5) (.bool false))then bif decide (0≤i64.wrap (i-1))&&decide (i64.wrap (i-1)<(↑n:
 Int))then bif ((i64.wrap (i-1)).toNat*6+1).blt cs.length then bif ar (cs.getD ((i64.wrap (i-1)).toNat*6+1) (.bool false))then bif
 decide (0≤i)&&decide (i<(↑n:Int))then bif (i.toNat*6+0).blt cs.length then bif ar (cs.getD (i.toNat*6+0) (.bool false))then bif ab (cs.getD
 ((i64.wrap (i-1)).toNat*6+1) (.bool false))==digB (ab (cs.getD (i.toNat*6+0) (.bool false)))then R .normal [some (V.yield 3),some (.ptr 1
 0),some (.int i64 (i64.wrap (i+1)))] [.row [.bool b] 4 1,.row [.lst x n cs] 27 1,Blk.defd,lkL LoopState.ready none]else R .ret [some
 (V.yield 3),some (.ptr 1 0),some (.int i64 i)] [.row [.bool false] 4 1,.row [.lst x n cs] 27 1,Blk.defd,lkL LoopState.done (some Code.ret)]else
 False else False else False else False else False else False else R .ret [some (V.yield 3),some (.ptr 1 0),some (.int i64 i)] [.row [.bool false] 4 1,
 .row [.lst x n cs] 27 1,Blk.defd,lkL LoopState.done (some Code.ret)]else False else False else False else R (.exit 0) [some (V.yield 3),some (.ptr 1 0),some
 (.int i64 i)] [.row [.bool b] 4 1,.row [.lst x n cs] 27 1,Blk.defd,lkL LoopState.ready none]):=by kernel_rfl
def bW:List CR→Bool
 |a::b::r=>b.ca&&((a.g==digB b.k)&&bW (b::r))
 |_=>true
structure LK where
 b:Bool
 x:Value
 n:Nat
 cs:List V
 i:Nat
def lkV(y:LK):List V:=[.yield 3,.ptr 1 0,.int .i64 (y.i+1:Nat)]
def lkM(b:Bool)(x:Value)(n:Nat)(cs:List V)(s:LoopState)(p:Option Code):St:=[.row [.bool b] 4 1,.row [.lst x n cs] 27 1,.defd,lkL s p]
def lkJ(y:LK):St:=lkM y.b y.x y.n y.cs .ready none
def om(y:LK):Bool:=okR y.n y.cs&&Nat.ble y.i y.n
def lkMu(y:LK):Nat:=y.n-y.i
def lkDec:List (Option V)→St→Option LK
 |[some (.yield 3),some (.ptr 1 0),some (.int .i64 1)],.row [.bool b] _ _::.row [.lst x n cs] _ _::_=>some ⟨b,x,n,cs,0⟩
 |_,_=>none
def linkV(cs:List V)(i:Nat):Bool:=bW ((crD [] cs).drop i)
def lkOutG(b:Bool)(x:Value)(n:Nat)(cs:List V)(c:Bool)(K:Exit→List V→St→Prop):Prop:=
 bif c then ∀j:Int,K (.exit 0) [.yield 3,.ptr 1 0,.int .i64 j] (lkM b x n cs .ready none)else ∀j:Int,K .ret [.yield 3,.ptr 1 0,.int .i64 j] (lkM false x n cs .done (some .ret))
def lkOut:Asks LK:=fun y K=>lkOutG y.b y.x y.n y.cs (linkV y.cs y.i) K
theorem lkL_fit(σ:List Nat)(h0:σ[0]?=some 0)(h2:σ[2]?=some 2)(s:LoopState)(p:Option Code):FitB σ (lkL s p) (lkL s p):=by
 unfold lkL ko;split
 ·refine .inr ⟨_,_,_,_,_,_,_,_,_,_,rfl,rfl,h2,FitT.of (fun t v hm=>?_)⟩;simp only[lkT,List.mem_cons,Prod.mk.injEq,List.not_mem_nil,or_false]at hm;obtain⟨rfl,rfl⟩:=hm;exact⟨.ptr 0 0,by simp[renV,h0],rfl⟩
 ·exact .inl rfl
theorem t7(b:Bool)(x:Value)(n:Nat)(cs:List V)(j:Int)(s:LoopState)(p:Option Code):Fits 4 [.yield 3,.ptr 1 0,.int .i64 j] (lkM b x n cs s p) [some (.yield 3),some (.ptr 1 0),some (.int .i64 j)] (lkM b x n cs s p):=
 ⟨[0,1,2,3],[.yield 3,.ptr 1 0,.int .i64 j],rfl,rfl,FitsM.of ⟨.inr ⟨_,.inl rfl,rfl⟩,.inr ⟨_,.inl rfl,rfl⟩,.inr ⟨_,.inl rfl,rfl⟩,.inr ⟨_,lkL_fit _ rfl rfl s p,rfl⟩,trivial⟩,by decide,fun i hi=>by
   match i,hi with
   |0,_|1,_|2,_|3,_=>rfl⟩
theorem lk_roundOk(y:LK)(hx:om y=true):al Qq LK0 9 10 (ah 9) 189 6 [0,1,3] (lkV y) (lkJ y) (aD 4 om lkV lkJ lkMu lkOut y):=by
 obtain⟨b,x,n,cs,i⟩:=y;unfold om at hx;rw[ad]at hx;have p1:i≤n:=aw hx.2;have hx1:okR n cs=true:=hx.1;obtain⟨p2,p3,p4,p5⟩:=iZ hx1;show al Qq LK0 9 10 (ah 9) 189 6 [0,1,3] [.yield 3,.ptr 1 0,.int .i64 ((i+1:Nat):Int)] [.row [.bool b] 4 1,.row [.lst x n cs] 27 1,.defd,lkL .ready none] _;rw[lk_round];have out:∀K,lkOut ⟨b,x,n,cs,i⟩ K→lkOutG b x n cs (bW ((crD [] cs).drop i)) K:=fun K hK=>hK;by_cases hi:i+1<n
 ·obtain⟨a,r,ha⟩:∃a r,(crD [] cs).drop i=a::r:=by
   cases hd:(crD [] cs).drop i with
   |nil=>have:=congrArg List.length hd;simp at this;omega
   |cons a r=>exact⟨a,r,rfl⟩
  obtain⟨_,ha2,_⟩:=bn ha;obtain⟨c,q,hc⟩:∃c q,r=c::q:=by
   cases r with
   |nil=>have:=congrArg List.length ha;simp at this;omega
   |cons c q=>exact⟨c,q,rfl⟩
  subst hc;have A:=oG p2 ha;have C:=oG p2 ha2;have w1:i64.wrap (((i+1:Nat):Int)-1)=(i:Int):=by rw[IntWalk.i64_in _ ⟨by omega,by omega⟩];omega
  have w2:i64.wrap (((i+1:Nat):Int)+1)=((i+1+1:Nat):Int):=by rw[IntWalk.i64_in _ ⟨by omega,by omega⟩];omega
  have d1:decide (((i+1:Nat):Int)<(n:Int))=true:=am (by omega);have d2:decide ((0:Int)≤((i+1:Nat):Int))=true:=am (by omega);have d3:decide ((i:Int)<(n:Int))=true:=am (by omega);have d4:decide ((0:Int)≤(i:Int))=true:=am (by omega);have l5:((i+1)*6+5).blt cs.length=true:=ag (by omega);have l1:(i*6+1).blt cs.length=true:=ag (by omega);have l0:((i+1)*6+0).blt cs.length=true:=ag (by omega);simp only[w1,w2,d1,d2,d3,d4,bp,l5,l1,l0,A.g,C.ca,C.k,de,ew,ar,ab,bv,ae];have next:(bW ((crD [] cs).drop i))=(c.ca&&((a.g==digB c.k)&&bW ((crD [] cs).drop (i+1)))):=by rw[ha,ha2];rfl
  have bad:bW ((crD [] cs).drop i)=false→aD 4 om lkV lkJ lkMu lkOut ⟨b,x,n,cs,i⟩ .ret [some (.yield 3),some (.ptr 1 0),some (.int .i64 ((i+1:Nat):Int))] [.row [.bool false] 4 1,.row [.lst x n cs] 27 1,.defd,lkL .done (some .ret)]:=fun h=>by
   refine⟨_,_,fun K hK=>?_,t7 false x n cs _ .done (some .ret)⟩;have hK:=out K hK;rw[h]at hK;exact hK _
  refine ac (fun h1=>?_) (fun h1=>bad (by rw[next,h1];rfl));refine ac (fun h2=>?_) (fun h2=>bad (by rw[next,h1,h2];rfl));rw[h1,h2,aH,aH]at next
  refine⟨⟨b,x,n,cs,i+1⟩,?_,t7 b x n cs _ .ready none,by simp only[lkMu];omega,fun K hK=>?_⟩
  ·unfold om;rw[ad];exact⟨hx1,ag (show i+1≤n by omega)⟩
  ·have hK:=out K hK;rw[next]at hK;exact hK
 ·rw[bH (show ¬(((i+1:Nat):Int)<(n:Int)) by omega),ak];refine⟨_,_,fun K hK=>?_,t7 b x n cs _ .ready none⟩;have hK:=out K hK;have:bW ((crD [] cs).drop i)=true:=by
   match hd:(crD [] cs).drop i with
   |[]=>rfl
   |[_]=>rfl
   |_::_::_=>have:=congrArg List.length hd;simp at this;omega
  rw[this]at hK;exact hK _
def lkLK:Nat→Trans→Trans:=ba 6 (bK 4 (szOf Qq 189) [0,1,3] lkDec om lkV lkJ lkOut) (ah 9)
theorem lkLK_ok:aQ Qq 4 lkLK 189:=by
 unfold lkLK;exact bB (aY 9 4 189) (by kernel_rfl) fun f st Q h=>bc (P:=Qq) (T:=LK0) (k:=4) (lim:=9) (n:=10) (g:=189) (p0:=6) (lk:=ah 9) aA LK0_ok (bf 9 _ _) lkMu lk_roundOk h
def LK1:Tab:=⟨addP noT 39 digP,noL,cI (aT 9) 189 4 lkLK⟩
theorem LK1_ok:TabOk3 Qq LK1:=⟨bg aJ dig_ok,aK,bq (au 9) lkLK_ok⟩
theorem link_tree(x:Value)(n:Nat)(cs:List V)(R:V→Prop):runW Qq LK1 9 10 91 [.lst x n cs] R=
  (
 Fits 4 [V.yield 3,.ptr 1 0,.int i64 1] [.row [.bool false] 4 1,.row [.lst x n cs] 27 1,Blk.defd,lkL LoopState.ready none] [some (V.yield 3),some
 (.ptr 1 0),some (.int i64 1)] [.row [.bool false] 4 1,.row [.lst x n cs] 27 1,Blk.defd,Blk.loop LoopState.ready none 11 ((Tr.lf.nd none (Tr.lf.nd
 (some (.lst x n cs)) Tr.lf)).nd (some (.lst x n cs)) (Tr.lf.nd (some (.ptr 0 0)) (Tr.lf.nd (some (V.func (Fn.func 189) [] [.ptr 1 0])) Tr.lf))) {toList:=[7,8]}
 lkAs lkBd 2]∧bif om {b:=false,x:=x,n:=n,cs:=cs,i:=0}then bif linkV cs 0 then ∀(j:Int),R (.bool true)else ∀(j:Int),R (.bool false)else
 False):=by kernel_rfl
theorem lk_enter(b:Bool)(x:Value)(n:Nat)(cs:List V)(T2:Tr)(h2:T2.get 2=some (.ptr 0 0)):
  Fits 4 [.yield 3,.ptr 1 0,.int .i64 1] [.row [.bool b] 4 1,.row [.lst x n cs] 27 1,.defd,lkL .ready none] [some (.yield 3),some (.ptr 1 0),some (.int .i64 1)] [.row [.bool b] 4 1,.row [.lst x n cs] 27 1,.defd,.loop .ready none 11 T2 {toList:=[7,8]} lkAs lkBd 2]:=by
 have hL:lkL .ready none=.loop .ready none 11 (kV .lf lkT) {toList:=[7,8]} lkAs lkBd 2:=by kernel_rfl
 refine⟨[0,1,2,3],[.yield 3,.ptr 1 0,.int .i64 1],rfl,rfl,FitsM.of ?_,by decide,fun i hi=>by
  match i,hi with
  |0,_|1,_|2,_|3,_=>rfl⟩
 refine⟨.inr ⟨_,.inl rfl,rfl⟩,.inr ⟨_,.inl rfl,rfl⟩,.inr ⟨_,.inl rfl,rfl⟩,.inr ⟨_,?_,rfl⟩,trivial⟩;rw[hL];refine .inr ⟨_,_,_,_,_,_,_,_,_,_,rfl,rfl,rfl,FitT.of fun t v hm=>?_⟩;simp only[lkT,List.mem_cons,Prod.mk.injEq,List.not_mem_nil,or_false]at hm;obtain⟨rfl,rfl⟩:=hm;exact⟨_,rfl,h2⟩
theorem link_sat(x:Value)(n:Nat)(cs:List V)(h:okR n cs=true):FnSat Qq 91 [.lst x n cs] [] (Is (.bool (bW (crD [] cs)),[])):=by
 refine ax (lim:=9) (n:=10) aA LK1_ok rfl rfl ?_;rw[link_tree];refine⟨lk_enter _ _ _ _ _ rfl,aa ?_ ?_⟩
 ·unfold om;rw[ad];exact⟨h,ag (Nat.zero_le _)⟩
 ·have e:linkV cs 0=bW (crD [] cs):=rfl;rw[←e];cases linkV cs 0 with
  |true=>intro j;rfl
  |false=>intro j;rfl
def ot:List V→St→Option (Qx)
 |[p],st=>match gV st p with
  |some (b,l)=>some [(b&&Nat.ble l.length 9223372036854775807,(.bool (bW l),st))]
  |none=>none
 |_,_=>none
theorem linkG_ok(args:List V)(s:St)(l:Qx)(o:V×St)(h:ot args s=some l)(ho:aL l=some o):FnSat Qq 91 args s (Is o):=by
 unfold ot at h;split at h
 ·rename_i p;split at h
  ·rename_i b ls hv;cases h;obtain⟨hb,rfl⟩:=aO ho;rw[ad]at hb;obtain⟨rfl,h1⟩:=hb;refine cx rfl fun B W0 w m rargs hr ha=>?_;obtain⟨a,r,q1,q2,rfl⟩:=aj ha;obtain⟨L,e1,e2,e3⟩:=jC hr hv q1;have q3:=bw (Ψ:=Frz.of w) (m':=[]) _ _ rfl q2;have hl:L.length≤9223372036854775807:=by rw[←cg (f:=(·.c)),e1];exact aw h1
   have:=@link_sat (Frz.of w) a L.length (crs L) (pO hl e3);rw[ju,e1]at this;exact⟨[lstR a L],@aI _ (Frz.of w) [] _ _ _ _ e2 q3,this⟩
  ·cases h
 ·cases h
theorem pb{P:Program}{g:FuncId}{args:List V}{v v':V}{s s':St}(h:FnSat P g args [] (Is (v,s)))(H:∀(B:Nat) (W0 w:World) (m:List MB) (x:Value),Rel B W0 m s w→real m v=some x→∃m',Rel B W0 m' s' w∧real m' v'=some x):FnSat P g args [] (Is (v',s')):=by
 intro B W0 m w rargs ha hr;refine(h B W0 m w rargs ha hr).mono ?_;rintro e w' ⟨u,x,m1,s1,rfl,_,h2,h3,hq⟩;cases hq;obtain⟨m2,h4,h5⟩:=H B W0 w' m1 x h3 h2;have hm:m=[]:=List.eq_nil_of_length_eq_zero hr.len;subst hm;exact⟨v',x,m2,s',rfl,fun i e hi=>by simp at hi,h5,h4,rfl⟩
theorem ro_rel{B:Nat}{W0 w:World}{m:List MB}{cs:List V}{t:TypeId}{sz:Nat}(h:Rel B W0 m [.row cs t sz] w):Rel B W0 m [.ro true cs] w:=by
 refine⟨h.len,h.base,h.below,fun i b e hb he=>?_,fun i j b c d e _ h1 h2 _ _ _ _=>?_,h.glob⟩
 ·match i,hb with
  |0,hb=>
   simp only[ce,af]at hb;subst hb;have h1:=h.blk 0 _ e rfl he;obtain⟨_,arr,ty,fz,g1,g2⟩:=h1.toRo B;exact⟨fun _=>h1.1,arr,ty,fz,g1,g2⟩
  |i+1,hb=>simp at hb
 ·match i,h1 with
  |0,h1=>
   simp only[ce,af]at h1;subst h1;cases h2
  |i+1,h1=>simp at h1
def outN(s:List UInt8):V×St:=(.tuple [.agg [.str (dK s),.str (dG s),.nos 0 (dN s),.int .i64 (dF s),.int .i64 (dU s),.bool (dCa s)],.int .i64 0],[.ro true (strs (dL s))])
def decN:List V→Option (Qx)
 |[.str s]=>some [(Nat.blt 512 s.length,(.tuple [iN,.int .i64 40],[])),(decE s !=0,(.tuple [iN,.int .i64 4],[])),(true,outN s)]
 |_=>none
theorem mb{m m':List MB}{k g:List UInt8}{p p':V}{f u e:Int}{ca:Bool}{x:Value}(H:∀y,real m p=some y→real m' p'=some y)(hx:real m (.tuple [.agg [.str k,.str g,p,.int .i64 f,.int .i64 u,.bool ca],.int .i64 e])=some x):
  real m' (.tuple [.agg [.str k,.str g,p',.int .i64 f,.int .i64 u,.bool ca],.int .i64 e])=some x:=by
 cases hp:real m p with
 |none=>simp[real,ap,hp]at hx
 |some y=>
  have:=H y hp;simp only[real,ap,hp]at hx;simp only[real,ap,this];exact hx
theorem decN_ok(args:List V)(l:Qx)(o:V×St)(h:decN args=some l)(ho:aL l=some o):FnSat Qq 42 args [] (Is o):=by
 unfold decN at h;split at h
 ·rename_i s;cases h;have big:Nat.blt 512 s.length=decide ((s.length:Int)>512):=by
   cases hq:decide ((s.length:Int)>512)with
   |true=>have:=aN hq;exact ag (by omega)
   |false=>
    have:=bk hq;cases hb:Nat.blt 512 s.length with
    |false=>rfl
    |true=>have:=aw hb;omega
  cases hb:Nat.blt 512 s.length with
  |true=>
   rw[hb]at ho;cases ho;have he:decE s=40:=by unfold decE;rw[←big,hb];rfl
   exact uu [.str s] _ _ rfl (by rw[he];rfl)
  |false=>
  rw[hb]at ho;cases he:(decE s !=0)with
  |true=>
   rw[he]at ho;cases ho;have h4:decE s=4:=by
    unfold decE at he ⊢;rw[←big,hb,ak]at he ⊢;cases hc:decC s with
    |none=>rfl
    |some _=>rw[hc]at he;cases he
   exact uu [.str s] _ _ rfl (by rw[h4];rfl)
  |false=>
   rw[he]at ho;cases ho;cases hn:Nat.beq (dN s) 0 with
   |true=>
    have h0:dL s=[]:=List.eq_nil_of_length_eq_zero (aP hn);have hd:dN s=0:=aP hn;have hE:decE s=0:=by simpa using he
    obtain⟨c,hc⟩:=(j4 s).1 hE;have hdc:dCd s=c:=by unfold dCd;rw[hc];rfl
    have hcl:c.l=[]:=by have:=h0;unfold dL at this;rw[hdc]at this;exact this
    have eo:outD s=(.tuple [.agg [.str (dK s),.str (dG s),.nilSlice,.int .i64 (dF s),.int .i64 (dU s),.bool (dCa s)],.int .i64 0],[]):=by
     unfold outD dK dG dF dU dCa;rw[hdc,hc];simp only[hcl]
    intro B W0 m w rargs ha hr;refine((dX aA F1_ok (de_all s)) B W0 m w rargs ha hr).mono ?_;rintro e w' ⟨u,x,m1,s1,rfl,_,h2,h3,hq⟩;obtain⟨b,hb⟩:=hq.2 hE (by rw[eo]);obtain⟨e1,hole,hrel⟩:=visF_rel h3 hb;have hm:m=[]:=List.eq_nil_of_length_eq_zero hr.len;subst hm;obtain⟨σ,us,k1,k2,_⟩:=hq.1;rw[eo]at k2;simp only[renL,renV,af]at k2;subst k2;simp only[List.map_cons,List.map_nil,List.cons.injEq,af,and_true]at k1;subst k1;refine⟨(outN s).1,x,[e1],(outN s).2,rfl,fun i e hi=>by simp at hi,?_,by unfold outN;rw[h0];exact hrel,rfl⟩;unfold outN;rw[hd];refine mb (fun y hy=>?_) h2;simp only[real,af]at hy;subst hy;simp[real,at?,hole]
   |false=>
    have h1:=uu [.str s] _ (.tuple [.agg [.str (dK s),.str (dG s),.slice 0 0 (dN s) false 0 0,.int .i64 (dF s),.int .i64 (dU s),.bool (dCa s)],.int .i64 0],[.row (strs (dL s)) 9 1]) rfl (by rw[he,hn];rfl);refine pb h1 fun B W0 w m x hr hx=>?_;refine⟨m,ro_rel hr,mb (fun y hy=>?_) hx⟩;obtain⟨e,cap,g1,g2,g3,rfl⟩:=bV hy;have hd:dN s≠0:=fun h0=>by rw[h0]at hn;cases hn
    simp only[Bool.false_eq_true,if_false,Nat.sub_zero]at g2;subst g2;have hc:(if e.cap=0 then 0 else 0)=0:=by split<;>rfl
    simp only[real,g1,if_neg hd,if_pos g3,hc,Nat.add_zero]
 ·cases h
def RD0:Tab:=⟨addT noT 42 decN,noL,aT 5⟩
theorem RD0_ok:TabOk3 Qq RD0:=⟨aR aJ decN_ok,aK,au 5⟩
def tk4(n:Nat)(cs:List V):List V:=List.take (((if 4<(↑n:Int)then 4 else(↑n:Int)).toNat-0)*1) cs
def el4(n:Nat)(cs:List V)(j:Nat):List UInt8:=ab ((tk4 n cs).getD j (V.bool false))
def ln4(n:Nat):Int:=if 4<(↑n:Int)then 4 else(↑n:Int)
def zw_0(n:Nat)(cs:List V):=[V.str ((dK (el4 n cs 0))),V.str ((dG (el4 n cs 0))),V.nos 0 (dN (el4 n cs 0)),V.int i64 (dF (el4 n cs 0)),V.int i64 (dU (el4 n cs 0)),V.bool (dCa (el4 n cs 0)),V.str ((dK (el4 n cs 1))),V.str ((dG (el4 n cs 1))),V.nos 4 (dN (el4 n cs 1)),V.int i64 (dF (el4 n cs 1)),V.int i64 (dU (el4 n cs 1)),V.bool (dCa (el4 n cs 1)),V.str ((dK (el4 n cs 2))),V.str ((dG (el4 n cs 2))),V.nos 8 (dN (el4 n cs 2)),V.int i64 (dF (el4 n cs 2)),V.int i64 (dU (el4 n cs 2)),V.bool (dCa (el4 n cs 2)),V.str ((dK (el4 n cs 3))),V.str ((dG (el4 n cs 3))),V.nos 12 (dN (el4 n cs 3)),V.int i64 (dF (el4 n cs 3)),V.int i64 (dU (el4 n cs 3)),V.bool (dCa (el4 n cs 3))]
def zw_1(n:Nat)(cs:List V):=[V.str ((dK (el4 n cs 0))),V.str ((dG (el4 n cs 0))),V.nos 0 (dN (el4 n cs 0)),V.int i64 (dF (el4 n cs 0)),V.int i64 (dU (el4 n cs 0)),V.bool (dCa (el4 n cs 0)),V.str ((dK (el4 n cs 1))),V.str ((dG (el4 n cs 1))),V.nos 4 (dN (el4 n cs 1)),V.int i64 (dF (el4 n cs 1)),V.int i64 (dU (el4 n cs 1)),V.bool (dCa (el4 n cs 1)),V.str ((dK (el4 n cs 2))),V.str ((dG (el4 n cs 2))),V.nos 8 (dN (el4 n cs 2)),V.int i64 (dF (el4 n cs 2)),V.int i64 (dU (el4 n cs 2)),V.bool (dCa (el4 n cs 2))]
def zw_2(n:Nat)(cs:List V):=[V.str ((dK (el4 n cs 0))),V.str ((dG (el4 n cs 0))),V.nos 0 (dN (el4 n cs 0)),V.int i64 (dF (el4 n cs 0)),V.int i64 (dU (el4 n cs 0)),V.bool (dCa (el4 n cs 0)),V.str ((dK (el4 n cs 1))),V.str ((dG (el4 n cs 1))),V.nos 4 (dN (el4 n cs 1)),V.int i64 (dF (el4 n cs 1)),V.int i64 (dU (el4 n cs 1)),V.bool (dCa (el4 n cs 1))]
def zw_3(n:Nat)(cs:List V):=[V.str ((dK (el4 n cs 0))),V.str ((dG (el4 n cs 0))),V.nos 0 (dN (el4 n cs 0)),V.int i64 (dF (el4 n cs 0)),V.int i64 (dU (el4 n cs 0)),V.bool (dCa (el4 n cs 0))]
def zw_4(n:Nat)(cs:List V):=[Blk.ro true (strs (dL (el4 n cs 0))),Blk.dead,Blk.dead,Blk.dead,Blk.ro true (aF 4 (strs (dL (el4 n cs 1)))),Blk.dead,Blk.dead,Blk.dead,Blk.ro true (aF 8 (strs (dL (el4 n cs 2)))),Blk.dead,Blk.dead,Blk.dead,Blk.ro true (aF 12 (strs (dL (el4 n cs 3)))),Blk.dead,Blk.dead,Blk.row (zw_0 n cs) 32 6,Blk.dead]
def zw_5(n:Nat)(cs:List V):=[Blk.ro true (strs (dL (el4 n cs 0))),Blk.dead,Blk.dead,Blk.dead,Blk.ro true (aF 4 (strs (dL (el4 n cs 1)))),Blk.dead,Blk.dead,Blk.dead,Blk.ro true (aF 8 (strs (dL (el4 n cs 2)))),Blk.dead,Blk.dead,Blk.row (zw_1 n cs) 32 6,Blk.dead]
def zw_6(n:Nat):=(↑((ln4 n).toNat-0):Int)
def zw_7(n:Nat)(cs:List V):=[Blk.ro true (strs (dL (el4 n cs 0))),Blk.dead,Blk.dead,Blk.dead,Blk.ro true (aF 4 (strs (dL (el4 n cs 1)))),Blk.dead,Blk.dead,Blk.row (zw_2 n cs) 32 6,Blk.dead]
theorem chain_tree(x:Value)(n:Nat)(cs:List V)(R:V→St→Prop):runM Qq RD0 5 10 11 [.lst x n cs] (fun v st=>R v (visD v st))=
 (
 bif decide (0≤if 4<(↑n:Int)then 4 else(↑n:Int))then bif true&&(ln4 n).toNat.ble n then bif decide (0<(zw_6 n))then bif true&&decide (0<(zw_6
 n))then bif Nat.blt 0 (tk4 n cs).length then bif ar ((tk4 n cs).getD 0 (.bool false))then bif Nat.blt 512 (el4 n cs 0).length then R .nilSlice [.dead]
 else bif decE (el4 n cs 0)!=0 then R .nilSlice [.dead]else bif decide (1<(zw_6 n))then bif true&&decide (1<(zw_6 n))then bif Nat.blt 1 (tk4 n
 cs).length then bif ar ((tk4 n cs).getD 1 (.bool false))then bif Nat.blt 512 (el4 n cs 1).length then R (.slice 3 0 1 false 0 0) [.ro true (strs (dL
 (el4 n cs 0))),.dead,.dead,.row (zw_3 n cs) 32 6,.dead]else bif decE (el4 n cs 1)!=0 then R (.slice 3 0 1 false 0 0) [.ro true (strs (dL
 (el4 n cs 0))),.dead,.dead,.row (zw_3 n cs) 32 6,.dead]else bif decide (2<(zw_6 n))then bif true&&decide (2<(zw_6 n))then bif Nat.blt 2
 (tk4 n cs).length then bif ar ((tk4 n cs).getD 2 (.bool false))then bif Nat.blt 512 (el4 n cs 2).length then R (.slice 7 0 2 false 0 0) (zw_7 n cs)else
 bif decE (el4 n cs 2)!=0 then R (.slice 7 0 2 false 0 0) (zw_7 n cs)else bif decide (3<(zw_6 n))then bif true&&decide (3<(zw_6 n))then bif Nat.blt 3
 (tk4 n cs).length then bif ar ((tk4 n cs).getD 3 (.bool false))then bif Nat.blt 512 (el4 n cs 3).length then R (.slice 11 0 3 false 0 0) (zw_5 n cs)else
 bif decE (el4 n cs 3)!=0 then R (.slice 11 0 3 false 0 0) (zw_5 n cs)else bif decide (4<(zw_6 n))then bif true&&decide (4<(zw_6 n))then bif Nat.blt 4
 (tk4 n cs).length then bif ar ((tk4 n cs).getD 4 (.bool false))then bif Nat.blt 512 (el4 n cs 4).length then R (.slice 15 0 4 false 0 0) (zw_4 n cs)else
 bif decE (el4 n cs 4)!=0 then R (.slice 15 0 4 false 0 0) (zw_4 n cs)else False else False else False else False else R (.slice 15 0 4 false 0 0) [.ro
 true (strs (dL (el4 n cs 0))),.dead,.dead,.dead,.ro true (aF 4 (strs (dL (el4 n cs 1)))),.dead,.dead,.dead,.ro true (aF 8
 (strs (dL (el4 n cs 2)))),.dead,.dead,.dead,.ro true (aF 12 (strs (dL (el4 n cs 3)))),.dead,.dead,.row (zw_0 n cs) 32 6]else
 False else False else False else R (.slice 11 0 3 false 0 0) [.ro true (strs (dL (el4 n cs 0))),.dead,.dead,.dead,.ro true (aF 4 (strs
 (dL (el4 n cs 1)))),.dead,.dead,.dead,.ro true (aF 8 (strs (dL (el4 n cs 2)))),.dead,.dead,.row (zw_1 n cs) 32 6]else False else
 False else False else R (.slice 7 0 2 false 0 0) [.ro true (strs (dL (el4 n cs 0))),.dead,.dead,.dead,.ro true (aF 4 (strs (dL (el4 n cs
 1)))),.dead,.dead,.row (zw_2 n cs) 32 6]else False else False else False else R (.slice 3 0 1 false 0 0) [.ro true (strs (dL (el4 n cs 0))),
 .dead,.dead,.row (zw_3 n cs) 32 6]else False else False else False else R .nilSlice []else False else False):=by kernel_rfl
def jU:List (List UInt8)→List (List UInt8)
 |[]=>[]
 |s::r=>bif decE s==0 then s::jU r else[]
def pD(l:List (List UInt8)):List (List UInt8):=jU (l.take 4)
def rdG(l:List (List UInt8))(j:Nat):List UInt8:=l.getD j []
def rdA(s:List UInt8)(k:Nat)(r:List V):List V:=.str (dK s)::.str (dG s)::.nos k (dN s)::.int .i64 (dF s)::.int .i64 (dU s)::.bool (dCa s)::r
def rdO(l:List (List UInt8)):Nat→V×St
 |0=>(.nilSlice,[])
 |1=>(.slice 0 0 1 false 0 0,[.row (rdA (rdG l 0) 1 []) 32 6,.ro true (strs (dL (rdG l 0)))])
 |2=>(.slice 0 0 2 false 0 0,[.row (rdA (rdG l 0) 1 (rdA (rdG l 1) 2 [])) 32 6,.ro true (strs (dL (rdG l 0))),.ro true (strs (dL (rdG l 1)))])
 |3=>(.slice 0 0 3 false 0 0,[.row (rdA (rdG l 0) 1 (rdA (rdG l 1) 2 (rdA (rdG l 2) 3 []))) 32 6,.ro true (strs (dL (rdG l 0))),.ro true (strs (dL (rdG l 1))),.ro true (strs (dL (rdG l 2)))])
 |_=>(.slice 0 0 4 false 0 0,[.row (rdA (rdG l 0) 1 (rdA (rdG l 1) 2 (rdA (rdG l 2) 3 (rdA (rdG l 3) 4 [])))) 32 6,.ro true (strs (dL (rdG l 0))),.ro true (strs (dL (rdG l 1))),.ro true (strs (dL (rdG l 2))),.ro true (strs (dL (rdG l 3)))])
def rdN(l:List (List UInt8)):Nat:=(pD l).length
def readT:List V→Option (Qx)
 |[.lst _ n cs]=>some [(okS n cs&&Nat.beq (rdN (cs.map ab)) 0,rdO (cs.map ab) 0),(okS n cs&&Nat.beq (rdN (cs.map ab)) 1,rdO (cs.map ab) 1),(okS n cs&&Nat.beq (rdN (cs.map ab)) 2,rdO (cs.map ab) 2),(okS n cs&&Nat.beq (rdN (cs.map ab)) 3,rdO (cs.map ab) 3),(okS n cs,rdO (cs.map ab) 4)]
 |_=>none
theorem goodP_le:∀l:List (List UInt8),(jU l).length≤l.length
 |[]=>Nat.le_refl _
 |s::r=>by
  have:=goodP_le r;rw[jU];cases decE s==0 with
  |true=>simpa using this
  |false=>simp
theorem cJ(l:List (List UInt8)):rdN l≤4∧rdN l≤l.length:=by
 have:=goodP_le (l.take 4);rw[List.length_take]at this;unfold rdN pD;omega
theorem qq:∀(l:List (List UInt8)) (j:Nat),(∀i,i<j→∃s,l[i]?=some s∧decE s=0)→(l[j]?=none∨∃s,l[j]?=some s∧decE s≠0)→(jU l).length=j
 |[],j,h1,h2=>by
  cases j with
  |zero=>rfl
  |succ j=>obtain⟨s,hs,_⟩:=h1 0 (by omega);simp at hs
 |a::r,0,h1,h2=>by
  rcases h2 with h2|⟨s,hs,he⟩
  ·simp at h2
  ·simp only[ce,af]at hs;subst hs;have:(decE a==0)=false:=by simpa using he
   rw[jU,this];rfl
 |a::r,j+1,h1,h2=>by
  obtain⟨s,hs,he⟩:=h1 0 (by omega);simp only[ce,af]at hs;subst hs;have:(decE a==0)=true:=by simpa using he
  rw[jU,this,ae,bi,qq r j (fun i hi=>by have:=h1 (i+1) (by omega);simpa using this) (by simpa using h2)]
theorem pH(st:St):Fits 0 [V.nilSlice] [] [some V.nilSlice] st:=aV [.nilSlice] rfl _ rfl st
theorem pG(l:List (List UInt8))(st:St)(h0:st[0]?=some (.ro true (strs (dL (rdG l 0)))))(hr:st[3]?=some (.row (rdA (rdG l 0) 0 []) 32 6)):Fits 0 [(rdO l 1).1] (rdO l 1).2 [some (.slice 3 0 1 false 0 0)] st:=
 ⟨[3,0],[.slice 3 0 1 false 0 0],rfl,rfl,FitsM.of ⟨.inr ⟨.row (rdA (rdG l 0) 0 []) 32 6,.inl rfl,hr⟩,.inr ⟨.ro true (strs (dL (rdG l 0))),.inl (by simp only[renB,aC _ (br _)]),h0⟩,trivial⟩,by simp,fun i hi=>by omega⟩
theorem pF(l:List (List UInt8))(st:St)(h0:st[0]?=some (.ro true (strs (dL (rdG l 0)))))(h1:st[4]?=some (.ro true (strs (dL (rdG l 1)))))(hr:st[7]?=some (.row (rdA (rdG l 0) 0 (rdA (rdG l 1) 4 [])) 32 6)):Fits 0 [(rdO l 2).1] (rdO l 2).2 [some (.slice 7 0 2 false 0 0)] st:=
 ⟨[7,0,4],[.slice 7 0 2 false 0 0],rfl,rfl,FitsM.of ⟨.inr ⟨.row (rdA (rdG l 0) 0 (rdA (rdG l 1) 4 [])) 32 6,.inl rfl,hr⟩,.inr ⟨.ro true (strs (dL (rdG l 0))),.inl (by simp only[renB,aC _ (br _)]),h0⟩,.inr ⟨.ro true (strs (dL (rdG l 1))),.inl (by simp only[renB,aC _ (br _)]),h1⟩,trivial⟩,by simp,fun i hi=>by omega⟩
theorem pE(l:List (List UInt8))(st:St)(h0:st[0]?=some (.ro true (strs (dL (rdG l 0)))))(h1:st[4]?=some (.ro true (strs (dL (rdG l 1)))))(h2:st[8]?=some (.ro true (strs (dL (rdG l 2)))))(hr:st[11]?=some (.row (rdA (rdG l 0) 0 (rdA (rdG l 1) 4 (rdA (rdG l 2) 8 []))) 32 6)):Fits 0 [(rdO l 3).1] (rdO l 3).2 [some (.slice 11 0 3 false 0 0)] st:=
 ⟨[11,0,4,8],[.slice 11 0 3 false 0 0],rfl,rfl,FitsM.of ⟨.inr ⟨.row (rdA (rdG l 0) 0 (rdA (rdG l 1) 4 (rdA (rdG l 2) 8 []))) 32 6,.inl rfl,hr⟩,.inr ⟨.ro true (strs (dL (rdG l 0))),.inl (by simp only[renB,aC _ (br _)]),h0⟩,.inr ⟨.ro true (strs (dL (rdG l 1))),.inl (by simp only[renB,aC _ (br _)]),h1⟩,.inr ⟨.ro true (strs (dL (rdG l 2))),.inl (by simp only[renB,aC _ (br _)]),h2⟩,trivial⟩,by simp,fun i hi=>by omega⟩
theorem rd_fits4(l:List (List UInt8))(st:St)(h0:st[0]?=some (.ro true (strs (dL (rdG l 0)))))(h1:st[4]?=some (.ro true (strs (dL (rdG l 1)))))(h2:st[8]?=some (.ro true (strs (dL (rdG l 2)))))(h3:st[12]?=some (.ro true (strs (dL (rdG l 3)))))(hr:st[15]?=some (.row (rdA (rdG l 0) 0 (rdA (rdG l 1) 4 (rdA (rdG l 2) 8 (rdA (rdG l 3) 12 [])))) 32 6)):Fits 0 [(rdO l 4).1] (rdO l 4).2 [some (.slice 15 0 4 false 0 0)] st:=
 ⟨[15,0,4,8,12],[.slice 15 0 4 false 0 0],rfl,rfl,FitsM.of ⟨.inr ⟨.row (rdA (rdG l 0) 0 (rdA (rdG l 1) 4 (rdA (rdG l 2) 8 (rdA (rdG l 3) 12 [])))) 32 6,.inl rfl,hr⟩,.inr ⟨.ro true (strs (dL (rdG l 0))),.inl (by simp only[renB,aC _ (br _)]),h0⟩,.inr ⟨.ro true (strs (dL (rdG l 1))),.inl (by simp only[renB,aC _ (br _)]),h1⟩,.inr ⟨.ro true (strs (dL (rdG l 2))),.inl (by simp only[renB,aC _ (br _)]),h2⟩,.inr ⟨.ro true (strs (dL (rdG l 3))),.inl (by simp only[renB,aC _ (br _)]),h3⟩,trivial⟩,by simp,fun i hi=>by omega⟩
theorem fS(k:Nat):∀l:List (List UInt8),aF k (strs l)=strs l
 |[]=>rfl
 |a::r=>by
  have:=fS k r;unfold strs at this ⊢;simp only[List.map_cons,aF,V.shift,this]
theorem rd_at{l:List (List UInt8)}{j:Nat}(h:j<min 4 l.length):(l.take 4)[j]?=some (rdG l j):=by
 rw[List.getElem?_take,if_pos (by omega),List.getElem?_eq_getElem (by omega)];unfold rdG;rw[bX,List.getElem?_eq_getElem (by omega)];rfl
theorem cL{l:List (List UInt8)}{j:Nat}(hj:j≤min 4 l.length)(h:∀i,i<j→decE (rdG l i)=0)(h2:j=min 4 l.length∨decE (rdG l j)≠0):rdN l=j:=by
 unfold rdN pD;refine qq _ j (fun i hi=>⟨rdG l i,rd_at (by omega),h i hi⟩) ?_;by_cases hq:j=min 4 l.length
 ·exact .inl (by rw[List.getElem?_eq_none];rw[List.length_take];omega)
 ·rcases h2 with h2|h2
  ·exact absurd h2 hq
  ·exact .inr ⟨rdG l j,rd_at (by omega),h2⟩
theorem f7{s:List UInt8}(h:Nat.blt 512 s.length=true):decE s≠0:=by
 have:=aw h;have:decide ((s.length:Int)>512)=true:=am (by omega);unfold decE;rw[this,ae];decide
theorem readT_ok(args:List V)(L:Qx)(o:V×St)(h:readT args=some L)(ho:aL L=some o):FnSat Qq 11 args [] (Is o):=by
 unfold readT at h;split at h
 ·rename_i x n cs;cases h;cases hk:okS n cs with
  |false=>rw[hk]at ho;simp[aL]at ho
  |true=>
  rw[hk]at ho;simp only[aH]at ho;obtain⟨l,rfl,rfl,p2,p3⟩:=cn hk;rw[ai]at ho;have fin:∀j,rdN l=j→o=rdO l j:=by
   intro j hj;have h4:=(cJ l).1;rw[hj]at ho h4
   match j,h4,ho with
   |0,_,ho=>exact(Option.some.inj ho).symm
   |1,_,ho=>exact(Option.some.inj ho).symm
   |2,_,ho=>exact(Option.some.inj ho).symm
   |3,_,ho=>exact(Option.some.inj ho).symm
   |4,_,ho=>exact(Option.some.inj ho).symm
  refine visN_ok (lim:=5) (n:=10) aA RD0_ok ?_;refine cast (chain_tree x l.length (strs l) (fun u st=>Fits 0 [o.1] o.2 [some u] st)).symm ?_;unfold zw_7 zw_6 zw_5 zw_4 zw_3 zw_2 zw_1 zw_0;have hm:(ln4 l.length).toNat-0=min 4 l.length:=by unfold ln4;split<;>omega
  have c0:decide ((0:Int)≤if 4<(l.length:Int)then 4 else(l.length:Int))=true:=am (by split<;>omega);have c1:(true&&(ln4 l.length).toNat.ble l.length)=true:=by rw[aH];exact ag (by unfold ln4;split<;>omega)
  have T:tk4 l.length (strs l)=strs (l.take 4):=by
   unfold tk4;have:(if 4<(l.length:Int)then 4 else(l.length:Int)).toNat-0=min 4 l.length:=hm;rw[this,Nat.mul_one];unfold strs;rw[←List.map_take];congr 1;rcases Nat.le_total 4 l.length with h|h
   ·rw[Nat.min_eq_left h]
   ·rw[Nat.min_eq_right h,List.take_length,cz h]
  have gt:∀j,j<min 4 l.length→(strs (l.take 4)).getD j (.bool false)=.str (rdG l j):=fun j hj=>by
   rw[bX];unfold strs;rw[List.getElem?_map,rd_at hj];rfl
  have L1:∀j,j<min 4 l.length→Nat.blt j (strs (l.take 4)).length=true:=fun j hj=>ag (by rw[aE,List.length_take];omega);have S:∀j,j<min 4 l.length→ar ((strs (l.take 4)).getD j (.bool false))=true:=fun j hj=>by rw[gt j hj];rfl
  have E:∀j,j<min 4 l.length→el4 l.length (strs l) j=rdG l j:=fun j hj=>by unfold el4;rw[T,gt j hj];rfl
  have D:∀j:Nat,j<min 4 l.length→(true&&decide ((j:Int)<((min 4 l.length:Nat):Int)))=true:=fun j hj=>by rw[aH];exact am (by omega)
  have lt:∀j:Nat,decide ((j:Int)<((min 4 l.length:Nat):Int))=true→j<min 4 l.length:=fun j hj=>by have:=aN hj;omega
  have ge:∀j:Nat,decide ((j:Int)<((min 4 l.length:Nat):Int))=false→min 4 l.length≤j:=fun j hj=>by have:=bk hj;omega
  simp only[hm,c0,c1,T,fS,ae];refine ac (fun d0=>?_) (fun d0=>?_)
  rotate_left
  ·have q:=ge 0 d0;have cnt:rdN l=0:=cL (by omega) (fun i hi=>by omega) (.inl (by omega));have ho:=fin 0 cnt;subst ho;exact pH _
  have a0:=lt 0 d0;have E0:=E 0 a0;refine aa (D 0 a0) (aa (L1 0 a0) (aa (S 0 a0) ?_));simp only[E0];have stop0:decE (rdG l 0)≠0→o=rdO l 0:=fun hb=>fin 0 (cL (by omega) (fun i hi=>by omega) (.inr hb));refine ac (fun b0=>by have ho:=stop0 (f7 b0);subst ho;exact pH _) (fun _=>?_);refine ac (fun b0=>by have ho:=stop0 (by simpa using b0);subst ho;exact pH _) (fun b0=>?_);have g0:decE (rdG l 0)=0:=by simpa using b0
  refine ac (fun d1=>?_) (fun d1=>?_)
  rotate_left
  ·have q:=ge 1 d1;have cnt:rdN l=1:=cL (by omega) (fun i hi=>by
    match i,hi with
    |0,_=>exact g0) (.inl (by omega))
   have ho:=fin 1 cnt;subst ho;exact pG l _ rfl rfl
  have a1:=lt 1 d1;have E1:=E 1 a1;refine aa (D 1 a1) (aa (L1 1 a1) (aa (S 1 a1) ?_));simp only[E1];have stop1:decE (rdG l 1)≠0→o=rdO l 1:=fun hb=>fin 1 (cL (by omega) (fun i hi=>by
   match i,hi with
   |0,_=>exact g0) (.inr hb))
  refine ac (fun b1=>by have ho:=stop1 (f7 b1);subst ho;exact pG l _ rfl rfl) (fun _=>?_);refine ac (fun b1=>by have ho:=stop1 (by simpa using b1);subst ho;exact pG l _ rfl rfl) (fun b1=>?_);have g1:decE (rdG l 1)=0:=by simpa using b1
  refine ac (fun d2=>?_) (fun d2=>?_)
  rotate_left
  ·have q:=ge 2 d2;have cnt:rdN l=2:=cL (by omega) (fun i hi=>by
    match i,hi with
    |0,_=>exact g0
    |1,_=>exact g1) (.inl (by omega))
   have ho:=fin 2 cnt;subst ho;exact pF l _ rfl rfl rfl
  have a2:=lt 2 d2;have E2:=E 2 a2;refine aa (D 2 a2) (aa (L1 2 a2) (aa (S 2 a2) ?_));simp only[E2];have stop2:decE (rdG l 2)≠0→o=rdO l 2:=fun hb=>fin 2 (cL (by omega) (fun i hi=>by
   match i,hi with
   |0,_=>exact g0
   |1,_=>exact g1) (.inr hb))
  refine ac (fun b2=>by have ho:=stop2 (f7 b2);subst ho;exact pF l _ rfl rfl rfl) (fun _=>?_);refine ac (fun b2=>by have ho:=stop2 (by simpa using b2);subst ho;exact pF l _ rfl rfl rfl) (fun b2=>?_);have g2:decE (rdG l 2)=0:=by simpa using b2
  refine ac (fun d3=>?_) (fun d3=>?_)
  rotate_left
  ·have q:=ge 3 d3;have cnt:rdN l=3:=cL (by omega) (fun i hi=>by
    match i,hi with
    |0,_=>exact g0
    |1,_=>exact g1
    |2,_=>exact g2) (.inl (by omega))
   have ho:=fin 3 cnt;subst ho;exact pE l _ rfl rfl rfl rfl
  have a3:=lt 3 d3;have E3:=E 3 a3;refine aa (D 3 a3) (aa (L1 3 a3) (aa (S 3 a3) ?_));simp only[E3];have stop3:decE (rdG l 3)≠0→o=rdO l 3:=fun hb=>fin 3 (cL (by omega) (fun i hi=>by
   match i,hi with
   |0,_=>exact g0
   |1,_=>exact g1
   |2,_=>exact g2) (.inr hb))
  refine ac (fun b3=>by have ho:=stop3 (f7 b3);subst ho;exact pE l _ rfl rfl rfl rfl) (fun _=>?_);refine ac (fun b3=>by have ho:=stop3 (by simpa using b3);subst ho;exact pE l _ rfl rfl rfl rfl) (fun b3=>?_);have g3:decE (rdG l 3)=0:=by simpa using b3
  refine ac (fun d4=>absurd (lt 4 d4) (by omega)) (fun _=>?_);have ho:=fin 4 (cL (by omega) (fun i hi=>by
   match i,hi with
   |0,_=>exact g0
   |1,_=>exact g1
   |2,_=>exact g2
   |3,_=>exact g3) (.inl (by omega)))
  subst ho;exact rd_fits4 l _ rfl rfl rfl rfl rfl
 ·cases h
theorem i9(s:List UInt8):(dL s).length≤64:=by
 have key:∀c,decC s=some c→c.l.length≤64:=by
  intro c hc;unfold decC at hc;cases h1:fe s 48 with
  |false=>rw[h1]at hc;cases hc
  |true=>
   cases h2:(allE (av s)!=0)with
   |true=>rw[h1,h2]at hc;cases hc
   |false=>
    rw[h1,h2,ae,ak]at hc;unfold decT at hc;split at hc
    ·rename_i x0 x1 x2 x3 x4 x5 _;have hb:∀{α:Type} {b:Bool} {x y:Option α} {z:α},(bif b then x else y)=some z→(b=true∧x=some z)∨(b=false∧y=some z):=by
      intro α b x y z h;cases b
      ·exact .inr ⟨rfl,h⟩
      ·exact .inl ⟨rfl,h⟩
     rcases hb hc with⟨_,hc⟩|⟨_,hc⟩
     ·rcases hb hc with⟨_,hc⟩|⟨_,hc⟩
      ·rcases hb hc with⟨_,hc⟩|⟨_,hc⟩
       ·cases hc
       ·rcases hb hc with⟨_,hc⟩|⟨_,hc⟩
        ·rcases hb hc with⟨_,hc⟩|⟨_,hc⟩
         ·cases hc;rw[cg];exact fX x2.2
         ·cases hc
        ·cases hc
      ·cases hc
     ·cases hc
    ·cases hc
 unfold dL dCd decR;cases decide ((s.length:Int)>512)with
 |true=>simp
 |false=>
  rw[ak];cases hc:decC s with
  |none=>simp
  |some c=>exact key c hc
def crOf(s:List UInt8):CR:=⟨dK s,dG s,dL s,dF s,dU s,dCa s⟩
def bM(l:List (List UInt8)):List CR:=(pD l).map crOf
theorem su:∀(l:List (List UInt8)) (i:Nat),i<(jU l).length→(jU l)[i]?=l[i]?
 |[],i,h=>by simp[jU]at h
 |s::r,i,h=>by
  rw[jU]at h ⊢;cases hs:(decE s==0)with
  |false=>rw[hs]at h;simp at h
  |true=>
   rw[hs,ae]at h;rw[ae];cases i with
   |zero=>rfl
   |succ i=>simpa using su r i (by simpa using h)
theorem readS_get{l:List (List UInt8)}{i:Nat}(h:i<rdN l):(pD l)[i]?=some (rdG l i):=by
 have h1:=cJ l;unfold pD;rw[su _ _ h];exact rd_at (by omega)
theorem bT{l:List (List UInt8)}{j:Nat}(h:rdN l=j):bM l=(List.range j).map fun i=>crOf (rdG l i):=by
 apply List.ext_getElem?;intro i;unfold bM;rw[List.getElem?_map,List.getElem?_map];rcases Nat.lt_or_ge i j with hi|hi
 ·rw[readS_get (by omega),List.getElem?_range hi];rfl
 ·rw[List.getElem?_eq_none (l:=pD l) (by show rdN l≤i;omega),List.getElem?_eq_none (by simp;omega)];rfl
theorem nm_at{st:St}{k:Nat}{s:List UInt8}(h:st[k]?=some (.ro true (strs (dL s)))):nmOk st (.nos k (dN s))=true∧Vm.nmD st (.nos k (dN s))=dL s:=by
 have hv:bC st (.nos k (dN s))=some (true,dL s):=by
  unfold bC cQ dN;simp only[h,Nat.mul_one,aE];rw[cz (by rw[aE];exact Nat.le_refl _),bD,ai,aE,a9,ag (Nat.le_refl _)];rfl
 unfold nmOk Vm.nmD;rw[hv];exact⟨by show(true&&Nat.ble (dL s).length 9223372036854775807)=true;rw[aH];exact ag (by have:=i9 s;omega),rfl⟩
theorem dO{st:St}{k:Nat}{s:List UInt8}{r:List V}(h:st[k]?=some (.ro true (strs (dL s)))):isCr st (rdA s k r)=isCr st r∧crD st (rdA s k r)=crOf s::crD st r:=by
 obtain⟨h1,h2⟩:=nm_at h;refine⟨?_,?_⟩
 ·unfold isCr rdA;simp only[isCg,h1,ar,ao,de,decide_true,aH]
 ·unfold rdA crOf;simp only[crD,h2,ab,aq,ew]
theorem in_round(x:Value)(n:Nat)(cs:List V)(s:List UInt8)(i:Int)(R:Qz):al Qq T3 9 10 (ah 9) 111 26 [0,1,4,7,8] [.lst x n cs,.str s,.int .i64 0,.int .i64 n,.int .i64 i] [] R=
  (
 bif decide (i<(↑n:Int))then bif decide (0≤i)&&decide (i<(↑n:Int))then bif (i.toNat*1).blt cs.length then bif ar (cs.getD (i.toNat*1) (.bool false))
 then bif s==ab (cs.getD (i.toNat*1) (.bool false))then R .ret [some (.lst x n cs),some (.str s),some (.int i64 i),some (.int i64 (↑n
 :Int)),some (.int i64 i)] []else R .normal [some (.lst x n cs),some (.str s),some (.int i64 0),some (.int i64 (↑n:Int)),some
 (.int i64 (i64.wrap (i+1)))] []else False else False else False else R (.exit 0) [some (.lst x n cs),some (.str s),some (.int i64 0),
 some (.int i64 (↑n:Int)),some (.int i64 i)] []):=by kernel_rfl
structure IN where
 x:Value
 n:Nat
 cs:List V
 s:List UInt8
 i:Nat
def inV(y:IN):List V:=[.lst y.x y.n y.cs,.str y.s,.int .i64 0,.int .i64 y.n,.int .i64 y.i]
def inJ(_:IN):St:=[]
def iz(y:IN):Bool:=okS y.n y.cs&&Nat.ble y.i y.n
def inMu(y:IN):Nat:=y.n-y.i
def inDec:List (Option V)→St→Option IN
 |[some (.lst x n cs),some (.str s),some (.int .i64 0),some (.int .i64 _),some (.int .i64 0)],_=>some ⟨x,n,cs,s,0⟩
 |_,_=>none
def hasV(cs:List V)(s:List UInt8):Bool:=(cs.map ab).any (fun t=>s==t)
def ug(x:Value)(n:Nat)(cs:List V)(s:List UInt8)(b:Bool)(K:Exit→List V→St→Prop):Prop:=
 bif b then ∀i:Nat,K .ret [.lst x n cs,.str s,.int .i64 i,.int .i64 n,.int .i64 i] []else K (.exit 0) [.lst x n cs,.str s,.int .i64 0,.int .i64 n,.int .i64 n] []
def inOut:Asks IN:=fun y K=>ug y.x y.n y.cs y.s (hasV (y.cs.drop y.i) y.s) K
theorem in_roundOk(y:IN)(hx:iz y=true):al Qq T3 9 10 (ah 9) 111 26 [0,1,4,7,8] (inV y) (inJ y) (aD 0 iz inV inJ inMu inOut y):=by
 obtain⟨x,n,cs,s,i⟩:=y;unfold iz at hx;rw[ad]at hx;have p1:i≤n:=aw hx.2;have hx1:okS n cs=true:=hx.1;obtain⟨l,rfl,rfl,p2,p3⟩:=cn hx1;show al Qq T3 9 10 (ah 9) 111 26 [0,1,4,7,8] [.lst x l.length (strs l),.str s,.int .i64 0,.int .i64 l.length,.int .i64 i] [] _;rw[in_round];have ha:∀j,hasV ((strs l).drop j) s=(l.drop j).any fun t=>s==t:=fun j=>by
  unfold hasV;rw[List.map_drop,ai]
 have out:∀K,inOut ⟨x,l.length,strs l,s,i⟩ K→ug x l.length (strs l) s ((l.drop i).any fun t=>s==t) K:=fun K hK=>by
  have hK:ug x l.length (strs l) s (hasV ((strs l).drop i) s) K:=hK;rw[ha]at hK;exact hK
 cases hd:l.drop i with
 |nil=>
  have hi:=bY hd p1;rw[bH (show ¬((i:Int)<(l.length:Int)) by omega),ak];refine⟨_,[],fun K hK=>?_,aV [.lst x l.length (strs l),.str s,.int .i64 0,.int .i64 l.length,.int .i64 i] rfl _ rfl _⟩;have hK:=out K hK;rw[hd]at hK;rw[hi];exact hK
 |cons c r=>
  obtain⟨e1,e2,e3⟩:=bn hd;obtain⟨e4,e5⟩:=fY hd;have q1:decide ((i:Int)<(l.length:Int))=true:=am (by omega);have q2:decide ((0:Int)≤(i:Int))=true:=am (by omega);rw[q1,q2];simp only[bp,e4,e5,ar,ab,ae,Bool.and_true,show i64.wrap ((i:Int)+1)=((i+1:Nat):Int) by rw[IntWalk.i64_in _ ⟨by omega,by omega⟩];omega];cases hc:(s==c)with
  |true=>
   refine⟨_,[],fun K hK=>?_,aV [.lst x l.length (strs l),.str s,.int .i64 i,.int .i64 l.length,.int .i64 i] rfl _ rfl _⟩;have hK:=out K hK;rw[hd,List.any_cons,hc]at hK;exact hK i
  |false=>
   refine⟨⟨x,l.length,strs l,s,i+1⟩,?_,aV _ rfl _ rfl _,by simp only[inMu];omega,fun K hK=>?_⟩
   ·unfold iz;rw[ad];exact⟨hx1,ag (show i+1≤l.length by omega)⟩
   ·have hK:=out K hK;show ug x l.length (strs l) s (hasV ((strs l).drop (i+1)) s) K;rw[ha,e2];rw[hd,List.any_cons,hc,Bool.false_or]at hK;exact hK
def lkIN:Nat→Trans→Trans:=ba 26 (bK 0 (szOf Qq 111) [0,1,4,7,8] inDec iz inV inJ inOut) (ah 9)
theorem lkIN_ok:aQ Qq 0 lkIN 111:=by
 unfold lkIN;exact bB (aY 9 0 111) (by kernel_rfl) fun f st Q h=>bc (P:=Qq) (T:=T3) (k:=0) (lim:=9) (n:=10) (g:=111) (p0:=26) (lk:=ah 9) aA qS (bf 9 _ _) inMu in_roundOk h
def IN1:Tab:=⟨noT,noL,cI (aT 9) 111 0 lkIN⟩
theorem IN1_ok:TabOk3 Qq IN1:=⟨aJ,aK,bq (au 9) lkIN_ok⟩
theorem in_tree(x:Value)(n:Nat)(cs:List V)(s:List UInt8)(R:V→Prop):runW Qq IN1 9 10 92 [.lst x n cs,.str s] R=
  (
 Fits 0 [.lst x n cs,.str s,.int i64 0,.int i64 (↑n:Int),.int i64 0] [] [some (.lst x n cs),some (.str s),some (.int i64
 0),some (.int i64 (↑n:Int)),some (.int i64 0)] []∧bif iz {x:=x,n:=n,cs:=cs,s:=s,i:=0}then bif hasV cs s then ∀(i:Nat),R
 (.bool true)else R (.bool false)else False):=by kernel_rfl
theorem in_sat(x:Value)(l:List (List UInt8))(s:List UInt8)(hl:l.length≤9223372036854775807):FnSat Qq 92 [lstS x l,.str s] [] (Is (.bool (l.any fun t=>s==t),[])):=by
 refine ax (lim:=9) (n:=10) aA IN1_ok rfl rfl ?_;unfold lstS;rw[in_tree];have ha:hasV (strs l) s=l.any fun t=>s==t:=by unfold hasV;rw[ai]
 rw[ha];refine⟨aV _ rfl _ rfl _,aa (by unfold iz;rw[dH hl];exact ag (Nat.zero_le _)) ?_⟩;cases l.any fun t=>s==t with
 |false=>rfl
 |true=>intro _;rfl
def hasS(l:List (List UInt8))(s:List UInt8):Bool:=l.any fun t=>s==t
def inG:List V→St→Option (Qx)
 |[p,.str s],st=>match bC st p with
  |some (b,l)=>some [(b&&Nat.ble l.length 9223372036854775807,(.bool (hasS l s),st))]
  |none=>none
 |_,_=>none
theorem inG_ok(args:List V)(s:St)(l:Qx)(o:V×St)(h:inG args s=some l)(ho:aL l=some o):FnSat Qq 92 args s (Is o):=by
 unfold inG at h;split at h
 ·rename_i p t;split at h
  ·rename_i b ls hv;cases h;obtain⟨hb,rfl⟩:=aO ho;rw[ad]at hb;obtain⟨rfl,h1⟩:=hb;refine cx rfl fun B W0 w m rargs hr ha=>?_;obtain⟨a,r,q1,q2,rfl⟩:=aj ha;have hy:=cB hr hv q1;have q3:=bw (Ψ:=Frz.of w) (m':=[]) _ _ rfl q2;exact⟨[lstS a ls,.str t],@aI _ (Frz.of w) [] _ _ _ _ hy q3,@in_sat (Frz.of w) a ls t (aw h1)⟩
  ·cases h
 ·cases h
def AN0:Tab:=⟨noT,addS (addS (addS noL 43 iJ) 91 ot) 92 inG,aT 9⟩
theorem AN0_ok:TabOk3 Qq AN0:=⟨aJ,bP (bP (bP aK nS) linkG_ok) inG_ok,au 9⟩
def zz_1(cs:List V)(i:Int):=cs.getD (i.toNat*6+2) (V.bool false)
def zz_0(cs:List V)(i:Int):=[Blk.row [V.str (ab (cs.getD (i.toNat*6+0) (V.bool false))),V.str (ab (cs.getD (i.toNat*6+1) (V.bool false))),V.lst (xOfV (zz_1 cs i)) (nOfV (zz_1 cs i)) (ij (zz_1 cs i)),V.int i64 (aq (cs.getD (i.toNat*6+3) (V.bool false))),V.int i64 (aq (cs.getD (i.toNat*6+4) (V.bool false))),V.bool (ew (cs.getD (i.toNat*6+5) (V.bool false)))] 32 6]
def zz_2(x y:Value)(n m:Nat)(cs ds:List V)(now i:Int):=[some (V.lst x n cs),some (V.int i64 now),some (V.lst y m ds),some (V.bool false),some (V.lst x n cs),some (V.int i64 (↑n:Int)),some (V.int i64 i)]
def zz_3(i:Int):=i64.wrap (i+1)
theorem an_round(x:Value)(n:Nat)(cs:List V)(now:Int)(y:Value)(m:Nat)(ds:List V)(i:Int)(R:Qz):al Qq AN0 9 10 (ah 9) 44 26 [0,1,2,6,9,10,11] [.lst x n cs,.int .i64 now,.lst y m ds,.bool false,.lst x n cs,.int .i64 n,.int .i64 i] [] R=
 (
 bif decide (i<(↑n:Int))then bif decide (0≤i)&&decide (i<(↑n:Int))then bif (i.toNat*6+6).ble cs.length then bif ar (cs.getD (i.toNat*6+
 0) (.bool false))then bif ar (cs.getD (i.toNat*6+1) (.bool false))then bif iI (zz_1 cs i)then bif ao i64 (cs.getD (i.toNat*6+3)
 (.bool false))then bif ao i64 (cs.getD (i.toNat*6+4) (.bool false))then bif de (cs.getD (i.toNat*6+5) (.bool false))then bif
 (ij (zz_1 cs i)).length.beq (nOfV (zz_1 cs i)*1)&&((ij (zz_1 cs i)).all ar&&(ij (zz_1 cs i)).length.beq (nOfV (zz_1 cs i)))then bif !aS
 ((aq (cs.getD (i.toNat*6+3) (.bool false)))) ((aq (cs.getD (i.toNat*6+4) (.bool false)))) now then R .ret (zz_2 x y n m cs ds now i) (zz_0
 cs i)else bif decide (0≤if i64.wrap (i-1)>0 then i64.wrap (i-1)else 0)then bif decide (0≤i64.wrap (i+1))&&(decide (0≤
 i64.wrap (i+1))&&((if i64.wrap (i-1)>0 then i64.wrap (i-1)else 0).toNat.ble (zz_3 i).toNat&&((zz_3 i).toNat.ble (zz_3
 i).toNat&&(zz_3 i).toNat.ble n)))then bif (List.take (((zz_3 i).toNat-(if i64.wrap (i-1)>0 then i64.wrap (i-1)else 0).toNat)*6)
 (List.drop ((if i64.wrap (i-1)>0 then i64.wrap (i-1)else 0).toNat*6) cs)).length.beq (((zz_3 i).toNat-(if i64.wrap (i-1)>0
 then i64.wrap (i-1)else 0).toNat)*6)&&(isCr [] (List.take (((zz_3 i).toNat-(if i64.wrap (i-1)>0 then i64.wrap (i-1)else
 0).toNat)*6) (List.drop ((if i64.wrap (i-1)>0 then i64.wrap (i-1)else 0).toNat*6) cs))&&(crD [] (List.take (((zz_3 i).toNat-(if
 i64.wrap (i-1)>0 then i64.wrap (i-1)else 0).toNat)*6) (List.drop ((if i64.wrap (i-1)>0 then i64.wrap (i-1)else
 0).toNat*6) cs))).length.beq ((zz_3 i).toNat-(if i64.wrap (i-1)>0 then i64.wrap (i-1)else 0).toNat))&&(crD [] (List.take (((zz_3
 i).toNat-(if i64.wrap (i-1)>0 then i64.wrap (i-1)else 0).toNat)*6) (List.drop ((if i64.wrap (i-1)>0 then i64.wrap
 (i-1)else 0).toNat*6) cs))).length.ble 9223372036854775807 then bif !bW (crD [] (List.take (((zz_3 i).toNat-(if i64.wrap (i-1)>0 then
 i64.wrap (i-1)else 0).toNat)*6) (List.drop ((if i64.wrap (i-1)>0 then i64.wrap (i-1)else 0).toNat*6) cs)))then R .ret
 (zz_2 x y n m cs ds now i) (zz_0 cs i)else bif ds.length.beq (m*1)&&(ds.all ar&&ds.length.beq m)&&(List.map ab ds).length.ble
 9223372036854775807 then bif hasS (List.map ab ds) ((ab (cs.getD (i.toNat*6+1) (.bool false))))then R .ret [some (.lst x n cs),some (.int
 i64 now),some (.lst y m ds),some (.bool true),some (.lst x n cs),some (.int i64 (↑n:Int)),some (.int i64 i)] (zz_0 cs i)else
 R .normal [some (.lst x n cs),some (.int i64 now),some (.lst y m ds),some (.bool false),some (.lst x n cs),some (.int i64 (↑n:
 Int)),some (.int i64 (zz_3 i))] (zz_0 cs i)else False else False else False else False else False else False else False else False else False else
 False else False else False else False else R (.exit 0) (zz_2 x y n m cs ds now i) []):=by kernel_rfl
def si:Option CR→CR→Bool
 |none,_=>true
 |some a,c=>bW [a,c]
def dg(now:Int)(an:List (List UInt8)):Option CR→List CR→Bool
 |_,[]=>false
 |p,c::r=>aS c.f c.u now&&(si p c&&(hasS an c.g||dg now an (some c) r))
def jg(l:List CR)(i:Nat):Option CR:=if i=0 then none else l[i-1]?
structure AN where
 x:Value
 n:Nat
 cs:List V
 now:Int
 y:Value
 m:Nat
 ds:List V
 i:Nat
def anV(z:AN):List V:=[.lst z.x z.n z.cs,.int .i64 z.now,.lst z.y z.m z.ds,.bool false,.lst z.x z.n z.cs,.int .i64 z.n,.int .i64 z.i]
def anJ(_:AN):St:=[]
def oJ(z:AN):Bool:=okR z.n z.cs&&(okS z.m z.ds&&Nat.ble z.i z.n)
def anMu(z:AN):Nat:=z.n-z.i
def anDec:List (Option V)→St→Option AN
 |[some (.lst x n cs),some (.int .i64 now),some (.lst y m ds),some (.bool false),some (.lst _ _ _),some (.int .i64 _),some (.int .i64 0)],_=>some ⟨x,n,cs,now,y,m,ds,0⟩
 |_,_=>none
def oI(now:Int)(cs ds:List V)(i:Nat):Bool:=dg now (ds.map ab) (jg (crD [] cs) i) ((crD [] cs).drop i)
def uG(x:Value)(n:Nat)(cs:List V)(now:Int)(y:Value)(m:Nat)(ds:List V)(b:Bool)(K:Exit→List V→St→Prop):Prop:=
 bif b then ∀j:Int,K .ret [.lst x n cs,.int .i64 now,.lst y m ds,.bool true,.lst x n cs,.int .i64 n,.int .i64 j] []else
  (∀j:Int,K .ret [.lst x n cs,.int .i64 now,.lst y m ds,.bool false,.lst x n cs,.int .i64 n,.int .i64 j] [])∧∀j:Int,K (.exit 0) [.lst x n cs,.int .i64 now,.lst y m ds,.bool false,.lst x n cs,.int .i64 n,.int .i64 j] []
def anOut:Asks AN:=fun z K=>uG z.x z.n z.cs z.now z.y z.m z.ds (oI z.now z.cs z.ds z.i) K
theorem an_roundOk(z:AN)(hx:oJ z=true):al Qq AN0 9 10 (ah 9) 44 26 [0,1,2,6,9,10,11] (anV z) (anJ z) (aD 0 oJ anV anJ anMu anOut z):=by
 obtain⟨x,n,cs,now,y,m,ds,i⟩:=z;unfold oJ at hx;simp only[ad]at hx;have hx1:okR n cs=true:=hx.1;have hx2:okS m ds=true:=hx.2.1;have p1:i≤n:=aw hx.2.2;obtain⟨p2,p3,p4,p5⟩:=iZ hx1;obtain⟨an,rfl,rfl,p6,p7⟩:=cn hx2;show al Qq AN0 9 10 (ah 9) 44 26 [0,1,2,6,9,10,11] [.lst x n cs,.int .i64 now,.lst y an.length (strs an),.bool false,.lst x n cs,.int .i64 n,.int .i64 i] [] _;rw[an_round];unfold zz_3 zz_2 zz_0 zz_1;have out:∀K,anOut ⟨x,n,cs,now,y,an.length,strs an,i⟩ K→uG x n cs now y an.length (strs an) (dg now an (jg (crD [] cs) i) ((crD [] cs).drop i)) K:=fun K hK=>by
  have hK:uG x n cs now y an.length (strs an) (oI now cs (strs an) i) K:=hK;unfold oI at hK;rw[ai]at hK;exact hK
 cases hd:(crD [] cs).drop i with
 |nil=>
  have hi:=bY hd (by omega);rw[bH (show ¬((i:Int)<(n:Int)) by omega),ak];refine⟨_,[],fun K hK=>?_,aV [.lst x n cs,.int .i64 now,.lst y an.length (strs an),.bool false,.lst x n cs,.int .i64 n,.int .i64 i] rfl _ rfl _⟩;have hK:=out K hK;rw[hd]at hK;exact hK.2 i
 |cons c r=>
  obtain⟨e1,e2,e3⟩:=bn hd;have C:=oG p2 hd;obtain⟨xn,hn⟩:=C.l;have d1:decide ((i:Int)<(n:Int))=true:=am (by omega);have d2:decide ((0:Int)≤(i:Int))=true:=am (by omega);have l6:(i*6+6).ble cs.length=true:=ag (by omega);have w2:i64.wrap ((i:Int)+1)=((i+1:Nat):Int):=by rw[IntWalk.i64_in _ ⟨by omega,by omega⟩];omega
  have w1:(if i64.wrap ((i:Int)-1)>0 then i64.wrap ((i:Int)-1)else 0)=((i-1:Nat):Int):=by
   rw[IntWalk.i64_in _ ⟨by omega,by omega⟩];split<;>omega
  have d3:decide ((0:Int)≤((i-1:Nat):Int))=true:=am (by omega);have d4:decide ((0:Int)≤((i+1:Nat):Int))=true:=am (by omega);have d5:(i-1).ble (i+1)=true:=ag (by omega);have d6:(i+1).ble (i+1)=true:=ag (by omega);have d7:(i+1).ble n=true:=ag (by omega);obtain⟨g1,g2⟩:=qE [] (i-1) cs p2;obtain⟨g3,g4⟩:=j6 [] (i+1-(i-1)) _ g2;rw[g1]at g3;have hlen:(List.take ((i+1-(i-1))*6) (List.drop ((i-1)*6) cs)).length=(i+1-(i-1))*6:=by rw[List.length_take,List.length_drop];omega
  have hcl:(List.take (i+1-(i-1)) (List.drop (i-1) (crD [] cs))).length=i+1-(i-1):=by rw[List.length_take,List.length_drop];omega
  have g5:isCr [] (List.take ((i+1-(i-1))*6) (List.drop ((i-1)*6) cs))=true:=nH (fun v hv=>by unfold nmZ at hv;rw[ad]at hv;exact hv.2) _ g4;have q1:(i+1-(i-1)).ble 9223372036854775807=true:=ag (by omega);have q2:(strs an).length.beq (an.length*1)=true:=by rw[aE,Nat.mul_one];exact a9 _
  have q3:(strs an).length.beq an.length=true:=by rw[aE];exact a9 _
  have q4:an.length.ble 9223372036854775807=true:=ag p6;have q5:(strs c.l).length.beq (c.l.length*1)=true:=by rw[aE,Nat.mul_one];exact a9 _
  have q6:(strs c.l).length.beq c.l.length=true:=by rw[aE];exact a9 _
  simp only[d1,d2,bp,l6,C.k,C.g,hn,C.f,C.u,C.ca,ar,ab,iI,xOfV,nOfV,ij,ao,aq,de,ew,decide_true,w1,w2,d3,d4,d5,d6,d7,g3,g5,hlen,hcl,a9,q1,q2,q3,q4,q5,q6,bD,ai,bv,ae];have next:dg now an (jg (crD [] cs) i) (c::r)=(aS c.f c.u now&&(si (jg (crD [] cs) i) c&&(hasS an c.g||dg now an (some c) r))):=rfl
  have hlk:bW (List.take (i+1-(i-1)) (List.drop (i-1) (crD [] cs)))=si (jg (crD [] cs) i) c:=by
   unfold jg;by_cases h0:i=0
   ·subst h0;rw[if_pos rfl];have:(crD [] cs)=c::r:=by simpa using hd
    rw[this];rfl
   ·rw[if_neg h0];have hlt:i-1<(crD [] cs).length:=by omega
    rw[List.getElem?_eq_getElem hlt,List.drop_eq_getElem_cons hlt,show i-1+1=i by omega,hd,show i+1-(i-1)=2 by omega];rfl
  have hpr:jg (crD [] cs) (i+1)=some c:=by unfold jg;rw[if_neg (by omega)];exact e1
  have bad:dg now an (jg (crD [] cs) i) (c::r)=false→∀st,aD 0 oJ anV anJ anMu anOut ⟨x,n,cs,now,y,an.length,strs an,i⟩ .ret [some (.lst x n cs),some (.int .i64 now),some (.lst y an.length (strs an)),some (.bool false),some (.lst x n cs),some (.int .i64 n),some (.int .i64 i)] st:=fun h st=>by
   refine⟨_,[],fun K hK=>?_,aV [.lst x n cs,.int .i64 now,.lst y an.length (strs an),.bool false,.lst x n cs,.int .i64 n,.int .i64 i] rfl _ rfl _⟩;have hK:=out K hK;rw[hd,h]at hK;exact hK.1 i
  rw[hlk];refine ac (fun h1=>bad (by rw[Bool.not_eq_true']at h1;rw[next,h1];rfl) _) (fun h1=>?_);rw[Bool.not_eq_false']at h1;refine ac (fun h2=>bad (by rw[Bool.not_eq_true']at h2;rw[next,h1,h2];rfl) _) (fun h2=>?_);rw[Bool.not_eq_false']at h2;rw[h1,h2,aH,aH]at next
  refine ac (fun h3=>?_) (fun h3=>?_)
  ·rw[h3,Bool.true_or]at next
   refine⟨_,[],fun K hK=>?_,aV [.lst x n cs,.int .i64 now,.lst y an.length (strs an),.bool true,.lst x n cs,.int .i64 n,.int .i64 i] rfl _ rfl _⟩;have hK:=out K hK;rw[hd,next]at hK;exact hK i
  ·rw[h3,Bool.false_or]at next
   refine⟨⟨x,n,cs,now,y,an.length,strs an,i+1⟩,?_,aV _ rfl _ rfl _,by simp only[anMu];omega,fun K hK=>?_⟩
   ·unfold oJ;simp only[ad];exact⟨hx1,hx2,ag (show i+1≤n by omega)⟩
   ·have hK:=out K hK;rw[hd,next]at hK;show uG x n cs now y an.length (strs an) (oI now cs (strs an) (i+1)) K;unfold oI;rw[ai,hpr,e2];exact hK
def lkAN:Nat→Trans→Trans:=ba 26 (bK 0 (szOf Qq 44) [0,1,2,6,9,10,11] anDec oJ anV anJ anOut) (ah 9)
theorem lkAN_ok:aQ Qq 0 lkAN 44:=by
 unfold lkAN;exact bB (aY 9 0 44) (by kernel_rfl) fun f st Q h=>bc (P:=Qq) (T:=AN0) (k:=0) (lim:=9) (n:=10) (g:=44) (p0:=26) (lk:=ah 9) aA AN0_ok (bf 9 _ _) anMu an_roundOk h
def AN1:Tab:=⟨noT,noL,cI (aT 9) 44 0 lkAN⟩
theorem AN1_ok:TabOk3 Qq AN1:=⟨aJ,aK,bq (au 9) lkAN_ok⟩
theorem an_tree(x:Value)(n:Nat)(cs:List V)(now:Int)(y:Value)(m:Nat)(ds:List V)(R:V→Prop):runW Qq AN1 9 10 44 [.lst x n cs,.int .i64 now,.lst y m ds] R=
  (
 Fits 0 [.lst x n cs,.int i64 now,.lst y m ds,.bool false,.lst x n cs,.int i64 (↑n:Int),.int i64 0] [] [some (.lst x n cs),some
 (.int i64 now),some (.lst y m ds),some (.bool false),some (.lst x n cs),some (.int i64 (↑n:Int)),some (.int i64 0)] []∧bif oJ {x:=x,n:=n,cs:=cs,now:=now,y:=y,m:=m,ds:=ds,i:=0}
 then bif oI now cs ds 0 then ∀(j:Int),R (.bool true)else(∀(j:Int),R (.bool false))∧∀(j:Int),R (.bool false)else False):=by kernel_rfl
theorem an_sat(x:Value)(n:Nat)(cs:List V)(now:Int)(y:Value)(an:List (List UInt8))(h:okR n cs=true)(h2:an.length≤9223372036854775807):FnSat Qq 44 [.lst x n cs,.int .i64 now,lstS y an] [] (Is (.bool (dg now an none (crD [] cs)),[])):=by
 refine ax (lim:=9) (n:=10) aA AN1_ok rfl rfl ?_;unfold lstS;rw[an_tree];have e:oI now cs (strs an) 0=dg now an none (crD [] cs):=by unfold oI;rw[ai];rfl
 rw[e];refine⟨aV _ rfl _ rfl _,aa ?_ ?_⟩
 ·unfold oJ;simp only[ad];exact⟨h,dH h2,ag (Nat.zero_le _)⟩
 ·cases dg now an none (crD [] cs)with
  |true=>intro j;rfl
  |false=>exact⟨fun j=>rfl,fun j=>rfl⟩
def anG:List V→St→Option (Qx)
 |[p,.int .i64 now,q],st=>match gV st p,bC st q with
  |some (b,l),some (b',an)=>some [(b&&(b'&&(Nat.ble l.length 9223372036854775807&&Nat.ble an.length 9223372036854775807)),(.bool (dg now an none l),st))]
  |_,_=>none
 |_,_=>none
theorem anG_ok(args:List V)(s:St)(l:Qx)(o:V×St)(h:anG args s=some l)(ho:aL l=some o):FnSat Qq 44 args s (Is o):=by
 unfold anG at h;split at h
 ·rename_i p now q;split at h
  ·rename_i b ls b' an hv hv';cases h;obtain⟨hb,rfl⟩:=aO ho;simp only[ad]at hb;obtain⟨rfl,rfl,h1,h2⟩:=hb;refine cx rfl fun B W0 w m rargs hr ha=>?_;obtain⟨a,r,q1,q2,rfl⟩:=aj ha;obtain⟨a2,r2,q3,q4,rfl⟩:=aj q2;obtain⟨a3,r3,q5,q6,rfl⟩:=aj q4;obtain⟨L,e1,e2,e3⟩:=jC hr hv q1;have hy:=cB hr hv' q5;have q7:=bJ (Ψ:=Frz.of w) (m':=[]) _ _ rfl q3;have q8:=bw (Ψ:=Frz.of w) (m':=[]) _ _ rfl q6;have hl:L.length≤9223372036854775807:=by rw[←cg (f:=(·.c)),e1];exact aw h1
   have:=@an_sat (Frz.of w) a L.length (crs L) now a3 an (pO hl e3) (aw h2);rw[ju,e1]at this;exact⟨[lstR a L,.int .i64 now,lstS a3 an],@aI _ (Frz.of w) [] _ _ _ _ e2 (@aI _ (Frz.of w) [] _ _ _ _ q7 (@aI _ (Frz.of w) [] _ _ _ _ hy q8)),this⟩
  ·cases h
 ·cases h
end Go.Proofs.YtebkeppoicllmaaGreatDoor
namespace Go.Proofs.YtebkeppoicllmaaGreatDoor
open Go.IntKind (u8 u16 u32 u64 i8 i16 i32 i64)
open Go Go.Vm Go.RowKit
variable [Φ:Frz]
def JG0:Tab:=⟨addT noT 11 readT,addS (addS (addS noL 43 iJ) 40 hostG) 44 anG,aT 9⟩
theorem JG0_ok:TabOk3 Qq JG0:=⟨aR aJ readT_ok,bP (bP (bP aK nS) qo) anG_ok,au 9⟩
def zA_0(cs:List V):=rdG (List.map ab cs) 0
def zA_1(cs:List V):=List.take (dN (zA_0 cs)*1) (strs (dL (zA_0 cs)))
def zA_2(cs:List V):=rdG (List.map ab cs) 1
def zA_5(cs:List V):=rdG (List.map ab cs) 2
def zA_9(cs:List V):=rdG (List.map ab cs) 3
def zA_3(cs:List V):=[V.str (dK (zA_0 cs)),V.str (dG (zA_0 cs)),V.nos 1 (dN (zA_0 cs)),V.int i64 (dF (zA_0 cs)),V.int i64 (dU (zA_0 cs)),V.bool (dCa (zA_0 cs)),V.str (dK (zA_2 cs)),V.str (dG (zA_2 cs)),V.nos 2 (dN (zA_2 cs)),V.int i64 (dF (zA_2 cs)),V.int i64 (dU (zA_2 cs)),V.bool (dCa (zA_2 cs)),V.str (dK (zA_5 cs)),V.str (dG (zA_5 cs)),V.nos 3 (dN (zA_5 cs)),V.int i64 (dF (zA_5 cs)),V.int i64 (dU (zA_5 cs)),V.bool (dCa (zA_5 cs)),V.str (dK (zA_9 cs)),V.str (dG (zA_9 cs)),V.nos 4 (dN (zA_9 cs)),V.int i64 (dF (zA_9 cs)),V.int i64 (dU (zA_9 cs)),V.bool (dCa (zA_9 cs))]
def zA_4(cs:List V):=[V.str (dK (zA_0 cs)),V.str (dG (zA_0 cs)),V.nos 1 (dN (zA_0 cs)),V.int i64 (dF (zA_0 cs)),V.int i64 (dU (zA_0 cs)),V.bool (dCa (zA_0 cs)),V.str (dK (zA_2 cs)),V.str (dG (zA_2 cs)),V.nos 2 (dN (zA_2 cs)),V.int i64 (dF (zA_2 cs)),V.int i64 (dU (zA_2 cs)),V.bool (dCa (zA_2 cs)),V.str (dK (zA_5 cs)),V.str (dG (zA_5 cs)),V.nos 3 (dN (zA_5 cs)),V.int i64 (dF (zA_5 cs)),V.int i64 (dU (zA_5 cs)),V.bool (dCa (zA_5 cs))]
def zA_6(cs:List V):=(zA_1 cs).all ar&&(zA_1 cs).length.beq (dN (zA_0 cs))
def zA_7(m:Nat)(ds:List V):=ds.length.beq (m*1)&&(ds.all ar&&ds.length.beq m)&&(true&&(List.map ab ds).length.ble 9223372036854775807)
def zA_8(cs:List V):=[V.str (dK (zA_0 cs)),V.str (dG (zA_0 cs)),V.nos 1 (dN (zA_0 cs)),V.int i64 (dF (zA_0 cs)),V.int i64 (dU (zA_0 cs)),V.bool (dCa (zA_0 cs)),V.str (dK (zA_2 cs)),V.str (dG (zA_2 cs)),V.nos 2 (dN (zA_2 cs)),V.int i64 (dF (zA_2 cs)),V.int i64 (dU (zA_2 cs)),V.bool (dCa (zA_2 cs))]
def zA_10(cs:List V):=[V.str (dK (zA_0 cs)),V.str (dG (zA_0 cs)),V.nos 1 (dN (zA_0 cs)),V.int i64 (dF (zA_0 cs)),V.int i64 (dU (zA_0 cs)),V.bool (dCa (zA_0 cs))]
theorem jg_tree(x:Value)(n:Nat)(cs:List V)(h:List UInt8)(now:Int)(y:Value)(m:Nat)(ds:List V)(R:V→Prop):runW Qq JG0 9 10 13 [.lst x n cs,.str h,.int .i64 now,.lst y m ds] R=
 (
 bif okS n cs&&(rdN (List.map ab cs)).beq 0 then R (.int u8 3)else bif okS n cs&&(rdN (List.map ab cs)).beq 1 then bif (dN (zA_0 cs)*
 1).ble (strs (dL (zA_0 cs))).length&&(zA_6 cs)then bif !aS (dF (zA_0 cs)) (dU (zA_0 cs)) now then R (.int u8 1)else bif (dN (zA_0 cs)*1).ble
 (strs (dL (zA_0 cs))).length&&(zA_6 cs)&&(List.map ab (zA_1 cs)).length.ble 9223372036854775807 then bif !hasH (List.map ab (zA_1 cs)) h then R
 (.int u8 2)else bif true&&(isCr [.row (zA_10 cs) 32 6,.ro true (strs (dL (zA_0 cs)))] (zA_10 cs)&&true)&&(zA_7 m ds)then bif !dg now
 (List.map ab ds) none
 [{k:=(dK (zA_0 cs)),g:=(dG (zA_0 cs)),l:=List.map ab (zA_1 cs),f:=dF (zA_0 cs),u:=dU (zA_0 cs),ca:=dCa (zA_0 cs)}]then R (.int
 u8 3)else R (.int u8 0)else False else False else False else bif okS n cs&&(rdN (List.map ab cs)).beq 2 then bif (dN (zA_0 cs)*1).ble
 (strs (dL (zA_0 cs))).length&&(zA_6 cs)then bif !aS (dF (zA_0 cs)) (dU (zA_0 cs)) now then R (.int u8 1)else bif (dN (zA_0 cs)*1).ble (strs
 (dL (zA_0 cs))).length&&(zA_6 cs)&&(List.map ab (zA_1 cs)).length.ble 9223372036854775807 then bif !hasH (List.map ab (zA_1 cs)) h then R (.int
 u8 2)else bif true&&(isCr [.row (zA_8 cs) 32 6,.ro true (strs (dL (zA_0 cs))),.ro true (strs (dL (zA_2 cs)))] (zA_8 cs)&&true)&&(zA_7 m
 ds)then bif !dg now (List.map ab ds) none
 [{k:=(dK (zA_0 cs)),g:=(dG (zA_0 cs)),l:=List.map ab (zA_1 cs),f:=dF (zA_0 cs),u:=dU (zA_0 cs),ca:=dCa (zA_0 cs)},
 {k:=(dK (zA_2 cs)),g:=(dG (zA_2 cs)),l:=List.map ab (List.take (dN (zA_2 cs)*1) (strs (dL (zA_2 cs)))),f:=dF (zA_2 cs),u:=dU (zA_2 cs),ca:=dCa (zA_2 cs)}]
 then R (.int u8 3)else R (.int u8 0)else False else False else False else bif okS n cs&&(rdN (List.map ab cs)).beq 3 then bif (dN (zA_0
 cs)*1).ble (strs (dL (zA_0 cs))).length&&(zA_6 cs)then bif !aS (dF (zA_0 cs)) (dU (zA_0 cs)) now then R (.int u8 1)else bif (dN (zA_0 cs)*
 1).ble (strs (dL (zA_0 cs))).length&&(zA_6 cs)&&(List.map ab (zA_1 cs)).length.ble 9223372036854775807 then bif !hasH (List.map ab (zA_1 cs)) h then
 R (.int u8 2)else bif true&&(isCr [.row (zA_4 cs) 32 6,.ro true (strs (dL (zA_0 cs))),.ro true (strs (dL (zA_2 cs))),.ro true (strs
 (dL (zA_5 cs)))] (zA_4 cs)&&true)&&(zA_7 m ds)then bif !dg now (List.map ab ds) none
 [{k:=(dK (zA_0 cs)),g:=(dG (zA_0 cs)),l:=List.map ab (zA_1 cs),f:=dF (zA_0 cs),u:=dU (zA_0 cs),ca:=dCa (zA_0 cs)},
 {k:=(dK (zA_2 cs)),g:=(dG (zA_2 cs)),l:=List.map ab (List.take (dN (zA_2 cs)*1) (strs (dL (zA_2 cs)))),f:=dF (zA_2 cs),u:=dU (zA_2 cs),ca:=dCa (zA_2 cs)},
 {k:=(dK (zA_5 cs)),g:=(dG (zA_5 cs)),l:=List.map ab (List.take (dN (zA_5 cs)*1) (strs (dL (zA_5 cs)))),f:=dF (zA_5 cs),u:=dU (zA_5 cs),ca:=dCa (zA_5 cs)}]
 then R (.int u8 3)else R (.int u8 0)else False else False else False else bif okS n cs then bif (dN (zA_0 cs)*1).ble (strs (dL (zA_0
 cs))).length&&(zA_6 cs)then bif !aS (dF (zA_0 cs)) (dU (zA_0 cs)) now then R (.int u8 1)else bif (dN (zA_0 cs)*1).ble (strs (dL (zA_0
 cs))).length&&(zA_6 cs)&&(List.map ab (zA_1 cs)).length.ble 9223372036854775807 then bif !hasH (List.map ab (zA_1 cs)) h then R (.int u8 2)
 else bif true&&(isCr [.row (zA_3 cs) 32 6,.ro true (strs (dL (zA_0 cs))),.ro true (strs (dL (zA_2 cs))),.ro true (strs (dL (zA_5 cs))),.ro
 true (strs (dL (zA_9 cs)))] (zA_3 cs)&&true)&&(zA_7 m ds)then bif !dg now (List.map ab ds) none
 [{k:=(dK (zA_0 cs)),g:=(dG (zA_0 cs)),l:=List.map ab (zA_1 cs),f:=dF (zA_0 cs),u:=dU (zA_0 cs),ca:=dCa (zA_0 cs)},
 {k:=(dK (zA_2 cs)),g:=(dG (zA_2 cs)),l:=List.map ab (List.take (dN (zA_2 cs)*1) (strs (dL (zA_2 cs)))),f:=dF (zA_2 cs),u:=dU (zA_2 cs),ca:=dCa (zA_2 cs)},
 {k:=(dK (zA_5 cs)),g:=(dG (zA_5 cs)),l:=List.map ab (List.take (dN (zA_5 cs)*1) (strs (dL (zA_5 cs)))),f:=dF (zA_5 cs),u:=dU (zA_5 cs),ca:=dCa (zA_5 cs)},
 {k:=(dK (zA_9 cs)),g:=(dG (zA_9 cs)),l:=List.map ab (List.take (dN (zA_9 cs)*1) (strs (dL (zA_9 cs)))),f:=dF (zA_9 cs),u:=dU (zA_9 cs),ca:=dCa (zA_9 cs)}]
 then R (.int u8 3)else R (.int u8 0)else False else False else False else False):=by kernel_rfl
def dc(h:List UInt8)(now:Int)(an:List (List UInt8)):List CR→Int
 |[]=>3
 |c::r=>bif !aS c.f c.u now then 1 else bif !hasH c.l h then 2 else bif !dg now an none (c::r)then 3 else 0
section
variable {h:List UInt8} {now:Int} {an:List (List UInt8)} {c:CR} {r:List CR}
theorem gB(h1:(!aS c.f c.u now)=true):dc h now an (c::r)=1:=by rw[dc,h1];rfl
theorem gA(h1:(!aS c.f c.u now)=false)(h2:(!hasH c.l h)=true):dc h now an (c::r)=2:=by rw[dc,h1,h2];rfl
theorem gz(h1:(!aS c.f c.u now)=false)(h2:(!hasH c.l h)=false)(h3:(!dg now an none (c::r))=true):dc h now an (c::r)=3:=by rw[dc,h1,h2,h3];rfl
theorem gC(h1:(!aS c.f c.u now)=false)(h2:(!hasH c.l h)=false)(h3:(!dg now an none (c::r))=false):dc h now an (c::r)=0:=by rw[dc,h1,h2,h3];rfl
end
theorem judge_sat(x:Value)(l:List (List UInt8))(h:List UInt8)(now:Int)(y:Value)(an:List (List UInt8))(h1:l.length≤9223372036854775807)(h2:an.length≤9223372036854775807):
  FnSat Qq 13 [lstS x l,.str h,.int .i64 now,lstS y an] [] (Is (.int .u8 (dc h now an (bM l)),[])):=by
 refine ax (lim:=9) (n:=10) aA JG0_ok rfl rfl ?_;unfold lstS;rw[jg_tree,ai,dH h1];unfold zA_10 zA_8 zA_7 zA_6 zA_4 zA_3 zA_9 zA_5 zA_2 zA_1 zA_0;have q1:∀s,(dN s*1).ble (strs (dL s)).length=true:=fun s=>by rw[aE,Nat.mul_one];exact ag (Nat.le_refl _)
 have q2:∀s,List.take (dN s*1) (strs (dL s))=strs (dL s):=fun s=>cz (by rw[aE,Nat.mul_one];exact Nat.le_refl _);have q3:∀s,(strs (dL s)).length.beq (dN s)=true:=fun s=>by rw[aE];exact a9 _
 have q4:∀s,(dL s).length.ble 9223372036854775807=true:=fun s=>ag (by have:=i9 s;omega);have q5:(strs an).length.beq (an.length*1)=true:=by rw[aE,Nat.mul_one];exact a9 _
 have q6:(strs an).length.beq an.length=true:=by rw[aE];exact a9 _
 have q7:an.length.ble 9223372036854775807=true:=ag h2;simp only[q1,q2,q3,q4,q5,q6,q7,bD,ai,aH,Bool.and_true,bv,ae];have h4:=(cJ l).1;rcases(by omega:rdN l=0∨rdN l=1∨rdN l=2∨rdN l=3∨rdN l=4)with hj|hj|hj|hj|hj
 ·have hR:bM l=[]:=bT hj;rw[hR,hj];rfl
 ·have hR:bM l=[crOf (rdG l 0)]:=bT hj;rw[hR,hj,show Nat.beq 1 0=false from rfl,ak,show Nat.beq 1 1=true from rfl,ae];refine ac (fun a=>congrArg (V.int .u8) (gB (c:=crOf (rdG l 0)) a).symm) (fun a=>?_);refine ac (fun b=>congrArg (V.int .u8) (gA (c:=crOf (rdG l 0)) a b).symm) (fun b=>?_);refine aa (by show isCr _ (rdA (rdG l 0) 1 [])=true;exact((dO (k:=1) (s:=rdG l 0) rfl).1.trans rfl)) ?_;exact ac (fun d=>congrArg (V.int .u8) (gz (c:=crOf (rdG l 0)) a b d).symm) (fun d=>congrArg (V.int .u8) (gC (c:=crOf (rdG l 0)) a b d).symm)
 ·have hR:bM l=[crOf (rdG l 0),crOf (rdG l 1)]:=bT hj;rw[hR,hj,show Nat.beq 2 0=false from rfl,ak,show Nat.beq 2 1=false from rfl,ak,show Nat.beq 2 2=true from rfl,ae];refine ac (fun a=>congrArg (V.int .u8) (gB (c:=crOf (rdG l 0)) a).symm) (fun a=>?_);refine ac (fun b=>congrArg (V.int .u8) (gA (c:=crOf (rdG l 0)) a b).symm) (fun b=>?_);refine aa (by show isCr _ (rdA (rdG l 0) 1 (rdA (rdG l 1) 2 []))=true;exact((dO (k:=1) (s:=rdG l 0) rfl).1.trans ((dO (k:=2) (s:=rdG l 1) rfl).1.trans rfl))) ?_;exact ac (fun d=>congrArg (V.int .u8) (gz (c:=crOf (rdG l 0)) a b d).symm) (fun d=>congrArg (V.int .u8) (gC (c:=crOf (rdG l 0)) a b d).symm)
 ·have hR:bM l=[crOf (rdG l 0),crOf (rdG l 1),crOf (rdG l 2)]:=bT hj;rw[hR,hj,show Nat.beq 3 0=false from rfl,ak,show Nat.beq 3 1=false from rfl,ak,show Nat.beq 3 2=false from rfl,ak,show Nat.beq 3 3=true from rfl,ae];refine ac (fun a=>congrArg (V.int .u8) (gB (c:=crOf (rdG l 0)) a).symm) (fun a=>?_);refine ac (fun b=>congrArg (V.int .u8) (gA (c:=crOf (rdG l 0)) a b).symm) (fun b=>?_);refine aa (by show isCr _ (rdA (rdG l 0) 1 (rdA (rdG l 1) 2 (rdA (rdG l 2) 3 [])))=true;exact((dO (k:=1) (s:=rdG l 0) rfl).1.trans ((dO (k:=2) (s:=rdG l 1) rfl).1.trans ((dO (k:=3) (s:=rdG l 2) rfl).1.trans rfl)))) ?_;exact ac (fun d=>congrArg (V.int .u8) (gz (c:=crOf (rdG l 0)) a b d).symm) (fun d=>congrArg (V.int .u8) (gC (c:=crOf (rdG l 0)) a b d).symm)
 ·have hR:bM l=[crOf (rdG l 0),crOf (rdG l 1),crOf (rdG l 2),crOf (rdG l 3)]:=bT hj;rw[hR,hj,show Nat.beq 4 0=false from rfl,ak,show Nat.beq 4 1=false from rfl,ak,show Nat.beq 4 2=false from rfl,ak,show Nat.beq 4 3=false from rfl,ak];refine ac (fun a=>congrArg (V.int .u8) (gB (c:=crOf (rdG l 0)) a).symm) (fun a=>?_);refine ac (fun b=>congrArg (V.int .u8) (gA (c:=crOf (rdG l 0)) a b).symm) (fun b=>?_);refine aa (by show isCr _ (rdA (rdG l 0) 1 (rdA (rdG l 1) 2 (rdA (rdG l 2) 3 (rdA (rdG l 3) 4 []))))=true;exact((dO (k:=1) (s:=rdG l 0) rfl).1.trans ((dO (k:=2) (s:=rdG l 1) rfl).1.trans ((dO (k:=3) (s:=rdG l 2) rfl).1.trans ((dO (k:=4) (s:=rdG l 3) rfl).1.trans rfl))))) ?_;exact ac (fun d=>congrArg (V.int .u8) (gz (c:=crOf (rdG l 0)) a b d).symm) (fun d=>congrArg (V.int .u8) (gC (c:=crOf (rdG l 0)) a b d).symm)
end Go.Proofs.YtebkeppoicllmaaGreatDoor
namespace Go.Proofs.YtebkeppoicllmaaGreatDoor
open Go.IntKind (u8 u16 u32 u64 i8 i16 i32 i64)
open Go Go.Vm Go.RowKit
variable [Φ:Frz]
def RS0:Tab:=⟨noT,noL,aT 18⟩
theorem uP:TabOk3 Qq RS0:=⟨aJ,aK,au 18⟩
theorem rrot_tree(x n:Int)(R:V→Prop):runW Qq RS0 9 10 215 [.int .u32 x,.int .u64 n] R=
  (
 bif decide (0≤n)then bif decide (0≤u64.wrap (32-n))then R (.int u32 (u32.wrap (↑(BitVec.ofInt 32 (x.fdiv (2^min n.toNat 32))|||
 BitVec.ofInt 32 (u32.wrap (x*2^min (u64.wrap (32-n)).toNat 32))).toNat:Int)))else False else False):=by kernel_rfl
def lookR(g:Nat)(lk:Nat→Trans→Trans)(args:List V)(st:St)(R:V→St→Prop):Prop:=fnK Qq (cqT Qq RS0 9 10) (KG Qq RS0 9 10) lk g args st R
theorem lookR_ok{g:Nat}{lk:Nat→Trans→Trans}{args:List V}{st:St}{R:V→St→Prop}(hl:aQ Qq st.length lk g)(h:lookR g lk args st R):FnSat Qq g args st R:=
 kB aA (lV aA uP 9 10) (oL aA uP 10) hl h
theorem rot_u(x n:Int)(h0:0<n)(h1:n<32):rotI x n=u32.wrap (((BitVec.ofInt 32 (x.fdiv (2^min n.toNat 32))|||BitVec.ofInt 32 (u32.wrap (x*2^min (u64.wrap (32-n)).toNat 32))).toNat:Nat):Int):=by
 have hn:n=1∨n=2∨n=3∨n=4∨n=5∨n=6∨n=7∨n=8∨n=9∨n=10∨n=11∨n=12∨n=13∨n=14∨n=15∨n=16∨n=17∨n=18∨n=19∨n=20∨n=21∨n=22∨n=23∨n=24∨n=25∨n=26∨n=27∨n=28∨n=29∨n=30∨n=31:=by omega
 unfold rotI;rcases hn with h|h|h|h|h|h|h|h|h|h|h|h|h|h|h|h|h|h|h|h|h|h|h|h|h|h|h|h|h|h|h<;>(subst h;rw[BitVec.or_comm];rfl)
def rrotT(F:Int→Int→Int):List V→Option (Qx)
 |[.int .u32 x,.int .u64 n]=>some [(decide (0<n)&&decide (n<32),(.int .u32 (F x n),[]))]
 |_=>none
theorem rrot_ok(args:List V)(l:Qx)(o:V×St)(h:rrotT rotI args=some l)(ho:aL l=some o):FnSat Qq 215 args [] (Is o):=by
 unfold rrotT at h;split at h
 ·rename_i x n;cases h;cases hk:(decide (0<n)&&decide (n<32))with
  |false=>rw[hk]at ho;cases ho
  |true=>
  rw[hk]at ho;cases ho;rw[ad]at hk;have h0:=aN hk.1;have h1:=aN hk.2;refine ax (lim:=9) (n:=10) aA uP rfl rfl ?_;rw[rrot_tree];have h2:=IntWalk.u64_in (32-n) ⟨by omega,by omega⟩;rw[am (by omega:(0:Int)≤n),am (by rw[h2];omega:(0:Int)≤u64.wrap (32-n))];rw[ae,ae,rot_u x n h0 h1]
 ·cases h
def nW(W:Nat→Int):List V:=[.int .u32 (W 0),.int .u32 (W 1),.int .u32 (W 2),.int .u32 (W 3),.int .u32 (W 4),.int .u32 (W 5),.int .u32 (W 6),.int .u32 (W 7),.int .u32 (W 8),.int .u32 (W 9),.int .u32 (W 10),.int .u32 (W 11),.int .u32 (W 12),.int .u32 (W 13),.int .u32 (W 14),.int .u32 (W 15)]
def wdsT(OB:List V→Nat→Bool)(WB:List V→Nat→Nat→Int):List V→St→Option (Qx)
 |[.slice 0 off n false c z],[.ro false la]=>some [(Nat.beq n 64&&OB la off,(.slice 0 0 16 false 0 0,[.row (nW (WB la off)) 173 1]))]
 |_,_=>none
def ckR(la:List V)(off:Nat)(P:Prop):Nat→Nat→Prop
 |0,_=>P
 |k+1,i=>bif (off+i).blt la.length then bif ao .u8 (la.getD (off+i) (.bool false))then ckR la off P k (i+1)else False else False
theorem rwds_tree(la:List V)(off c z:Nat)(R:V→St→Prop):lookR 214 (ah 18) [.slice 0 off 64 false c z] [.ro false la] (fun u st=>R u (vis u st))=ckR la off (R (.slice 32 0 16 false 0 0) (List.replicate 32 .dead++[.row (nW (gU la off)) 173 1])) 64 0:=by kernel_rfl
theorem sI{la:List V}{off:Nat}{P:Prop}(hk:okB la off=true)(hP:P):∀(k i:Nat),i+k≤64→ckR la off P k i
 |0,_,_=>hP
 |k+1,i,h=>by
  have e:=gx (i:=i) hk (by omega);rw[Nat.mul_one]at e;exact aa e.1 (aa e.2 (sI hk hP k (i+1) (by omega)))
theorem wds_ok(args:List V)(s:St)(l:Qx)(v:V)(n:St)(h:wdsT okB gU args s=some l)(ho:aL l=some (v,n)):(∀b∈s,aM b.cs=true)∧FnSat Qq 214 args s (fun u st=>Fits 0 [v] n [some u] st):=by
 unfold wdsT at h;split at h
 ·rename_i off m c z la;cases h;cases hk2:(Nat.beq m 64&&okB la off)with
  |false=>rw[hk2]at ho;cases ho
  |true=>
   rw[hk2]at ho;cases ho;rw[ad]at hk2;have hm:=aP hk2.1;have hk:=hk2.2;subst hm;refine⟨by simp[Blk.cs,mG hk],(lookR_ok (R:=fun u st=>Fits 0 [.slice 0 0 16 false 0 0] [.row (nW (gU la off)) 173 1] [some u] (vis u st)) (lk:=ah 18) (aY 18 1 _) ?_).mono fun u st hq=>fits_vis hq⟩;rw[rwds_tree];refine sI hk ?_ 64 0 (by decide);exact⟨[32],[.slice 32 0 16 false 0 0],rfl,rfl,FitsM.of ⟨fb rfl rfl,trivial⟩,by decide,fun i hi=>by omega⟩
 ·cases h
def RS1(F:Int→Int→Int):Tab:=⟨addT noT 215 (rrotT F),noL,aT 9⟩
theorem RS1_ok:TabOk3 Qq (RS1 rotI):=⟨aR aJ rrot_ok,aK,au 9⟩
def zC_1(ws:List V)(i:Int):=ws.getD (0+(i64.wrap (i-15)).toNat*1) (V.bool false)
def zC_2(ws:List V)(i:Int):=ws.getD (0+(i64.wrap (i-2)).toNat*1) (V.bool false)
def zC_0(F:Int→Int→Int)(ws:List V)(i:Int):=[V.int u32 (u32.wrap (u32.wrap (u32.wrap (aq (ws.getD (0+(i64.wrap (i-16)).toNat*1) (V.bool false))+aq (ws.getD (0+(i64.wrap (i-7)).toNat*1) (V.bool false)))+u32.wrap (↑(BitVec.ofInt 32 (u32.wrap (↑(BitVec.ofInt 32 (F (aq (zC_1 ws i)) 7)^^^BitVec.ofInt 32 (F (aq (zC_1 ws i)) 18)).toNat:Int))^^^BitVec.ofInt 32 ((aq (zC_1 ws i)).fdiv 8)).toNat:Int))+u32.wrap (↑(BitVec.ofInt 32 (u32.wrap (↑(BitVec.ofInt 32 (F (aq (zC_2 ws i)) 17)^^^BitVec.ofInt 32 (F (aq (zC_2 ws i)) 19)).toNat:Int))^^^BitVec.ofInt 32 ((aq (zC_2 ws i)).fdiv 1024)).toNat:Int)))]
theorem rsch_round(F:Int→Int→Int)(hs key p ws:List V)(pl nw:Nat)(from' i:Int)(R:Qz):al Qq (RS1 F) 9 10 (ah 9) 192 129610 [3,4,5,7,8,9] [.slice 0 0 8 false 0 0,.slice 1 0 64 false 0 0,.slice 2 0 pl false 0 0,.int .i64 from',.slice 3 0 nw false 0 0,.int .i64 i] [.row hs 173 1,.row key 173 1,.row p 5 1,.row ws 173 1] R=
 (
 bif decide (i<64)then bif decide (0≤i64.wrap (i-15))&&decide (i64.wrap (i-15)<(↑nw:Int))then bif (0+(i64.wrap (i-
 15)).toNat*1).blt ws.length then bif ao u32 (zC_1 ws i)then bif decide (0≤i64.wrap (i-2))&&decide (i64.wrap (i-2)<(↑nw:
 Int))then bif (0+(i64.wrap (i-2)).toNat*1).blt ws.length then bif ao u32 (zC_2 ws i)then bif decide (0≤i64.wrap (i-16))
 &&decide (i64.wrap (i-16)<(↑nw:Int))then bif (0+(i64.wrap (i-16)).toNat*1).blt ws.length then bif ao u32 (ws.getD (0+
 (i64.wrap (i-16)).toNat*1) (.bool false))then bif decide (0≤i64.wrap (i-7))&&decide (i64.wrap (i-7)<(↑nw:Int))then bif
 (0+(i64.wrap (i-7)).toNat*1).blt ws.length then bif ao u32 (ws.getD (0+(i64.wrap (i-7)).toNat*1) (.bool false))then bif
 ws.length.beq (nw*1)then bif (nw+1).ble 9223372036854775807&&((nw+1)*4).ble 140737488355328 then R .normal [some (.slice 0 0 8 false 0 0),some
 (.slice 1 0 64 false 0 0),some (.slice 2 0 pl false 0 0),some (.int i64 from'),some (.slice 5 0 (nw+1) false 0 0),some (.int i64
 (i64.wrap (i+1)))] [.row hs 173 1,.row key 173 1,.row p 5 1,.dead,.row (zC_0 F ws i) 173 1,.row (ws++(zC_0 F ws i)) 173 1]
 else False else False else False else False else False else False else False else False else False else False else False else False else False else False else R
 (.exit 6) [some (.slice 0 0 8 false 0 0),some (.slice 1 0 64 false 0 0),some (.slice 2 0 pl false 0 0),some (.int i64 from'),some (.slice 3
 0 nw false 0 0),some (.int i64 i)] [.row hs 173 1,.row key 173 1,.row p 5 1,.row ws 173 1]):=by kernel_rfl
theorem l7:∀{ws:List V},c8 ws=true→aM ws=true
 |[],_=>rfl
 |v::r,h=>by
  unfold c8 at h;rw[List.all_cons,ad]at h;have ih:aM r=true:=l7 (ws:=r) h.2;rw[aM,ih,Bool.and_true];cases v<;>simp[ao]at h;rfl
theorem sT{a b:List V}(h1:c8 a=true)(h2:c8 b=true):c8 (a++b)=true:=by
 unfold c8 at*
 rw[List.all_append,h1,h2];rfl
def schL:Nat→List V→List V
 |0,g=>g
 |n+1,g=>schL n (g++[.int .u32 (iQ g g.length)])
theorem lu:∀(n:Nat) (g:List V),c8 g=true→c8 (schL n g)=true
 |0,_,h=>h
 |n+1,g,h=>lu n _ (sT h rfl)
theorem pj:∀(n:Nat) (g:List V),(schL n g).length=g.length+n
 |0,_=>rfl
 |n+1,g=>by rw[schL,pj n,bQ];simp;omega
theorem oP{ws:List V}{j k:Nat}(h:k<j):wI (ws.take j) k=wI ws k:=by
 unfold wI;rw[bX,bX,List.getElem?_take,if_pos h]
theorem sch_blk(la:List V)(off:Nat):∀(n j:Nat) (ws:List V),ws.length=64→j+n=64→16≤j→blkL la off n j ws=schL n (ws.take j)
 |0,j,ws,hl,hj,h16=>by
  rw[blkL,schL,cz (by omega)]
 |n+1,j,ws,hl,hj,h16=>by
  have h2:(eH j [V.int .u32 (kR la off ws j)] ws).length=ws.length:=by
   unfold eH;simp only[bQ,List.length_take,List.length_drop,bi,List.length_nil];omega
  rw[blkL,schL,sch_blk la off n (j+1) _ (by omega) (by omega) (by omega)];have hlt:(ws.take j).length=j:=by rw[List.length_take];omega
  have h3:iQ (ws.take j) (ws.take j).length=kR la off ws j:=by
   rw[hlt];unfold kR iQ;rw[if_neg (by omega),oP (by omega),oP (by omega),oP (by omega),oP (by omega)]
  rw[h3];congr 1;unfold eH;rw[List.take_append_of_le_length (by simp;omega),cz (by simp;omega)]
theorem blkL_add(la:List V)(off m:Nat):∀(n j:Nat) (ws:List V),blkL la off (n+m) j ws=blkL la off m (j+n) (blkL la off n j ws)
 |0,j,ws=>by rw[Nat.zero_add];rfl
 |n+1,j,ws=>by
  have e:n+1+m=(n+m)+1:=by omega
  have e2:j+(n+1)=j+1+n:=by omega
  rw[e,e2,blkL,blkL,blkL_add la off m n]
theorem blk_len(la:List V)(off:Nat):∀(n j:Nat) (ws:List V),ws.length=64→j+n≤64→(blkL la off n j ws).length=64
 |0,j,ws,hl,_=>hl
 |n+1,j,ws,hl,hj=>by
  rw[blkL];refine blk_len la off n (j+1) _ ?_ (by omega);unfold eH;simp only[bQ,List.length_take,List.length_drop,bi,List.length_nil];omega
theorem blk_take(la:List V)(off:Nat):∀(n j:Nat) (ws:List V),ws.length=64→j+n≤16→(blkL la off n j ws).take (j+n)=ws.take j++(List.range' j n).map (fun i=>V.int .u32 (gU la off i))
 |0,j,ws,hl,_=>by rw[blkL,Nat.add_zero];simp
 |n+1,j,ws,hl,hj=>by
  have h2:(eH j [V.int .u32 (kR la off ws j)] ws).length=64:=by
   unfold eH;simp only[bQ,List.length_take,List.length_drop,bi,List.length_nil];omega
  have e:j+(n+1)=j+1+n:=by omega
  rw[blkL,e,blk_take la off n (j+1) _ h2 (by omega)];have h3:kR la off ws j=gU la off j:=by unfold kR;rw[if_pos (by omega)]
  rw[h3,List.range'_succ,List.map_cons];unfold eH;rw[List.take_append_of_le_length (by simp;omega),cz (by simp;omega)];simp
theorem blk_first(la:List V)(off:Nat):(blkL la off 16 0 eq).take 16=nW (gU la off):=by
 have h:=blk_take la off 16 0 eq rfl (Nat.le_refl _);rw[Nat.zero_add]at h;rw[h];rfl
theorem qZ(la:List V)(off:Nat):(blkL la off 16 0 eq).length=64:=blk_len la off 16 0 eq rfl (by decide)
theorem blk_sch(la:List V)(off:Nat):blkL la off 64 0 eq=schL 48 (nW (gU la off)):=by
 rw[blkL_add la off 48 16 0,sch_blk la off 48 (0+16) _ (qZ la off) rfl (Nat.le_refl _),Nat.zero_add,blk_first]
theorem cells_sch{la:List V}{off:Nat}:df (blkA la off)=schL 48 (nW (gU la off)):=by
 unfold blkA blkF;rw[blk_sch];exact qH (lu 48 _ rfl) (pj 48 _)
structure SC where
 hs:List V
 key:List V
 p:List V
 pl:Nat
 fr:Int
 ws:List V
def scV(y:SC):List V:=[.slice 0 0 8 false 0 0,.slice 1 0 64 false 0 0,.slice 2 0 y.pl false 0 0,.int .i64 y.fr,.slice 3 0 y.ws.length false 0 0,.int .i64 y.ws.length]
def scJ(y:SC):St:=[.row y.hs 173 1,.row y.key 173 1,.row y.p 5 1,.row y.ws 173 1]
def nY(y:SC):Bool:=(aM y.hs&&aM y.key&&aM y.p)&&(c8 y.ws&&(Nat.ble 16 y.ws.length&&Nat.ble y.ws.length 64))
def scMu(y:SC):Nat:=64-y.ws.length
def scOutG(SL:Nat→List V→List V):Asks SC:=fun y K=>∀g:List V,g=SL (64-y.ws.length) y.ws→K (.exit 6) [.slice 0 0 8 false 0 0,.slice 1 0 64 false 0 0,.slice 2 0 y.pl false 0 0,.int .i64 y.fr,.slice 3 0 64 false 0 0,.int .i64 64] [.row y.hs 173 1,.row y.key 173 1,.row y.p 5 1,.row g 173 1]
theorem th{hs key p ws:List V}(h1:aM hs=true)(h2:aM key=true)(h3:aM p=true)(h4:c8 ws=true){a b c d:Nat}{st:St}(g1:st[a]?=some (.row hs 173 1))(g2:st[b]?=some (.row key 173 1))(g3:st[c]?=some (.row p 5 1))(g4:st[d]?=some (.row ws 173 1))(hd:[a,b,c,d].Nodup)(pl nw:Nat)(fr i:Int):
  Fits 0 [.slice 0 0 8 false 0 0,.slice 1 0 64 false 0 0,.slice 2 0 pl false 0 0,.int .i64 fr,.slice 3 0 nw false 0 0,.int .i64 i] [.row hs 173 1,.row key 173 1,.row p 5 1,.row ws 173 1]
   [some (.slice a 0 8 false 0 0),some (.slice b 0 64 false 0 0),some (.slice c 0 pl false 0 0),some (.int .i64 fr),some (.slice d 0 nw false 0 0),some (.int .i64 i)] st:=
 ⟨[a,b,c,d],[.slice a 0 8 false 0 0,.slice b 0 64 false 0 0,.slice c 0 pl false 0 0,.int .i64 fr,.slice d 0 nw false 0 0,.int .i64 i],rfl,rfl,FitsM.of ⟨fb h1 g1,fb h2 g2,fb h3 g3,fb (l7 h4) g4,trivial⟩,hd,fun i hi=>by omega⟩
theorem sc_roundOk(y:SC)(hy:nY y=true):al Qq (RS1 rotI) 9 10 (ah 9) 192 129610 [3,4,5,7,8,9] (scV y) (scJ y) (aD 0 nY scV scJ scMu (scOutG schL) y):=by
 obtain⟨hs,key,p,pl,fr,ws⟩:=y;unfold nY at hy;rw[ad,ad,ad,ad,ad]at hy;have h1:aM hs=true:=hy.1.1.1;have h2:aM key=true:=hy.1.1.2;have h3:aM p=true:=hy.1.2;have h4:c8 ws=true:=hy.2.1;have h5:16≤ws.length:=aw hy.2.2.1;have h6:ws.length≤64:=aw hy.2.2.2;clear hy;show al Qq (RS1 rotI) 9 10 (ah 9) 192 129610 [3,4,5,7,8,9] [.slice 0 0 8 false 0 0,.slice 1 0 64 false 0 0,.slice 2 0 pl false 0 0,.int .i64 fr,.slice 3 0 ws.length false 0 0,.int .i64 ws.length] [.row hs 173 1,.row key 173 1,.row p 5 1,.row ws 173 1] _;rw[rsch_round];unfold zC_0 zC_2 zC_1;cases hb:decide ((ws.length:Int)<64)with
 |true=>
  have hj:ws.length<64:=by have:=aN hb;omega
  have w15:i64.wrap ((ws.length:Int)-15)=((ws.length-15:Nat):Int):=by rw[IntWalk.i64_in _ ⟨by omega,by omega⟩];omega
  have w2:i64.wrap ((ws.length:Int)-2)=((ws.length-2:Nat):Int):=by rw[IntWalk.i64_in _ ⟨by omega,by omega⟩];omega
  have w16:i64.wrap ((ws.length:Int)-16)=((ws.length-16:Nat):Int):=by rw[IntWalk.i64_in _ ⟨by omega,by omega⟩];omega
  have w7:i64.wrap ((ws.length:Int)-7)=((ws.length-7:Nat):Int):=by rw[IntWalk.i64_in _ ⟨by omega,by omega⟩];omega
  have e1:i64.wrap ((ws.length:Int)+1)=((ws.length+1:Nat):Int):=by rw[IntWalk.i64_in _ ⟨by omega,by omega⟩];omega
  rw[w15,w2,w16,w7,e1];simp only[bp];have s0:∀i:Nat,0+i*1=i:=fun i=>by omega
  simp only[s0];rw[ae];have k:∀i:Nat,i<ws.length→(decide ((0:Int)≤(i:Int))&&decide ((i:Int)<(ws.length:Int)))=true:=fun i hi=>by
   rw[ad];exact⟨am (by omega),am (by omega)⟩
  have q:∀i:Nat,i<ws.length→i.blt ws.length=true:=fun i hi=>ag (by omega);refine aa (k _ (by omega)) (aa (q _ (by omega)) (aa (dQ h4 (by omega)) ?_));refine aa (k _ (by omega)) (aa (q _ (by omega)) (aa (dQ h4 (by omega)) ?_));refine aa (k _ (by omega)) (aa (q _ (by omega)) (aa (dQ h4 (by omega)) ?_));refine aa (k _ (by omega)) (aa (q _ (by omega)) (aa (dQ h4 (by omega)) ?_));refine aa (by rw[Nat.mul_one];exact a9 _) (aa (by rw[ad];exact⟨ag (by omega),ag (by omega)⟩) ?_);have fin:∀x:V,x=.int .u32 (iQ ws ws.length)→aD 0 nY scV scJ scMu (scOutG schL) ⟨hs,key,p,pl,fr,ws⟩ .normal [some (.slice 0 0 8 false 0 0),some (.slice 1 0 64 false 0 0),some (.slice 2 0 pl false 0 0),some (.int .i64 fr),some (.slice 5 0 (ws.length+1) false 0 0),some (.int .i64 ((ws.length+1:Nat):Int))] [.row hs 173 1,.row key 173 1,.row p 5 1,.dead,.row [x] 173 1,.row (ws++[x]) 173 1]:=by
   intro x hx;subst hx;have ha:c8 (ws++[V.int .u32 (iQ ws ws.length)])=true:=sT h4 rfl;have hl:(ws++[V.int .u32 (iQ ws ws.length)]).length=ws.length+1:=by rw[bQ];rfl
   refine⟨⟨hs,key,p,pl,fr,ws++[.int .u32 (iQ ws ws.length)]⟩,?_,?_,?_,fun K hK g hg=>hK g ?_⟩
   ·unfold nY;rw[ad,ad,ad,ad,ad];exact⟨⟨⟨h1,h2⟩,h3⟩,ha,ag (by rw[hl];omega),ag (by rw[hl];omega)⟩
   ·show Fits 0 [.slice 0 0 8 false 0 0,.slice 1 0 64 false 0 0,.slice 2 0 pl false 0 0,.int .i64 fr,.slice 3 0 (ws++[V.int .u32 (iQ ws ws.length)]).length false 0 0,.int .i64 ((ws++[V.int .u32 (iQ ws ws.length)]).length:Nat)] _ _ _;rw[hl];exact th h1 h2 h3 ha rfl rfl rfl rfl (by decide) _ _ _ _
   ·show 64-(ws++[V.int .u32 (iQ ws ws.length)]).length<64-ws.length;rw[hl];omega
   ·have hg:g=schL (64-(ws++[V.int .u32 (iQ ws ws.length)]).length) (ws++[V.int .u32 (iQ ws ws.length)]):=hg;rw[hl]at hg;show g=schL (64-ws.length) ws;have e:64-ws.length=(64-(ws.length+1))+1:=by omega
    rw[e,hg];rfl
  exact fin _ rfl
 |false=>
  have hj:ws.length=64:=by have:=bk hb;omega
  refine⟨[.slice 0 0 8 false 0 0,.slice 1 0 64 false 0 0,.slice 2 0 pl false 0 0,.int .i64 fr,.slice 3 0 64 false 0 0,.int .i64 64],[.row hs 173 1,.row key 173 1,.row p 5 1,.row ws 173 1],fun K hK=>hK ws ?_,?_⟩
  ·show ws=schL (64-ws.length) ws;rw[hj];rfl
  ·rw[hj];exact th h1 h2 h3 h4 rfl rfl rfl rfl (by decide) _ _ _ _
def scDec:List (Option V)→St→Option SC
 |[some (.slice a 0 8 false 0 0),some (.slice b 0 64 false 0 0),some (.slice c 0 pl false 0 0),some (.int .i64 fr),some (.slice d 0 16 false 0 0),some (.int .i64 16)],st=>
  match st[a]?,st[b]?,st[c]?,st[d]? with
  |some (.row hs _ _),some (.row key _ _),some (.row p _ _),some (.row ws _ _)=>some ⟨hs,key,p,pl,fr,ws⟩
  |_,_,_,_=>none
 |_,_=>none
def zD_0:=[V.int u32 1116352408,V.int u32 1899447441,V.int u32 3049323471,V.int u32 3921009573,V.int u32 961987163,V.int u32 1508970993,V.int u32 2453635748,V.int u32 2870763221,V.int u32 3624381080,V.int u32 310598401,V.int u32 607225278,V.int u32 1426881987,V.int u32 1925078388,V.int u32 2162078206,V.int u32 2614888103,V.int u32 3248222580,V.int u32 3835390401,V.int u32 4022224774,V.int u32 264347078,V.int u32 604807628,V.int u32 770255983,V.int u32 1249150122,V.int u32 1555081692,V.int u32 1996064986,V.int u32 2554220882,V.int u32 2821834349,V.int u32 2952996808,V.int u32 3210313671,V.int u32 3336571891,V.int u32 3584528711,V.int u32 113926993,V.int u32 338241895,V.int u32 666307205,V.int u32 773529912,V.int u32 1294757372,V.int u32 1396182291,V.int u32 1695183700,V.int u32 1986661051,V.int u32 2177026350,V.int u32 2456956037,V.int u32 2730485921,V.int u32 2820302411,V.int u32 3259730800,V.int u32 3345764771,V.int u32 3516065817,V.int u32 3600352804,V.int u32 4094571909,V.int u32 275423344,V.int u32 430227734,V.int u32 506948616,V.int u32 659060556,V.int u32 883997877,V.int u32 958139571,V.int u32 1322822218,V.int u32 1537002063,V.int u32 1747873779,V.int u32 1955562222,V.int u32 2024104815,V.int u32 2227730452,V.int u32 2361852424,V.int u32 2428436474,V.int u32 2756734187,V.int u32 3204031479,V.int u32 3329325298]
def zD_1(F:Int→Int→Int)(ws:List V)(i v4 v5 v6 v7:Int):=(u32.wrap (u32.wrap (u32.wrap (v7+u32.wrap (↑(BitVec.ofInt 32 (u32.wrap (↑(BitVec.ofInt 32 (F (v4) 6)^^^BitVec.ofInt 32 (F (v4) 11)).toNat:Int))^^^BitVec.ofInt 32 (F (v4) 25)).toNat:Int))+u32.wrap (↑(BitVec.ofInt 32 (u32.wrap (↑(BitVec.ofInt 32 (v4)&&&BitVec.ofInt 32 (v5)).toNat:Int))|||BitVec.ofInt 32 (u32.wrap (↑(BitVec.ofInt 32 (u32.wrap (↑(BitVec.ofInt 32 4294967295^^^BitVec.ofInt 32 (v4)).toNat:Int))&&&BitVec.ofInt 32 (v6)).toNat:Int))).toNat:Int))+aq (zD_0.getD (0+i.toNat*1) (V.bool false)))+aq (ws.getD (0+i.toNat*1) (V.bool false)))
theorem rmix_round(F:Int→Int→Int)(hs p ws:List V)(pl nw:Nat)(from' i:Int)(v0 v1 v2 v3 v4 v5 v6 v7:Int)(R:Qz):al Qq (RS1 F) 9 10 (ah 9) 192 518458 [3,4,5,7,8,12,13] [.slice 0 0 8 false 0 0,.slice 1 0 64 false 0 0,.slice 2 0 pl false 0 0,.int .i64 from',.slice 3 0 nw false 0 0,.slice 4 0 8 false 0 0,.int .i64 i] [.row hs 173 1,.row keyC 173 1,.row p 5 1,.row ws 173 1,.row [.int .u32 v0,.int .u32 v1,.int .u32 v2,.int .u32 v3,.int .u32 v4,.int .u32 v5,.int .u32 v6,.int .u32 v7] 173 1] R=
 (
 bif decide (i<64)then bif decide (0≤i)&&decide (i<64)then bif (0+i.toNat*1).blt 64 then bif ao u32 (zD_0.getD (0+i.toNat*1) (.bool
 false))then bif decide (0≤i)&&decide (i<(↑nw:Int))then bif (0+i.toNat*1).blt ws.length then bif ao u32 (ws.getD (0+i.toNat*1)
 (.bool false))then R .normal [some (.slice 0 0 8 false 0 0),some (.slice 1 0 64 false 0 0),some (.slice 2 0 pl false 0 0),some (.int i64
 from'),some (.slice 3 0 nw false 0 0),some (.slice 6 0 8 false 0 0),some (.int i64 (i64.wrap (i+1)))] [.row hs 173 1,.row zD_0 173
 1,.row p 5 1,.row ws 173 1,.row [.int u32 v0,.int u32 v1,.int u32 v2,.int u32 v3,.int u32 v4,.int
 u32 v5,.int u32 v6,.int u32 v7] 173 1,.dead,.row [.int u32 (u32.wrap (u32.wrap (zD_1 F ws i v4 v5 v6
 v7)+u32.wrap (u32.wrap (↑(BitVec.ofInt 32 (u32.wrap (↑(BitVec.ofInt 32 (F (v0) 2)^^^BitVec.ofInt 32 (F (v0) 13)).toNat:Int))^^^
 BitVec.ofInt 32 (F (v0) 22)).toNat:Int)+u32.wrap (↑(BitVec.ofInt 32 (u32.wrap (↑(BitVec.ofInt 32 (u32.wrap (↑(BitVec.ofInt 32 (v0)
 &&&BitVec.ofInt 32 (v1)).toNat:Int))|||BitVec.ofInt 32 (u32.wrap (↑(BitVec.ofInt 32 (v0)&&&BitVec.ofInt 32 (v2)).toNat:Int))).toNat:Int))|||
 BitVec.ofInt 32 (u32.wrap (↑(BitVec.ofInt 32 (v1)&&&BitVec.ofInt 32 (v2)).toNat:Int))).toNat:Int)))),.int u32 v0,.int u32 v1,
 .int u32 v2,.int u32 (u32.wrap (v3+u32.wrap (zD_1 F ws i v4 v5 v6 v7))),.int u32 v4,.int u32 v5,.int
 u32 v6] 173 1]else False else False else False else False else False else False else R (.exit 8) [some (.slice 0 0 8 false 0 0),some (.slice 1 0
 64 false 0 0),some (.slice 2 0 pl false 0 0),some (.int i64 from'),some (.slice 3 0 nw false 0 0),some (.slice 4 0 8 false 0 0),some (.int
 i64 i)] [.row hs 173 1,.row zD_0 173 1,.row p 5 1,.row ws 173 1,.row [.int u32 v0,.int u32 v1,.int u32
 v2,.int u32 v3,.int u32 v4,.int u32 v5,.int u32 v6,.int u32 v7] 173 1]):=by kernel_rfl
theorem iB(z:BitVec 32):BitVec.ofInt 32 (u32.wrap ((z.toNat:Nat):Int))=z:=by
 have h:=z.isLt;rw[IntWalk.u32_in _ ⟨by omega,by omega⟩,BitVec.ofInt_natCast,BitVec.ofNat_toNat,BitVec.setWidth_eq]
theorem ch_bv(E F G:BitVec 32):(E&&&F)|||((BitVec.allOnes 32^^^E)&&&G)=(E&&&F)^^^((BitVec.allOnes 32^^^E)&&&G):=by
 apply BitVec.eq_of_getLsbD_eq;intro i hi;simp only[BitVec.getLsbD_or,BitVec.getLsbD_and,BitVec.getLsbD_xor,BitVec.getLsbD_allOnes,hi,decide_true];cases E.getLsbD i<;>cases F.getLsbD i<;>cases G.getLsbD i<;>rfl
theorem maj_bv(A B C:BitVec 32):((A&&&B)|||(A&&&C))|||(B&&&C)=((A&&&B)^^^(A&&&C))^^^(B&&&C):=by
 apply BitVec.eq_of_getLsbD_eq;intro i hi;simp only[BitVec.getLsbD_or,BitVec.getLsbD_and,BitVec.getLsbD_xor];cases A.getLsbD i<;>cases B.getLsbD i<;>cases C.getLsbD i<;>rfl
theorem ch_or(e f g:Int):orI (andI e f) (andI (xorI 4294967295 e) g)=xorI (andI e f) (andI (xorI 4294967295 e) g):=by
 have h:BitVec.ofInt 32 4294967295=BitVec.allOnes 32:=by decide
 unfold orI xorI andI;rw[iB,iB,iB,h,ch_bv]
theorem maj_or(a b c:Int):orI (orI (andI a b) (andI a c)) (andI b c)=xorI (xorI (andI a b) (andI a c)) (andI b c):=by
 unfold orI xorI andI;rw[iB,iB,iB,iB,iB,maj_bv]
def tO(e f g h k w:Int):Int:=addI (addI (addI (addI h (xorI (xorI (rotI e 6) (rotI e 11)) (rotI e 25))) (orI (andI e f) (andI (xorI 4294967295 e) g))) k) w
def uO(a b c:Int):Int:=addI (xorI (xorI (rotI a 2) (rotI a 13)) (rotI a 22)) (orI (orI (andI a b) (andI a c)) (andI b c))
theorem tO_eq(e f g h k w:Int):tO e f g h k w=tI e f g h k w:=by unfold tO tI;rw[ch_or]
theorem uO_eq(a b c:Int):uO a b c=uI a b c:=by unfold uO uI;rw[maj_or]
def mixO(x:W8)(k w:Int):W8:=⟨addI (tO x.e x.f x.g x.h k w) (uO x.a x.b x.c),x.a,x.b,x.c,addI x.d (tO x.e x.f x.g x.h k w),x.e,x.f,x.g⟩
theorem mixO_eq(x:W8)(k w:Int):mixO x k w=mixR x k w:=by unfold mixO mixR;rw[tO_eq,uO_eq]
structure MD where
 hs:List V
 p:List V
 pl:Nat
 fr:Int
 ws:List V
 x:W8
 i:Nat
def mdV(y:MD):List V:=[.slice 0 0 8 false 0 0,.slice 1 0 64 false 0 0,.slice 2 0 y.pl false 0 0,.int .i64 y.fr,.slice 3 0 64 false 0 0,.slice 4 0 8 false 0 0,.int .i64 y.i]
def mdJ(y:MD):St:=[.row y.hs 173 1,.row keyC 173 1,.row y.p 5 1,.row y.ws 173 1,.row y.x.cells 173 1]
def og(y:MD):Bool:=(aM y.hs&&aM y.p)&&(c8 y.ws&&(Nat.beq y.ws.length 64&&Nat.ble y.i 64))
def mdMu(y:MD):Nat:=64-y.i
def mdOutG(ML:Nat→Nat→List V→W8→W8):Asks MD:=fun y K=>∀x:W8,x=ML (64-y.i) y.i y.ws y.x→K (.exit 8) [.slice 0 0 8 false 0 0,.slice 1 0 64 false 0 0,.slice 2 0 y.pl false 0 0,.int .i64 y.fr,.slice 3 0 64 false 0 0,.slice 4 0 8 false 0 0,.int .i64 64] [.row y.hs 173 1,.row keyC 173 1,.row y.p 5 1,.row y.ws 173 1,.row x.cells 173 1]
theorem gM:aM keyC=true:=by decide+kernel
theorem tW{hs p ws:List V}{x:W8}(h1:aM hs=true)(h3:aM p=true)(h4:c8 ws=true){a b c d e:Nat}{st:St}(g1:st[a]?=some (.row hs 173 1))(g2:st[b]?=some (.row keyC 173 1))(g3:st[c]?=some (.row p 5 1))(g4:st[d]?=some (.row ws 173 1))(g5:st[e]?=some (.row x.cells 173 1))(hd:[a,b,c,d,e].Nodup)(pl nw:Nat)(fr i:Int):
  Fits 0 [.slice 0 0 8 false 0 0,.slice 1 0 64 false 0 0,.slice 2 0 pl false 0 0,.int .i64 fr,.slice 3 0 nw false 0 0,.slice 4 0 8 false 0 0,.int .i64 i] [.row hs 173 1,.row keyC 173 1,.row p 5 1,.row ws 173 1,.row x.cells 173 1]
   [some (.slice a 0 8 false 0 0),some (.slice b 0 64 false 0 0),some (.slice c 0 pl false 0 0),some (.int .i64 fr),some (.slice d 0 nw false 0 0),some (.slice e 0 8 false 0 0),some (.int .i64 i)] st:=
 ⟨[a,b,c,d,e],[.slice a 0 8 false 0 0,.slice b 0 64 false 0 0,.slice c 0 pl false 0 0,.int .i64 fr,.slice d 0 nw false 0 0,.slice e 0 8 false 0 0,.int .i64 i],rfl,rfl,FitsM.of ⟨fb h1 g1,fb gM g2,fb h3 g3,fb (l7 h4) g4,fb rfl g5,trivial⟩,hd,fun i hi=>by omega⟩
theorem md_roundOk(y:MD)(hy:og y=true):al Qq (RS1 rotI) 9 10 (ah 9) 192 518458 [3,4,5,7,8,12,13] (mdV y) (mdJ y) (aD 0 og mdV mdJ mdMu (mdOutG mixL) y):=by
 obtain⟨hs,p,pl,fr,ws,x,i⟩:=y;unfold og at hy;rw[ad,ad,ad,ad]at hy;have h1:aM hs=true:=hy.1.1;have h3:aM p=true:=hy.1.2;have h4:c8 ws=true:=hy.2.1;have h5:ws.length=64:=aP hy.2.2.1;have h6:i≤64:=aw hy.2.2.2;clear hy;show al Qq (RS1 rotI) 9 10 (ah 9) 192 518458 [3,4,5,7,8,12,13] [.slice 0 0 8 false 0 0,.slice 1 0 64 false 0 0,.slice 2 0 pl false 0 0,.int .i64 fr,.slice 3 0 64 false 0 0,.slice 4 0 8 false 0 0,.int .i64 i] [.row hs 173 1,.row keyC 173 1,.row p 5 1,.row ws 173 1,.row [.int .u32 x.a,.int .u32 x.b,.int .u32 x.c,.int .u32 x.d,.int .u32 x.e,.int .u32 x.f,.int .u32 x.g,.int .u32 x.h] 173 1] _;rw[rmix_round];unfold zD_1 zD_0;cases hb:decide ((i:Int)<64)with
 |true=>
  have hj:i<64:=by have:=aN hb;omega
  have e1:i64.wrap ((i:Int)+1)=((i+1:Nat):Int):=by rw[IntWalk.i64_in _ ⟨by omega,by omega⟩];omega
  have c1:(decide ((0:Int)≤(i:Int))&&true)=true:=by rw[Bool.and_true];exact am (by omega)
  have c4:∀i:Fin 64,ao .u32 (keyC.getD i.val (.bool false))=true:=by decide+kernel
  have c5:=c4 ⟨i,hj⟩;have e0:0+i*1=i:=by omega
  have c6:i.blt keyC.length=true:=ag (by show i+1≤64;omega);have c7:(decide ((0:Int)≤(i:Int))&&decide ((i:Int)<((64:Nat):Int)))=true:=by rw[ad];exact⟨am (by omega),am (by omega)⟩
  rw[bp,e1,e0,ae];refine aa c1 (aa c6 (aa c5 (aa c1 (aa (ag (by omega)) (aa (dQ h4 (by omega)) ?_)))));have fin:∀cs:List V,cs=(mixO x (keyI i) (wI ws i)).cells→aD 0 og mdV mdJ mdMu (mdOutG mixL) ⟨hs,p,pl,fr,ws,x,i⟩ .normal [some (.slice 0 0 8 false 0 0),some (.slice 1 0 64 false 0 0),some (.slice 2 0 pl false 0 0),some (.int .i64 fr),some (.slice 3 0 64 false 0 0),some (.slice 6 0 8 false 0 0),some (.int .i64 ((i+1:Nat):Int))] [.row hs 173 1,.row keyC 173 1,.row p 5 1,.row ws 173 1,.row x.cells 173 1,.dead,.row cs 173 1]:=by
   intro cs hx;rw[mixO_eq]at hx;subst hx;refine⟨⟨hs,p,pl,fr,ws,mixR x (keyI i) (wI ws i),i+1⟩,?_,?_,?_,fun K hK g hg=>hK g ?_⟩
   ·unfold og;rw[ad,ad,ad,ad];exact⟨⟨h1,h3⟩,h4,by rw[h5];rfl,ag hj⟩
   ·exact tW h1 h3 h4 rfl rfl rfl rfl rfl (by decide) _ _ _ _
   ·simp only[mdMu];omega
   ·have hg:g=mixL (64-(i+1)) (i+1) ws (mixR x (keyI i) (wI ws i)):=hg;show g=mixL (64-i) i ws x;have e:64-i=(64-(i+1))+1:=by omega
    rw[e,hg];rfl
  exact fin _ rfl
 |false=>
  have hj:i=64:=by have:=bk hb;omega
  subst hj;refine⟨[.slice 0 0 8 false 0 0,.slice 1 0 64 false 0 0,.slice 2 0 pl false 0 0,.int .i64 fr,.slice 3 0 64 false 0 0,.slice 4 0 8 false 0 0,.int .i64 64],[.row hs 173 1,.row keyC 173 1,.row p 5 1,.row ws 173 1,.row x.cells 173 1],fun K hK=>hK x rfl,?_⟩;exact tW h1 h3 h4 rfl rfl rfl rfl rfl (by decide) _ _ _ _
def mdDec:List (Option V)→St→Option MD
 |[some (.slice a 0 8 false 0 0),some (.slice b 0 64 false 0 0),some (.slice c 0 pl false 0 0),some (.int .i64 fr),some (.slice d 0 64 false 0 0),some (.slice e 0 8 false 0 0),some (.int .i64 0)],st=>
  match st[a]?,st[c]?,st[d]?,st[e]? with
  |some (.row hs _ _),some (.row p _ _),some (.row ws _ _),some (.row [.int .u32 a1,.int .u32 a2,.int .u32 a3,.int .u32 a4,.int .u32 a5,.int .u32 a6,.int .u32 a7,.int .u32 a8] _ _)=>some ⟨hs,p,pl,fr,ws,⟨a1,a2,a3,a4,a5,a6,a7,a8⟩,0⟩
  |_,_,_,_=>none
 |_,_=>none
def RS2(OB:List V→Nat→Bool)(WB:List V→Nat→Nat→Int):Tab:=⟨noT,addM noL 214 (wdsT OB WB),aT 9⟩
theorem RS2_ok:TabOk3 Qq (RS2 okB gU):=⟨aJ,o7 aK wds_ok,au 9⟩
def lkIn(SL:Nat→List V→List V)(ML:Nat→Nat→List V→W8→W8):Nat→Trans→Trans:=ba 129610 (bK 0 (szOf Qq 192) [3,4,5,7,8,9] scDec nY scV scJ (scOutG SL)) (ba 518458 (bK 0 (szOf Qq 192) [3,4,5,7,8,12,13] mdDec og mdV mdJ (mdOutG ML)) (ah 9))
theorem rpad_round(s:List UInt8)(hs key cs:List V)(k:Nat)(R:Qz):al Qq RS0 9 10 (ah 9) 192 60 [0,3,4,5] [.str s,.slice 0 0 8 false 0 0,.slice 1 0 64 false 0 0,.slice 2 0 k false 0 0] [.row hs 173 1,.row key 173 1,.row cs 5 1] R=
  (
 bif (↑k:Int).tmod 64!=56 then bif cs.length.beq (k*1)then bif (k+1).ble 9223372036854775807&&((k+1)*1).ble 140737488355328 then R .normal [some (.str
 s),some (.slice 0 0 8 false 0 0),some (.slice 1 0 64 false 0 0),some (.slice 4 0 (k+1) false 0 0)] [.row hs 173 1,.row key 173 1,.dead,.row [.int
 u8 0] 5 1,.row (cs++[V.int u8 0]) 5 1]else False else False else R (.exit 0) [some (.str s),some (.slice 0 0 8 false 0 0),some (.slice 1 0
 64 false 0 0),some (.slice 2 0 k false 0 0)] [.row hs 173 1,.row key 173 1,.row cs 5 1]):=by kernel_rfl
def zE_2(fr:Nat):=(0+(↑fr:Int).toNat*1)
def zE_0(WB:List V→Nat→Nat→Int)(la:List V)(fr:Nat):=[V.int u32 (WB la (zE_2 fr) 0),V.int u32 (WB la (zE_2 fr) 1),V.int u32 (WB la (zE_2 fr) 2),V.int u32 (WB la (zE_2 fr) 3),V.int u32 (WB la (zE_2 fr) 4),V.int u32 (WB la (zE_2 fr) 5),V.int u32 (WB la (zE_2 fr) 6),V.int u32 (WB la (zE_2 fr) 7),V.int u32 (WB la (zE_2 fr) 8),V.int u32 (WB la (zE_2 fr) 9),V.int u32 (WB la (zE_2 fr) 10),V.int u32 (WB la (zE_2 fr) 11),V.int u32 (WB la (zE_2 fr) 12),V.int u32 (WB la (zE_2 fr) 13),V.int u32 (WB la (zE_2 fr) 14),V.int u32 (WB la (zE_2 fr) 15)]
def zE_1(a b c d e f g h:Int):=[V.int u32 a,V.int u32 b,V.int u32 c,V.int u32 d,V.int u32 e,V.int u32 f,V.int u32 g,V.int u32 h]
theorem rblk_round(OB:List V→Nat→Bool)(WB:List V→Nat→Nat→Int)(SL:Nat→List V→List V)(ML:Nat→Nat→List V→W8→W8)(a b c d e f g h:Int)(key la:List V)(pl fr:Nat)(R:Qz):al Qq (RS2 OB WB) 9 10 (lkIn SL ML) 192 506 [3,4,5,7] [.slice 0 0 8 false 0 0,.slice 1 0 64 false 0 0,.slice 2 0 pl false 0 0,.int .i64 fr] [.row [.int .u32 a,.int .u32 b,.int .u32 c,.int .u32 d,.int .u32 e,.int .u32 f,.int .u32 g,.int .u32 h] 173 1,.row key 173 1,.row la 5 1] R=
 (
 bif decide ((↑fr:Int)<(↑pl:Int))then bif decide (0≤i64.wrap ((↑fr:Int)+64))then bif (↑fr:Int).toNat.ble (i64.wrap ((↑fr:Int)+
 64)).toNat&&(i64.wrap ((↑fr:Int)+64)).toNat.ble pl then bif ((i64.wrap ((↑fr:Int)+64)).toNat-(↑fr:Int).toNat).beq 64&&OB la (zE_2
 fr)then Fits 0 [.slice 0 0 8 false 0 0,.slice 1 0 64 false 0 0,.slice 2 0 pl false 0 0,.int i64 (↑fr:Int),.slice 3 0 16 false 0 0,.int
 i64 16] [.row (zE_1 a b c d e f g h) 173 1,.row key 173 1,.row la 5 1,.row (zE_0 WB la fr) 173 1] [some (.slice 0 0 8 false 0 0),some
 (.slice 1 0 64 false 0 0),some (.slice 2 0 pl false 0 0),some (.int i64 (↑fr:Int)),some (.slice 3 0 16 false 0 0),some (.int i64 16)]
 [.row (zE_1 a b c d e f g h) 173 1,.row key 173 1,.row la 5 1,.row (zE_0 WB la fr) 173 1]∧bif nY
 {hs:=(zE_1 a b c d e f g h),key:=key,p:=la,pl:=pl,fr:=(↑fr:Int),ws:=(zE_0 WB la fr)}then ∀(g_1:List V),g_1=SL 48 (zE_0 WB la fr)→
 Fits 0 [.slice 0 0 8 false 0 0,.slice 1 0 64 false 0 0,.slice 2 0 pl false 0 0,.int i64 (↑fr:Int),.slice 3 0 64 false 0 0,.slice 4 0 8 false
 0 0,.int i64 0] [.row (zE_1 a b c d e f g h) 173 1,.row keyC 173 1,.row la 5 1,.row g_1 173 1,.row (zE_1 a b c d e f g h) 173 1]
 [some (.slice 0 0 8 false 0 0),some (.slice 1 0 64 false 0 0),some (.slice 2 0 pl false 0 0),some (.int i64 (↑fr:Int)),some (.slice 3 0 64
 false 0 0),some (.slice 5 0 8 false 0 0),some (.int i64 0)] [.row (zE_1 a b c d e f g h) 173 1,.row key 173 1,.row la 5 1,.row g_1 173
 1,.dead,.row (zE_1 a b c d e f g h) 173 1]∧bif og
 {hs:=(zE_1 a b c d e f g h),p:=la,pl:=pl,fr:=(↑fr:Int),ws:=g_1,x:={a:=a,b:=b,c:=c,d:=d,e:=e,f:=f,g:=g,h:=h},i:=0}
 then ∀(x:W8),x=ML 64 0 g_1 {a:=a,b:=b,c:=c,d:=d,e:=e,f:=f,g:=g,h:=h}→R .normal [some (.slice 0 0 8 false 0 0),some
 (.slice 1 0 64 false 0 0),some (.slice 2 0 pl false 0 0),some (.int i64 (i64.wrap ((↑fr:Int)+64)))] [.row [.int u32
 (u32.wrap (a+x.a)),.int u32 (u32.wrap (b+x.b)),.int u32 (u32.wrap (c+x.c)),.int u32 (u32.wrap
 (d+x.d)),.int u32 (u32.wrap (e+x.e)),.int u32 (u32.wrap (f+x.f)),.int u32 (u32.wrap (g+x.g)),.int
 u32 (u32.wrap (h+x.h))] 173 1,.row keyC 173 1,.row la 5 1,.row g_1 173 1,.row [.int u32 x.a,.int u32 x.b,
 .int u32 x.c,.int u32 x.d,.int u32 x.e,.int u32 x.f,.int u32 x.g,.int u32 x.h] 173 1]else False else
 False else False else False else False else R (.exit 4) [some (.slice 0 0 8 false 0 0),some (.slice 1 0 64 false 0 0),some (.slice 2 0 pl false 0 0),
 some (.int i64 (↑fr:Int))] [.row (zE_1 a b c d e f g h) 173 1,.row key 173 1,.row la 5 1]):=by kernel_rfl
theorem fE(a b:Int):addI a b=addI b a:=by unfold addI;rw[Int.add_comm]
theorem lkIn_ok:eb Qq none 0 (lkIn schL mixL) (2*506) (cO Qq 192 506):=by
 unfold lkIn;refine cA _ _ (cA _ _ (bf 9 _ _) fun c' hc f st Q h=>?_) fun c' hc f st Q h=>?_
 ·rw[show bR 518458 (2*506) (cO Qq 192 506)=[cO Qq 192 518458] by kernel_rfl]at hc;obtain rfl:=List.mem_singleton.1 hc;exact bc (P:=Qq) (T:=RS1 rotI) (k:=0) (lim:=9) (n:=10) (g:=192) (p0:=518458) (lk:=ah 9) aA RS1_ok (bf 9 _ _) mdMu md_roundOk h
 ·rw[show bR 129610 (2*506) (cO Qq 192 506)=[cO Qq 192 129610] by kernel_rfl]at hc;obtain rfl:=List.mem_singleton.1 hc;exact bc (P:=Qq) (T:=RS1 rotI) (k:=0) (lim:=9) (n:=10) (g:=192) (p0:=129610) (lk:=ah 9) aA RS1_ok (bf 9 _ _) scMu sc_roundOk h
structure PD where
 s:List UInt8
 hs:List V
 key:List V
 cs:List V
def pdV(x:PD):List V:=[.str x.s,.slice 0 0 8 false 0 0,.slice 1 0 64 false 0 0,.slice 2 0 x.cs.length false 0 0]
def pdJ(x:PD):St:=[.row x.hs 173 1,.row x.key 173 1,.row x.cs 5 1]
def ob(x:PD):Bool:=(aM x.hs&&aM x.key)&&(aM x.cs&&Nat.ble (x.cs.length+dxN x.cs.length) 1000000)
def pdMu(x:PD):Nat:=dxN x.cs.length
def pdOutG(FP:List V→List V):Asks PD:=fun x K=>∀p:List V,p=FP x.cs→K (.exit 0) [.str x.s,.slice 0 0 8 false 0 0,.slice 1 0 64 false 0 0,.slice 2 0 p.length false 0 0] [.row x.hs 173 1,.row x.key 173 1,.row p 5 1]
def pdDec:List (Option V)→St→Option PD
 |[some (.str s),some (.slice a 0 8 false 0 0),some (.slice b 0 64 false 0 0),some (.slice c 0 _ false 0 0)],st=>
  match st[a]?,st[b]?,st[c]? with
  |some (.row hs _ _),some (.row key _ _),some (.row cs _ _)=>some ⟨s,hs,key,cs⟩
  |_,_,_=>none
 |_,_=>none
theorem tJ(s:List UInt8){hs key cs:List V}(h1:aM hs=true)(h2:aM key=true)(h3:aM cs=true)(k:Nat){a b c:Nat}{st:St}(g1:st[a]?=some (.row hs 173 1))(g2:st[b]?=some (.row key 173 1))(g3:st[c]?=some (.row cs 5 1))(hd:[a,b,c].Nodup):Fits 0 [.str s,.slice 0 0 8 false 0 0,.slice 1 0 64 false 0 0,.slice 2 0 k false 0 0] [.row hs 173 1,.row key 173 1,.row cs 5 1] [some (.str s),some (.slice a 0 8 false 0 0),some (.slice b 0 64 false 0 0),some (.slice c 0 k false 0 0)] st:=
 ⟨[a,b,c],[.str s,.slice a 0 8 false 0 0,.slice b 0 64 false 0 0,.slice c 0 k false 0 0],rfl,rfl,FitsM.of ⟨fb h1 g1,fb h2 g2,fb h3 g3,trivial⟩,hd,fun i hi=>by omega⟩
theorem pd_roundOk(x:PD)(hx:ob x=true):al Qq RS0 9 10 (ah 9) 192 60 [0,3,4,5] (pdV x) (pdJ x) (aD 0 ob pdV pdJ pdMu (pdOutG dxP) x):=by
 obtain⟨s,hs,key,cs⟩:=x;unfold ob at hx;rw[ad,ad,ad]at hx;have h1:aM hs=true:=hx.1.1;have h2:aM key=true:=hx.1.2;have p1:aM cs=true:=hx.2.1;have p2:cs.length+dxN cs.length≤1000000:=aw hx.2.2;clear hx;show al Qq RS0 9 10 (ah 9) 192 60 [0,3,4,5] [.str s,.slice 0 0 8 false 0 0,.slice 1 0 64 false 0 0,.slice 2 0 cs.length false 0 0] [.row hs 173 1,.row key 173 1,.row cs 5 1] _;generalize hn:cs.length=n at*
 rw[rpad_round];have hm:(n:Int).tmod 64=((n%64:Nat):Int):=by rw[Int.tmod_eq_emod_of_nonneg (by omega)];omega
 rw[hm];refine ac (fun h=>?_) (fun h=>?_)
 ·have h:n%64≠56:=by
   intro h0;rw[h0]at h;simp at h
  have p3:dxN n=dxN (n+1)+1:=by unfold dxN;omega
  refine aa (by rw[Nat.mul_one,hn];exact a9 _) (aa (by rw[ad];exact⟨ag (by omega),ag (by omega)⟩) ?_);have hl:(cs++[V.int .u8 0]).length=n+1:=by rw[bQ,hn];rfl
  have hf:aM (cs++[V.int .u8 0])=true:=kC p1 rfl;refine⟨⟨s,hs,key,cs++[.int .u8 0]⟩,?_,?_,?_,fun K hK=>?_⟩
  ·unfold ob;rw[ad,ad,ad];refine⟨⟨h1,h2⟩,hf,ag ?_⟩;show(cs++[V.int .u8 0]).length+dxN (cs++[V.int .u8 0]).length≤1000000;rw[hl];omega
  ·show Fits 0 [.str s,.slice 0 0 8 false 0 0,.slice 1 0 64 false 0 0,.slice 2 0 (cs++[V.int .u8 0]).length false 0 0] _ _ _;rw[hl];exact tJ s h1 h2 hf _ rfl rfl rfl (by decide)
  ·show dxN (cs++[V.int .u8 0]).length<dxN cs.length;rw[hl,hn];omega
  ·have:dxP (cs++[.int .u8 0])=dxP cs:=by
    unfold dxP;rw[hl,hn,List.append_assoc];rw[p3,List.replicate_succ];rfl
   exact fun p hp=>hK p (hp.trans this)
 ·have h:n%64=56:=by
   have:((n%64:Nat):Int)=56:=by simpa using h
   omega
  refine⟨[.str s,.slice 0 0 8 false 0 0,.slice 1 0 64 false 0 0,.slice 2 0 n false 0 0],[.row hs 173 1,.row key 173 1,.row cs 5 1],fun K hK=>?_,tJ s h1 h2 p1 _ rfl rfl rfl (by decide)⟩;have:dxP cs=cs:=by
   unfold dxP;have:dxN cs.length=0:=by rw[hn];unfold dxN;omega
   rw[this,List.replicate_zero,List.append_nil]
  have hK:=hK cs this.symm;rw[hn]at hK;exact hK
theorem pd_loop{f:Fr}{st:St}{Q:Exit→Fr→St→Prop}(h:bK 0 (szOf Qq 192) [0,3,4,5] pdDec ob pdV pdJ (pdOutG dxP) f st Q):CodeSatW Qq none 0 (.loop (cO Qq 192 60)) f st Q:=
 bc (P:=Qq) (T:=RS0) (k:=0) (lim:=9) (n:=10) (g:=192) (p0:=60) (lk:=ah 9) aA uP (bf 9 _ _) pdMu pd_roundOk h
structure BD where
 la:List V
 x:W8
 fr:Nat
def bdV(y:BD):List V:=[.slice 0 0 8 false 0 0,.slice 1 0 64 false 0 0,.slice 2 0 y.la.length false 0 0,.int .i64 y.fr]
def bdJ(y:BD):St:=[.row y.x.cells 173 1,.row keyC 173 1,.row y.la 5 1]
def m9(y:BD):Bool:=okA y.la&&(Nat.ble y.la.length 1000000&&(Nat.ble y.fr y.la.length&&(Nat.beq (y.la.length%64) 0&&Nat.beq (y.fr%64) 0)))
def bdMu(y:BD):Nat:=y.la.length-y.fr
def uB(SL:Nat→Nat→List V→W8→W8):Asks BD:=fun y K=>∀x:W8,x=SL ((y.la.length-y.fr)/64) y.fr y.la y.x→∀fr:Int,K (.exit 4) [.slice 0 0 8 false 0 0,.slice 1 0 64 false 0 0,.slice 2 0 y.la.length false 0 0,.int .i64 fr] [.row x.cells 173 1,.dead,.dead]
theorem bd_fits(x:W8){la:List V}(h3:aM la=true){a b c:Nat}{st:St}(g1:st[a]?=some (.row x.cells 173 1))(g2:st[b]?=some (.row keyC 173 1))(g3:st[c]?=some (.row la 5 1))(hd:[a,b,c].Nodup)(k:Nat)(fr:Int):Fits 0 [.slice 0 0 8 false 0 0,.slice 1 0 64 false 0 0,.slice 2 0 k false 0 0,.int .i64 fr] [.row x.cells 173 1,.row keyC 173 1,.row la 5 1] [some (.slice a 0 8 false 0 0),some (.slice b 0 64 false 0 0),some (.slice c 0 k false 0 0),some (.int .i64 fr)] st:=
 ⟨[a,b,c],[.slice a 0 8 false 0 0,.slice b 0 64 false 0 0,.slice c 0 k false 0 0,.int .i64 fr],rfl,rfl,FitsM.of ⟨fb rfl g1,fb gM g2,fb h3 g3,trivial⟩,hd,fun i hi=>by omega⟩
theorem bd_out(x:W8)(la:List V)(k:Nat)(fr:Int):Fits 0 [.slice 0 0 8 false 0 0,.slice 1 0 64 false 0 0,.slice 2 0 k false 0 0,.int .i64 fr] [.row x.cells 173 1,.dead,.dead] [some (.slice 0 0 8 false 0 0),some (.slice 1 0 64 false 0 0),some (.slice 2 0 k false 0 0),some (.int .i64 fr)] [.row x.cells 173 1,.row keyC 173 1,.row la 5 1]:=
 ⟨[0,1,2],[.slice 0 0 8 false 0 0,.slice 1 0 64 false 0 0,.slice 2 0 k false 0 0,.int .i64 fr],rfl,rfl,FitsM.of ⟨fb rfl rfl,.inl rfl,.inl rfl,trivial⟩,by decide,fun i hi=>by omega⟩
theorem bd_roundOk(y:BD)(hy:m9 y=true):al Qq (RS2 okB gU) 9 10 (lkIn schL mixL) 192 506 [3,4,5,7] (bdV y) (bdJ y) (aD 0 m9 bdV bdJ bdMu (uB sumL) y):=by
 obtain⟨la,x,fr⟩:=y;unfold m9 at hy;rw[ad,ad,ad,ad]at hy;have p1:okA la=true:=hy.1;have p2:la.length≤1000000:=aw hy.2.1;have p3:fr≤la.length:=aw hy.2.2.1;have p4:la.length%64=0:=aP hy.2.2.2.1;have p5:fr%64=0:=aP hy.2.2.2.2;clear hy;have hf:aM la=true:=by have h:=p1;unfold okA at h;rw[ad]at h;exact h.1
 show al Qq (RS2 okB gU) 9 10 (lkIn schL mixL) 192 506 [3,4,5,7] [.slice 0 0 8 false 0 0,.slice 1 0 64 false 0 0,.slice 2 0 la.length false 0 0,.int .i64 fr] [.row [.int .u32 x.a,.int .u32 x.b,.int .u32 x.c,.int .u32 x.d,.int .u32 x.e,.int .u32 x.f,.int .u32 x.g,.int .u32 x.h] 173 1,.row keyC 173 1,.row la 5 1] _;rw[rblk_round];unfold zE_1 zE_0 zE_2;refine ac (fun hb=>?_) (fun hb=>?_)
 ·have hb:=aN hb;have hl:fr+64≤la.length:=by omega
  have e1:i64.wrap ((fr:Int)+64)=((fr+64:Nat):Int):=by rw[IntWalk.i64_in _ ⟨by omega,by omega⟩];omega
  have e0:0+fr*1=fr:=by omega
  rw[e1];simp only[bp,e0];refine aa (am (by omega)) (aa (by rw[ad];exact⟨ag (by omega),ag (by omega)⟩) (aa ?_ ?_))
  ·rw[ad];refine⟨?_,okA_B p1 hl⟩;have:fr+64-fr=64:=by omega
   rw[this];rfl
  refine⟨th (ws:=nW (gU la fr)) rfl gM hf rfl rfl rfl rfl rfl (by decide) _ _ _ _,aa ?_ fun g hg=>?_⟩
  ·unfold nY;rw[ad,ad,ad];exact⟨⟨⟨rfl,gM⟩,hf⟩,rfl⟩
  have hg:g=schL 48 (nW (gU la fr)):=hg;have g1:c8 g=true:=by rw[hg];exact lu 48 _ rfl
  have g2:g.length=64:=by rw[hg];exact pj 48 _
  refine⟨tW (x:=x) rfl hf g1 rfl rfl rfl rfl rfl (by decide) _ _ _ _,aa ?_ fun x' hx=>?_⟩
  ·unfold og;rw[ad,ad,ad,ad];exact⟨⟨rfl,hf⟩,g1,by rw[g2];rfl,rfl⟩
  have hx:x'=mixL 64 0 (df (blkA la fr)) x:=by rw[hx,hg,cells_sch]
  have fin:∀cs:List V,cs=(mixE x (df (blkA la fr))).cells→∀r:St,aD 0 m9 bdV bdJ bdMu (uB sumL) ⟨la,x,fr⟩ .normal [some (.slice 0 0 8 false 0 0),some (.slice 1 0 64 false 0 0),some (.slice 2 0 la.length false 0 0),some (.int .i64 ((fr+64:Nat):Int))] (.row cs 173 1::.row keyC 173 1::.row la 5 1::r):=by
   intro cs hcs r;subst hcs;refine⟨⟨la,mixE x (df (blkA la fr)),fr+64⟩,?_,?_,?_,fun K hK z hz=>hK z ?_⟩
   ·unfold m9;rw[ad,ad,ad,ad];refine⟨p1,ag p2,ag hl,?_,?_⟩
    ·show Nat.beq (la.length%64) 0=true;rw[p4];rfl
    ·show Nat.beq ((fr+64)%64) 0=true;have:(fr+64)%64=0:=by omega
     rw[this];rfl
   ·exact bd_fits _ hf rfl rfl rfl (by decide) _ _
   ·simp only[bdMu];omega
   ·have hz:z=sumL ((la.length-(fr+64))/64) (fr+64) la (mixE x (df (blkA la fr))):=hz;show z=sumL ((la.length-fr)/64) fr la x;have e:(la.length-fr)/64=(la.length-(fr+64))/64+1:=by omega
    rw[e,hz];rfl
  refine fin _ ?_ _;unfold mixE;rw[←hx];rw[fE x'.a,fE x'.b,fE x'.c,fE x'.d,fE x'.e,fE x'.f,fE x'.g,fE x'.h];rfl
 ·have hb:=bk hb;have hl:fr=la.length:=by omega
  refine⟨[.slice 0 0 8 false 0 0,.slice 1 0 64 false 0 0,.slice 2 0 la.length false 0 0,.int .i64 fr],[.row x.cells 173 1,.dead,.dead],fun K hK=>?_,bd_out x la _ _⟩;refine hK x ?_ fr;show x=sumL ((la.length-fr)/64) fr la x;rw[hl,Nat.sub_self,Nat.zero_div];rfl
def bdDec:List (Option V)→St→Option BD
 |[some (.slice a 0 8 false 0 0),some (.slice b 0 64 false 0 0),some (.slice c 0 _ false 0 0),some (.int .i64 0)],st=>
  match st[a]?,st[c]? with
  |some (.row [.int .u32 a1,.int .u32 a2,.int .u32 a3,.int .u32 a4,.int .u32 a5,.int .u32 a6,.int .u32 a7,.int .u32 a8] _ _),some (.row la _ _)=>some ⟨la,⟨a1,a2,a3,a4,a5,a6,a7,a8⟩,0⟩
  |_,_=>none
 |_,_=>none
theorem bd_loop{f:Fr}{st:St}{Q:Exit→Fr→St→Prop}(h:bK 0 (szOf Qq 192) [3,4,5,7] bdDec m9 bdV bdJ (uB sumL) f st Q):CodeSatW Qq none 0 (.loop (cO Qq 192 506)) f st Q:=
 bc (P:=Qq) (T:=RS2 okB gU) (k:=0) (lim:=9) (n:=10) (g:=192) (p0:=506) (lk:=lkIn schL mixL) aA RS2_ok lkIn_ok bdMu bd_roundOk h
def lkRS(FP:List V→List V)(SL:Nat→Nat→List V→W8→W8):Nat→Trans→Trans:=ba 506 (bK 0 (szOf Qq 192) [3,4,5,7] bdDec m9 bdV bdJ (uB SL)) (ba 60 (bK 0 (szOf Qq 192) [0,3,4,5] pdDec ob pdV pdJ (pdOutG FP)) (ah 10))
theorem lkRS_ok:aQ Qq 0 (lkRS dxP sumL) 192:=by
 unfold lkRS;exact bB (bB (aY 10 0 192) (by kernel_rfl) fun f st Q h=>pd_loop h) (by kernel_rfl) fun f st Q h=>bd_loop h
def RS3(FP:List V→List V)(SL:Nat→Nat→List V→W8→W8):Tab:=⟨noT,noL,cI (aT 10) 192 0 (lkRS FP SL)⟩
theorem RS3_ok:TabOk3 Qq (RS3 dxP sumL):=⟨aJ,aK,bq (au 10) lkRS_ok⟩
def zF_0(s:List UInt8):=(u64.wrap (u64.wrap (↑s.length:Int)*8))
def zF_1:=[V.int u32 1779033703,V.int u32 3144134277,V.int u32 1013904242,V.int u32 2773480762,V.int u32 1359893119,V.int u32 2600822924,V.int u32 528734635,V.int u32 1541459225]
def zF_2(s:List UInt8):=[V.int u8 (u8.wrap ((zF_0 s).fdiv 72057594037927936))]
def zF_3(s:List UInt8):=[V.int u8 (u8.wrap ((zF_0 s).fdiv 281474976710656))]
def zF_4(s:List UInt8):=[V.int u8 (u8.wrap ((zF_0 s).fdiv 1099511627776))]
def zF_5(s:List UInt8):=[V.int u8 (u8.wrap ((zF_0 s).fdiv 4294967296))]
def zF_6(s:List UInt8):=[V.int u8 (u8.wrap ((zF_0 s).fdiv 16777216))]
def zF_7(s:List UInt8):=[V.int u8 (u8.wrap ((zF_0 s).fdiv 65536))]
def zF_8(s:List UInt8):=[V.int u8 (u8.wrap ((zF_0 s).fdiv 256))]
def zF_9(s:List UInt8):=[V.int u8 (u8.wrap ((zF_0 s).fdiv 1))]
theorem rsum_tree(FP:List V→List V)(SL:Nat→Nat→List V→W8→W8)(s:List UInt8)(R:V→Prop):runW Qq (RS3 FP SL) 10 10 192 [.str s] R=
 (
 bif s.length.ble 281474976710656 then bif (List.map (fun b=>V.int u8 (↑b.toNat:Int)) s).length.beq (s.length*1)then bif (s.length+1).ble
 9223372036854775807&&((s.length+1)*1).ble 140737488355328 then Fits 0 [.str s,.slice 0 0 8 false 0 0,.slice 1 0 64 false 0 0,.slice 2 0 (List.map
 (fun b=>V.int u8 (↑b.toNat:Int)) s++[V.int u8 128]).length false 0 0] [.row zF_1 173 1,.row keyC 173 1,.row (List.map (fun b=>
 .int u8 (↑b.toNat:Int)) s++[V.int u8 128]) 5 1] [some (.str s),some (.slice 0 0 8 false 0 0),some (.slice 1 0 64 false 0 0),some
 (.slice 4 0 (s.length+1) false 0 0)] [.row zF_1 173 1,.row keyC 173 1,.dead,.row [.int u8 128] 5 1,.row (List.map (fun b=>V.int
 u8 (↑b.toNat:Int)) s++[V.int u8 128]) 5 1]∧bif ob
 {s:=s,hs:=zF_1,key:=keyC,cs:=List.map (fun b=>V.int u8 (↑b.toNat:Int)) s++[V.int u8 128]}then ∀(p:List V),p=FP
 (List.map (fun b=>V.int u8 (↑b.toNat:Int)) s++[V.int u8 128])→bif p.length.beq (p.length*1)then bif (p.length+1).ble
 9223372036854775807&&((p.length+1)*1).ble 140737488355328 then bif (p++(zF_2 s)).length.beq ((p.length+1)*1)then bif (p.length+1+1).ble
 9223372036854775807&&((p.length+1+1)*1).ble 140737488355328 then bif (p++(zF_2 s)++(zF_3 s)).length.beq ((p.length+1+1)*1)then bif (p.length+
 1+1+1).ble 9223372036854775807&&((p.length+1+1+1)*1).ble 140737488355328 then bif (p++(zF_2 s)++(zF_3 s)++(zF_4 s)).length.beq ((p.length+1
 +1+1)*1)then bif (p.length+1+1+1+1).ble 9223372036854775807&&((p.length+1+1+1+1)*1).ble 140737488355328 then bif (p++(zF_2 s)++
 (zF_3 s)++(zF_4 s)++(zF_5 s)).length.beq ((p.length+1+1+1+1)*1)then bif (p.length+1+1+1+1+1).ble 9223372036854775807&&((p.length+1+
 1+1+1+1)*1).ble 140737488355328 then bif (p++(zF_2 s)++(zF_3 s)++(zF_4 s)++(zF_5 s)++(zF_6 s)).length.beq ((p.length+1+1+1+1+1)*1)
 then bif (p.length+1+1+1+1+1+1).ble 9223372036854775807&&((p.length+1+1+1+1+1+1)*1).ble 140737488355328 then bif (p++(zF_2 s)++
 (zF_3 s)++(zF_4 s)++(zF_5 s)++(zF_6 s)++(zF_7 s)).length.beq ((p.length+1+1+1+1+1+1)*1)then bif (p.length+1+1+1+1+1+1+1).ble
 9223372036854775807&&((p.length+1+1+1+1+1+1+1)*1).ble 140737488355328 then bif (p++(zF_2 s)++(zF_3 s)++(zF_4 s)++(zF_5 s)++(zF_6 s)
 ++(zF_7 s)++(zF_8 s)).length.beq ((p.length+1+1+1+1+1+1+1)*1)then bif (p.length+1+1+1+1+1+1+1+1).ble 9223372036854775807&&
 ((p.length+1+1+1+1+1+1+1+1)*1).ble 140737488355328 then Fits 0 [.slice 0 0 8 false 0 0,.slice 1 0 64 false 0 0,.slice 2 0 (p++(zF_2 s)
 ++(zF_3 s)++(zF_4 s)++(zF_5 s)++(zF_6 s)++(zF_7 s)++(zF_8 s)++(zF_9 s)).length false 0 0,.int i64 0] [.row zF_1 173 1,.row keyC 173
 1,.row (p++(zF_2 s)++(zF_3 s)++(zF_4 s)++(zF_5 s)++(zF_6 s)++(zF_7 s)++(zF_8 s)++(zF_9 s)) 5 1] [some (.slice 0 0 8 false 0 0),some
 (.slice 1 0 64 false 0 0),some (.slice 18 0 (p.length+1+1+1+1+1+1+1+1) false 0 0),some (.int i64 0)] [.row zF_1 173 1,.row
 keyC 173 1,.dead,.row (zF_2 s) 5 1,.dead,.row (zF_3 s) 5 1,.dead,.row (zF_4 s) 5 1,.dead,.row (zF_5 s) 5 1,.dead,.row
 (zF_6 s) 5 1,.dead,.row (zF_7 s) 5 1,.dead,.row (zF_8 s) 5 1,.dead,.row (zF_9 s) 5 1,.row (p++(zF_2 s)++(zF_3 s)++(zF_4 s)++
 (zF_5 s)++(zF_6 s)++(zF_7 s)++(zF_8 s)++(zF_9 s)) 5 1]∧bif m9
 {la:=p++(zF_2 s)++(zF_3 s)++(zF_4 s)++(zF_5 s)++(zF_6 s)++(zF_7 s)++(zF_8 s)++(zF_9 s),x:={a:=1779033703,b:=3144134277,c:=1013904242,d:=2773480762,e:=1359893119,f:=2600822924,g:=528734635,h:=1541459225},fr:=0}
 then ∀(x:W8),x=SL (((p++(zF_2 s)++(zF_3 s)++(zF_4 s)++(zF_5 s)++(zF_6 s)++(zF_7 s)++(zF_8 s)++(zF_9 s)).length-0)/64) 0 (p++(zF_2 s)
 ++(zF_3 s)++(zF_4 s)++(zF_5 s)++(zF_6 s)++(zF_7 s)++(zF_8 s)++(zF_9 s))
 {a:=1779033703,b:=3144134277,c:=1013904242,d:=2773480762,e:=1359893119,f:=2600822924,g:=528734635,h:=1541459225}→∀(fr:Int),R
 (.str (List.map Vm.byteOf [.int u8 (u8.wrap (x.a.fdiv 16777216)),.int u8 (u8.wrap (x.a.fdiv 65536)),.int u8
 (u8.wrap (x.a.fdiv 256)),.int u8 (u8.wrap x.a),.int u8 (u8.wrap (x.b.fdiv 16777216)),.int u8
 (u8.wrap (x.b.fdiv 65536)),.int u8 (u8.wrap (x.b.fdiv 256)),.int u8 (u8.wrap x.b),.int u8 (u8.wrap
 (x.c.fdiv 16777216)),.int u8 (u8.wrap (x.c.fdiv 65536)),.int u8 (u8.wrap (x.c.fdiv 256)),.int u8 (u8.wrap
 x.c),.int u8 (u8.wrap (x.d.fdiv 16777216)),.int u8 (u8.wrap (x.d.fdiv 65536)),.int u8 (u8.wrap (x.d.fdiv
 256)),.int u8 (u8.wrap x.d),.int u8 (u8.wrap (x.e.fdiv 16777216)),.int u8 (u8.wrap (x.e.fdiv 65536)),.int
 u8 (u8.wrap (x.e.fdiv 256)),.int u8 (u8.wrap x.e),.int u8 (u8.wrap (x.f.fdiv 16777216)),.int u8
 (u8.wrap (x.f.fdiv 65536)),.int u8 (u8.wrap (x.f.fdiv 256)),.int u8 (u8.wrap x.f),.int u8 (u8.wrap
 (x.g.fdiv 16777216)),.int u8 (u8.wrap (x.g.fdiv 65536)),.int u8 (u8.wrap (x.g.fdiv 256)),.int u8 (u8.wrap
 x.g),.int u8 (u8.wrap (x.h.fdiv 16777216)),.int u8 (u8.wrap (x.h.fdiv 65536)),.int u8 (u8.wrap (x.h.fdiv
 256)),.int u8 (u8.wrap x.h)]))else False else False else False else False else False else False else False else False else False else False
 else False else False else False else False else False else False else False else False else False else False else False):=by kernel_rfl
theorem rsum_ok(args:List V)(l:Qx)(o:V×St)(h:sumT args=some l)(ho:aL l=some o):FnSat Qq 192 args [] (Is o):=by
 unfold sumT at h;split at h
 ·rename_i s;cases h;cases hk:okL s with
  |false=>rw[hk]at ho;cases ho
  |true=>
  rw[hk]at ho;cases ho;have p1:=okL_le hk;have hc:okA (bys s++[V.int .u8 128])=true:=cR (okA_bys s) rfl;have hcl:(bys s++[V.int .u8 128]).length=s.length+1:=aG (bys_len s);have hP:okA (padP s)=true:=cR hc (okA_rep _);have hPl:(padP s).length=s.length+1+dxN (s.length+1):=by unfold padP dxP;rw[bQ,List.length_replicate,hcl]
  have hN:dxN (s.length+1)<64:=by unfold dxN;omega
  have hM:(padP s).length%64=56:=by rw[hPl];unfold dxN;omega
  have hcf:aM (bys s++[V.int .u8 128])=true:=by have h:=hc;unfold okA at h;rw[ad]at h;exact h.1
  refine ax (lim:=10) (n:=10) aA RS3_ok rfl rfl ?_;rw[rsum_tree];unfold zF_9 zF_8 zF_7 zF_6 zF_5 zF_4 zF_3 zF_2 zF_1 zF_0;refine aa (ag (by omega)) (cN (bys_ln s) (by omega) ⟨?_,aa ?_ (fun p hp=>?_)⟩)
  ·have:=tJ s (hs:=ivW.cells) (key:=keyC) (cs:=bys s++[V.int .u8 128]) rfl gM hcf (bys s++[V.int .u8 128]).length (a:=0) (b:=1) (c:=4) (st:=[.row ivW.cells 173 1,.row keyC 173 1,.dead,.row [.int .u8 128] 5 1,.row (bys s++[V.int .u8 128]) 5 1]) rfl rfl rfl (by decide);have hcl2:(List.map (fun b:UInt8=>V.int .u8 (b.toNat:Int)) s++[V.int .u8 128]).length=s.length+1:=hcl;rw[hcl2];rw[hcl]at this;exact this
  ·unfold ob;rw[ad,ad,ad];refine⟨⟨rfl,gM⟩,hcf,ag ?_⟩;show(bys s++[V.int .u8 128]).length+dxN (bys s++[V.int .u8 128]).length≤1000000;rw[hcl];omega
  ·have hp:p=padP s:=hp;have hl:p.length≤200000:=by rw[hp];omega
   have hA:okA (la8 p s.length)=true:=by
    rw[hp];unfold la8;exact cR (cR (cR (cR (cR (cR (cR (cR hP rfl) rfl) rfl) rfl) rfl) rfl) rfl) rfl
   have hF:aM (la8 p s.length)=true:=by have h:=hA;unfold okA at h;rw[ad]at h;exact h.1
   have hL:(la8 p s.length).length=p.length+1+1+1+1+1+1+1+1:=aG (aG (aG (aG (aG (aG (aG (aG rfl)))))));refine cN rfl (by omega) (cN (aG rfl) (by omega) (cN (aG (aG rfl)) (by omega) (cN (aG (aG (aG rfl))) (by omega) (cN (aG (aG (aG (aG rfl)))) (by omega) (cN (aG (aG (aG (aG (aG rfl))))) (by omega) (cN (aG (aG (aG (aG (aG (aG rfl)))))) (by omega) (cN (aG (aG (aG (aG (aG (aG (aG rfl))))))) (by omega) (?_))))))));refine⟨?_,aa ?_ (fun x hx fr=>?_)⟩
   ·have:=fun st g1 g2 g3=>bd_fits ivW (la:=la8 p s.length) hF (a:=0) (b:=1) (c:=18) (st:=st) g1 g2 g3 (by decide) (la8 p s.length).length 0;rw[hL]at this;have h2:(p++[lenD s.length 72057594037927936]++[lenD s.length 281474976710656]++[lenD s.length 1099511627776]++[lenD s.length 4294967296]++[lenD s.length 16777216]++[lenD s.length 65536]++[lenD s.length 256]++[lenD s.length 1]).length=p.length+1+1+1+1+1+1+1+1:=hL;unfold lenD at h2;rw[h2];exact this _ rfl rfl rfl
   ·unfold m9;rw[ad,ad,ad,ad];refine⟨hA,ag ?_,ag (Nat.zero_le _),?_,rfl⟩
    ·show(la8 p s.length).length≤1000000;rw[hL];omega
    ·show Nat.beq ((la8 p s.length).length%64) 0=true;have:(la8 p s.length).length%64=0:=by rw[hL,hp];omega
     rw[this];rfl
   ·have hx:x=sumL (((la8 p s.length).length-0)/64) 0 (la8 p s.length) ivW:=hx;have hx:x=sumW s:=by rw[hx,Nat.sub_zero,hL,hp];rfl
    rw[hx];rfl
 ·cases h
theorem byte1_tree(n:Int)(R:V→Prop):runW Qq DT9 9 10 183 [.int .i64 n] R=
  (
 R (.str (List.map Vm.byteOf [.int u8 (u8.wrap (n.tmod 256))]))):=by kernel_rfl
def oneB(n:Int):UInt8:=UInt8.ofNat (u8.wrap (n.tmod 256)).toNat
def nT:List V→Option V
 |[.int .i64 n]=>some (.str [oneB n])
 |_=>none
def RN13:Tab:=⟨addP noT 183 nT,noL,aT 9⟩
theorem ri_round1(n u i:Int)(s:List UInt8)(R:Qz):al Qq RN13 9 10 (ah 9) 145 122 [0,2,3,4,5] [.int .i64 n,.str [],.str s,.int .u64 u,.int .i64 i] [] R=
  (
 bif decide (i<8)then bif (1+s.length).ble 9223372036854775807 then R .normal [some (.int i64 n),some (.str []),some (.str ([oneB (i64.wrap
 (u.tmod 256))]++s)),some (.int u64 (u64.wrap (u.tdiv 256))),some (.int i64 (i64.wrap (i+1)))] []else False else R (.exit 0)
 [some (.int i64 n),some (.str []),some (.str s),some (.int u64 u),some (.int i64 i)] []):=by kernel_rfl
def zG_0(n:Int)(s:List UInt8):=[some (V.int i64 n),some (V.str []),some (V.str s)]
def zG_1(n:Int)(s:List UInt8):=[some (V.int i64 n),some (V.str []),some (V.str (List.take (s.length-1) (List.drop 1 s)))]
theorem ri_round2(n:Int)(s:List UInt8)(R:Qz):al Qq RN13 9 10 (ah 9) 145 124 [0,2,3] [.int .i64 n,.str [],.str s] [] R=
 (
 bif decide ((↑s.length:Int)>1)then bif true&&Nat.blt 0 s.length then bif (↑(s.getD 0 0).toNat:Int)==0 then bif true&&Nat.blt 1 s.length then bif
 decide ((↑(s.getD 1 0).toNat:Int)<128)then bif Nat.ble 1 s.length&&s.length.ble s.length then R .normal (zG_1 n s) []else False else bif true&&
 Nat.blt 0 s.length then bif (↑(s.getD 0 0).toNat:Int)==255 then bif true&&Nat.blt 1 s.length then bif decide ((↑(s.getD 1 0).toNat:Int)≥128)then bif
 Nat.ble 1 s.length&&s.length.ble s.length then R .normal (zG_1 n s) []else False else R (.exit 2) (zG_0 n s) []else False else R (.exit 2) (zG_0
 n s) []else False else False else bif true&&Nat.blt 0 s.length then bif (↑(s.getD 0 0).toNat:Int)==255 then bif true&&Nat.blt 1 s.length then bif decide
 ((↑(s.getD 1 0).toNat:Int)≥128)then bif Nat.ble 1 s.length&&s.length.ble s.length then R .normal (zG_1 n s) []else False else R (.exit 2) (zG_0 n
 s) []else False else R (.exit 2) (zG_0 n s) []else False else False else R (.exit 2) (zG_0 n s) []):=by kernel_rfl
theorem rr_round(s:List UInt8)(u i:Int)(R:Qz):al Qq RN13 9 10 (ah 9) 83 250 [0,2,3,4,5] [.str s,.int .i64 0,.int .i64 0,.int .u64 u,.int .i64 i] [] R=
  (
 bif decide (i<(↑s.length:Int))then bif decide (0≤i)&&i.toNat.blt s.length then R .normal [some (.str s),some (.int i64 0),some (.int i64
 0),some (.int u64 (u64.wrap (u64.wrap (u*256)+u64.wrap (↑(s.getD i.toNat 0).toNat:Int)))),some (.int i64
 (i64.wrap (i+1)))] []else False else R (.exit 0) [some (.str s),some (.int i64 0),some (.int i64 0),some (.int u64 u),some
 (.int i64 i)] []):=by kernel_rfl
theorem rbool_tree(b:Bool)(R:V→Prop):runW Qq RN13 9 10 146 [.bool b] R=
  (
 bif b then R (.str [255])else R (.str [0])):=by kernel_rfl
theorem tp(s:List UInt8)(R:V→Prop):runW Qq RN13 9 10 84 [.str s] R=
  (
 bif (↑s.length:Int)==1 then bif true&&Nat.blt 0 s.length then bif (↑(s.getD 0 0).toNat:Int)==0 then bif true&&Nat.blt 0 s.length then R (.tuple [.bool
 ((↑(s.getD 0 0).toNat:Int)==255),.int i64 0])else False else bif true&&Nat.blt 0 s.length then bif (↑(s.getD 0 0).toNat:Int)==255 then bif true&&
 Nat.blt 0 s.length then R (.tuple [.bool ((↑(s.getD 0 0).toNat:Int)==255),.int i64 0])else False else R (.tuple [.bool false,.int i64 4])
 else False else False else R (.tuple [.bool false,.int i64 4])):=by kernel_rfl
theorem m7(args:List V)(v:V)(h:nT args=some v):FnSat Qq 183 args [] (Is (v,[])):=by
 unfold nT at h;split at h
 ·cases h;refine ax (lim:=9) (n:=10) aA DT9_ok rfl rfl ?_;rw[byte1_tree];rfl
 ·cases h
theorem kJ:TabOk3 Qq RN13:=⟨bg aJ m7,aK,au 9⟩
theorem tX(n:Int)(j:Nat)(hj:j≤6):bO n≤(j:Int)+1↔(-(128*((256^j:Nat):Int))≤n∧n<128*((256^j:Nat):Int)):=by
 obtain rfl|rfl|rfl|rfl|rfl|rfl|rfl:j=0∨j=1∨j=2∨j=3∨j=4∨j=5∨j=6:=by omega
 ·have:=sd n;simp at this ⊢;omega
 ·have:=sb n;simp at this ⊢;omega
 ·have:=r9 n;simp at this ⊢;omega
 ·have:=r8 n;simp at this ⊢;omega
 ·have:=r7 n;simp at this ⊢;omega
 ·have:=rZ n;simp at this ⊢;omega
 ·have:=rY n;simp at this ⊢;omega
def red(b0 b1:UInt8):Prop:=(b0.toNat=0∧b1.toNat<128)∨(b0.toNat=255∧b1.toNat≥128)
theorem red_iff(b0 b1:UInt8)(r:List UInt8)(hr:r.length≤6):red b0 b1↔bO (dec (b0::b1::r))≤(r.length:Int)+1:=by
 rw[tX _ _ hr];have h0:=b0.toNat_lt;have h1:=b1.toNat_lt;have hp:=eI r.length;have hd:=gi r (sgnB b0*256+b1.toNat);simp only[dec,decF];generalize ((256^r.length:Nat):Int)=c at*
 generalize decF (sgnB b0*256+b1.toNat) r=D at*
 generalize hq:sgnB b0*256+b1.toNat=q at*
 have hs:sgnB b0=b0.toNat∨sgnB b0=(b0.toNat:Int)-256:=by unfold sgnB;split<;>simp
 have hs2:sgnB b0=if b0.toNat≥128 then(b0.toNat:Int)-256 else b0.toNat:=rfl
 have hrq:red b0 b1↔(-128≤q∧q≤127):=by
  unfold red;split at hs2<;>omega
 rw[hrq];constructor
 ·intro h;have e1:-128*c≤q*c:=Int.mul_le_mul_of_nonneg_right h.1 (by omega);have e2:(q+1)*c≤128*c:=Int.mul_le_mul_of_nonneg_right (by omega) (by omega);omega
 ·intro h;refine⟨?_,?_⟩
  ·refine Int.not_lt.1 fun hlt=>?_;have e2:(q+1)*c≤-128*c:=Int.mul_le_mul_of_nonneg_right (by omega) (by omega);omega
  ·refine Int.not_lt.1 fun hlt=>?_;have e1:128*c≤q*c:=Int.mul_le_mul_of_nonneg_right (by omega) (by omega);omega
theorem many_dec(b:UInt8)(r:List UInt8)(hr:r.length≤7):bO (dec (b::r))≤(r.length:Int)+1:=by
 by_cases h:r.length≤6
 ·rw[tX _ _ h];exact lU b r
 ·have:=fN (dec (b::r));omega
theorem dec_beL{n:Int}(h0:-9223372036854775808≤n)(h1:n≤9223372036854775807){m:Nat}(hm:bO n≤m+1)(h7:m≤7):dec (beL (m+1) n)=n:=by
 by_cases h:m≤6
 ·have:=(tX n m h).1 hm;exact dec_be this.1 this.2
 ·have:m=7:=by omega
  subst this;exact dec_be (by simp;omega) (by simp;omega)
def uAt(n:Int)(i:Nat):Int:=(n%18446744073709551616)/((256^i:Nat):Int)
theorem oneB_nat{u:Int}(h0:0≤u):((oneB (i64.wrap (u.tmod 256))).toNat:Int)=u%256:=by
 have e:u.tmod 256=u%256:=Int.tmod_eq_emod_of_nonneg h0;have b1:=Int.emod_nonneg u (show(256:Int)≠0 by omega);have b2:=Int.emod_lt_of_pos u (show(0:Int)<256 by omega);rw[e,IntWalk.i64_in _ ⟨by omega,by omega⟩];unfold oneB;rw[Int.tmod_eq_emod_of_nonneg b1,IntKind.wrap_u8,UInt8.toNat_ofNat'];omega
theorem uAt_step(n:Int)(i:Nat)(hi:i<8):0≤uAt n i∧uAt n i<18446744073709551616∧uAt n i%256=(n/((256^i:Nat):Int))%256∧uAt n i/256=uAt n (i+1):=by
 obtain rfl|rfl|rfl|rfl|rfl|rfl|rfl|rfl:i=0∨i=1∨i=2∨i=3∨i=4∨i=5∨i=6∨i=7:=by omega
 all_goals simp only[uAt,Nat.reducePow,Nat.reduceAdd]
 all_goals omega
structure AS where
 n:Int
 s:List UInt8
 i:Nat
def asV(x:AS):List V:=[.int .i64 x.n,.str [],.str x.s,.int .u64 (uAt x.n x.i),.int .i64 x.i]
def sS(x:AS):Bool:=decide (x.i≤8)&&decide (x.s=beL x.i x.n)
def asJ(x:AS):St:=[]
def asMu(x:AS):Nat:=8-x.i
def asOut:Asks AS:=fun x K=>K (.exit 0) (asV ⟨x.n,beL 8 x.n,8⟩) []
theorem uE(x:AS):Fits 0 (asV x) [] ((asV x).map some) []:=⟨[],asV x,rfl,rfl,FitsM.of trivial,by simp,fun i hi=>by omega⟩
theorem as_round(x:AS)(hx:sS x=true):al Qq RN13 9 10 (ah 9) 145 122 [0,2,3,4,5] (asV x) (asJ x) (aD 0 sS asV asJ asMu asOut x):=by
 obtain⟨n,s,i⟩:=x;simp only[sS,ad,decide_eq_true_eq]at hx;have p1:=hx.1;have p2:=hx.2;clear hx;show al Qq RN13 9 10 (ah 9) 145 122 [0,2,3,4,5] [.int .i64 n,.str [],.str s,.int .u64 (uAt n i),.int .i64 i] [] _;rw[ri_round1];have hl:s.length=i:=by rw[p2];exact o4 n i
 refine ac (fun h=>aa (ag (by omega)) ?_) (fun h=>?_)
 ·have h:=aN h;have hu:=uAt_step n i (by omega);have hb:=im n i;have ho:=oneB_nat hu.1;have e1:[oneB (i64.wrap ((uAt n i).tmod 256))]++s=beL (i+1) n:=by
   simp only[beL,List.cons_append,List.nil_append,←p2];congr 1;apply UInt8.toNat_inj.1;omega
  have e2:u64.wrap ((uAt n i).tdiv 256)=uAt n (i+1):=by
   rw[Int.tdiv_eq_ediv_of_nonneg hu.1,hu.2.2.2,IntKind.wrap_u64];rw[←hu.2.2.2];omega
  have e3:i64.wrap ((i:Int)+1)=((i+1:Nat):Int):=by rw[IntWalk.i64_in _ ⟨by omega,by omega⟩];omega
  rw[e1,e2,e3];refine⟨⟨n,beL (i+1) n,i+1⟩,?_,uE _,by simp only[asMu];omega,fun K hK=>hK⟩;simp only[sS,ad,decide_eq_true_eq];exact⟨by omega,trivial⟩
 ·have h:=bk h;have:i=8:=by omega
  subst this;subst p2;exact⟨_,_,fun K hK=>hK,uE ⟨n,beL 8 n,8⟩⟩
theorem red_leaf{x0 x1:UInt8}{A B:Prop}(hA:red x0 x1→A)(hB:¬red x0 x1→B):
  (bif (x0.toNat:Int)==0 then bif decide ((x1.toNat:Int)<128)then A else bif (x0.toNat:Int)==255 then bif decide ((x1.toNat:Int)≥128)then A else B else B
    else bif (x0.toNat:Int)==255 then bif decide ((x1.toNat:Int)≥128)then A else B else B):=by
 unfold red at hA hB;cases h1:((x0.toNat:Int)==0)<;>cases h2:decide ((x1.toNat:Int)<128)<;>cases h3:((x0.toNat:Int)==255)<;>cases h4:decide ((x1.toNat:Int)≥128)<;>simp only[ae,ak]<;>
  first
   |(apply hA;clear hA hB;simp only[beq_iff_eq,beq_eq_false_iff_ne,decide_eq_true_eq,decide_eq_false_iff_not]at h1 h2 h3 h4;omega)
   |(apply hB;clear hA hB;simp only[beq_iff_eq,beq_eq_false_iff_ne,decide_eq_true_eq,decide_eq_false_iff_not]at h1 h2 h3 h4;omega)
structure BS where
 n:Int
 s:List UInt8
def bsV(x:BS):List V:=[.int .i64 x.n,.str [],.str x.s]
def okI(n:Int):Bool:=decide (-9223372036854775808≤n)&&decide (n≤9223372036854775807)
def j9(x:BS):Bool:=okI x.n&&decide (bO x.n≤x.s.length)&&decide (x.s.length≤8)&&decide (x.s=beL x.s.length x.n)
def bsJ(x:BS):St:=[]
def bsMu(x:BS):Nat:=x.s.length
def sO:Asks BS:=fun x K=>K (.exit 2) (bsV ⟨x.n,intL x.n⟩) []
theorem uz(x:BS):Fits 0 (bsV x) [] ((bsV x).map some) []:=⟨[],bsV x,rfl,rfl,FitsM.of trivial,by simp,fun i hi=>by omega⟩
theorem bs_round(x:BS)(hx:j9 x=true):al Qq RN13 9 10 (ah 9) 145 124 [0,2,3] (bsV x) (bsJ x) (aD 0 j9 bsV bsJ bsMu sO x):=by
 obtain⟨n,s⟩:=x;simp only[j9,okI,ad,decide_eq_true_eq]at hx;have q1:=hx.1.1.1.1;have q2:=hx.1.1.1.2;have p1:=hx.1.1.2;have p2:=hx.1.2;have p3:=hx.2;clear hx;have hmx:=fN n;have stop:bO n=s.length→aD 0 j9 bsV bsJ bsMu sO ⟨n,s⟩ (.exit 2) ((bsV ⟨n,s⟩).map some) []:=by
  intro h;have e:intL n=s:=by unfold intL;rw[h,bp];exact p3.symm
  refine⟨bsV ⟨n,intL n⟩,[],fun K hK=>hK,?_⟩;rw[e];exact uz _
 show al Qq RN13 9 10 (ah 9) 145 124 [0,2,3] [.int .i64 n,.str [],.str s] [] _;rw[ri_round2];unfold zG_1 zG_0
 match s,p1,p2,p3,stop with
 |[],p1,_,_,_=>simp at p1;omega
 |[b],p1,_,_,stop=>
  simp only[bi,List.length_nil]at p1 ⊢;refine ac (fun h=>?_) (fun h=>stop (by simp;omega));have:=aN h;omega
 |b0::b1::r,p1,p2,p3,stop=>
  simp only[bi]at p1 p2;have hd:dec (b0::b1::r)=n:=by
   rw[p3];exact dec_beL q1 q2 (m:=r.length+1) (by omega) (by omega)
  have hr:=red_iff b0 b1 r (by omega);rw[hd]at hr;have htail:b1::r=beL (r.length+1) n:=by
   have:b0::b1::r=beL (r.length+1+1) n:=p3;rw[beL]at this;exact(List.cons.inj this).2
  have next:red b0 b1→aD 0 j9 bsV bsJ bsMu sO ⟨n,b0::b1::r⟩ .normal ((bsV ⟨n,b1::r⟩).map some) []:=by
   intro h;refine⟨⟨n,b1::r⟩,?_,uz _,by simp only[bsMu,bi];omega,fun K hK=>hK⟩;simp only[j9,okI,ad,decide_eq_true_eq,bi];exact⟨⟨⟨⟨q1,q2⟩,hr.1 h⟩,by omega⟩,htail⟩
  have done:¬red b0 b1→aD 0 j9 bsV bsJ bsMu sO ⟨n,b0::b1::r⟩ (.exit 2) ((bsV ⟨n,b0::b1::r⟩).map some) []:=by
   intro h;refine stop ?_;have:¬bO n≤(r.length:Int)+1:=fun h2=>h (hr.2 h2);simp only[bi];omega
  have et:List.take ((b0::b1::r).length-1) (List.drop 1 (b0::b1::r))=b1::r:=by simp
  have c1:decide (((b0::b1::r).length:Int)>1)=true:=am (by simp;omega);have c2:(true&&Nat.blt 0 (b0::b1::r).length)=true:=by simp[gF]
  have c3:(true&&Nat.blt 1 (b0::b1::r).length)=true:=by simp[gF]
  have c4:(Nat.ble 1 (b0::b1::r).length&&(b0::b1::r).length.ble (b0::b1::r).length)=true:=by simp[uA]
  rw[et,c1,c2,c3,c4];simp only[ae,List.getD_cons_zero,List.getD_cons_succ];exact red_leaf next done
def asDec:List (Option V)→St→Option AS
 |[some (.int .i64 n),some (.str []),some (.str s),some (.int .u64 u),some (.int .i64 i)],[]=>some ⟨n,s,i.toNat⟩
 |_,_=>none
def bsDec:List (Option V)→St→Option BS
 |[some (.int .i64 n),some (.str []),some (.str s)],[]=>some ⟨n,s⟩
 |_,_=>none
def lk17b:Nat→Trans→Trans:=ba 124 (bK 0 (szOf Qq 145) [0,2,3] bsDec j9 bsV bsJ sO) (ah 9)
def lkN17:Nat→Trans→Trans:=ba 122 (bK 0 (szOf Qq 145) [0,2,3,4,5] asDec sS asV asJ asOut) lk17b
theorem as_loop{f:Fr}{st:St}{Q:Exit→Fr→St→Prop}(h:bK 0 (szOf Qq 145) [0,2,3,4,5] asDec sS asV asJ asOut f st Q):CodeSatW Qq none 0 (.loop (cO Qq 145 122)) f st Q:=
 bc (P:=Qq) (T:=RN13) (k:=0) (lim:=9) (n:=10) (g:=145) (p0:=122) (lk:=ah 9) aA kJ (bf 9 _ _) asMu as_round h
theorem bs_loop{f:Fr}{st:St}{Q:Exit→Fr→St→Prop}(h:bK 0 (szOf Qq 145) [0,2,3] bsDec j9 bsV bsJ sO f st Q):CodeSatW Qq none 0 (.loop (cO Qq 145 124)) f st Q:=
 bc (P:=Qq) (T:=RN13) (k:=0) (lim:=9) (n:=10) (g:=145) (p0:=124) (lk:=ah 9) aA kJ (bf 9 _ _) bsMu bs_round h
theorem lkN17_ok:aQ Qq 0 lkN17 145:=by
 unfold lkN17 lk17b;exact bB (bB (aY 9 0 145) (by kernel_rfl) fun f st Q h=>bs_loop h) (by kernel_rfl) fun f st Q h=>as_loop h
def RN14:Tab:=⟨addP noT 183 nT,noL,cI (aT 9) 145 0 lkN17⟩
theorem RN14_ok:TabOk3 Qq RN14:=⟨bg aJ m7,aK,bq (au 9) lkN17_ok⟩
theorem rint_tree(n:Int)(R:V→Prop):runW Qq RN14 9 10 145 [.int .i64 n] R=
  (
 Fits 0 [.int i64 n,.str [],.str [],.int u64 (uAt n 0),.int i64 0] [] [some (.int i64 n),some (.str []),some (.str []),some
 (.int u64 (u64.wrap n)),some (.int i64 0)] []∧Fits 0 [.int i64 n,.str [],.str (beL 8 n)] [] [some (.int i64 n),some
 (.str []),some (.str (beL 8 n))] []∧bif j9 {n:=n,s:=beL 8 n}then R (.str (intL n))else False):=by kernel_rfl
def rintF:List V→Option (Qx)
 |[.int .i64 n]=>some [(okI n,(.str (intL n),[]))]
 |_=>none
theorem rint_ok(args:List V)(l:Qx)(o:V×St)(h:rintF args=some l)(ho:aL l=some o):FnSat Qq 145 args [] (Is o):=by
 unfold rintF at h;split at h
 ·rename_i n;cases h;cases ht:okI n with
  |false=>rw[ht]at ho;simp[aL]at ho
  |true=>
   rw[ht]at ho;simp only[aL,ae,af]at ho;subst ho;refine ax (lim:=9) (n:=10) aA RN14_ok rfl rfl ?_;rw[rint_tree];have hmx:=fN n;have e:u64.wrap n=uAt n 0:=by
    rw[IntKind.wrap_u64];simp only[uAt,Nat.reducePow];omega
   rw[e];refine⟨uE ⟨n,[],0⟩,⟨uz ⟨n,beL 8 n⟩,aa ?_ rfl⟩⟩
   ·simp only[j9,ht,o4,aH,ad,decide_eq_true_eq];exact⟨⟨by omega,by omega⟩,trivial⟩
 ·cases h
structure US where
 s:List UInt8
 u:Int
 i:Nat
def usV(x:US):List V:=[.str x.s,.int .i64 0,.int .i64 0,.int .u64 x.u,.int .i64 x.i]
def topC(s:List UInt8):Int:=if(s.getD 0 0).toNat≥128 then-1 else 0
def ft(x:US):Bool:=decide (x.i≤x.s.length)&&decide (x.s.length≤8)&&decide (x.u=u64.wrap (decF (topC x.s) (x.s.take x.i)))
def usJ(x:US):St:=[]
def usMu(x:US):Nat:=x.s.length-x.i
def usOut:Asks US:=fun x K=>K (.exit 0) (usV ⟨x.s,u64.wrap (decF (topC x.s) x.s),x.s.length⟩) []
theorem oQ(x:US):Fits 0 (usV x) [] ((usV x).map some) []:=⟨[],usV x,rfl,rfl,FitsM.of trivial,by simp,fun i hi=>by omega⟩
theorem decF_take{s:List UInt8}{a:Int}{i:Nat}(h:i<s.length):decF a (s.take (i+1))=decF a (s.take i)*256+(s.getD i 0).toNat:=by
 rw[List.take_add_one,List.getElem?_eq_getElem h,Option.toList_some,j3,bX,List.getElem?_eq_getElem h,Option.getD_some]
theorem us_round(x:US)(hx:ft x=true):al Qq RN13 9 10 (ah 9) 83 250 [0,2,3,4,5] (usV x) (usJ x) (aD 0 ft usV usJ usMu usOut x):=by
 obtain⟨s,u,i⟩:=x;simp only[ft,ad,decide_eq_true_eq]at hx;have p1:=hx.1.1;have p2:=hx.1.2;have p3:=hx.2;clear hx;show al Qq RN13 9 10 (ah 9) 83 250 [0,2,3,4,5] [.str s,.int .i64 0,.int .i64 0,.int .u64 u,.int .i64 i] [] _;rw[rr_round];cases hb:decide ((i:Int)<s.length)with
 |true=>
  rw[ae];have h:=aN hb;have hi:i<s.length:=by omega
  refine aa ?_ ?_
  ·rw[am (show(0:Int)≤i by omega),bp,aH];exact ag hi
  ·have e1:i64.wrap ((i:Int)+1)=((i+1:Nat):Int):=by rw[IntWalk.i64_in _ ⟨by omega,by omega⟩];omega
   have e2:=decF_take (a:=topC s) hi;rw[e1,bp];refine⟨⟨s,u64.wrap (u64.wrap (u*256)+u64.wrap (s.getD i 0).toNat),i+1⟩,?_,oQ _,by simp only[usMu];omega,fun K hK=>hK⟩;simp only[ft,ad,decide_eq_true_eq];refine⟨⟨by omega,p2⟩,?_⟩;rw[e2,p3];simp only[IntKind.wrap_u64];omega
 |false=>
  rw[ak];have h:=bk hb;have hi:i=s.length:=by omega
  subst hi;rw[p3,List.take_length];exact⟨_,_,fun K hK=>hK,oQ ⟨s,u64.wrap (decF (topC s) s),s.length⟩⟩
def usDec:List (Option V)→St→Option US
 |[some (.str s),some (.int .i64 0),some (.int .i64 0),some (.int .u64 u),some (.int .i64 i)],[]=>some ⟨s,u,i.toNat⟩
 |_,_=>none
def lkN13:Nat→Trans→Trans:=ba 250 (bK 0 (szOf Qq 83) [0,2,3,4,5] usDec ft usV usJ usOut) (ah 9)
theorem us_loop{f:Fr}{st:St}{Q:Exit→Fr→St→Prop}(h:bK 0 (szOf Qq 83) [0,2,3,4,5] usDec ft usV usJ usOut f st Q):CodeSatW Qq none 0 (.loop (cO Qq 83 250)) f st Q:=
 bc (P:=Qq) (T:=RN13) (k:=0) (lim:=9) (n:=10) (g:=83) (p0:=250) (lk:=ah 9) aA kJ (bf 9 _ _) usMu us_round h
theorem lkN13_ok:aQ Qq 0 lkN13 83:=by
 unfold lkN13;exact bB (aY 9 0 83) (by kernel_rfl) fun f st Q h=>us_loop h
def RN15:Tab:=⟨noT,noL,cI (aT 9) 83 0 lkN13⟩
theorem RN15_ok:TabOk3 Qq RN15:=⟨aJ,aK,bq (au 9) lkN13_ok⟩
def zG_2(s:List UInt8):=V.tuple [V.int i64 (i64.wrap (u64.wrap (decF (topC s) s))),V.int i64 0]
def zG_3(s:List UInt8):=[some (V.str s),some (V.int i64 0),some (V.int i64 0),some (V.int u64 18446744073709551615),some (V.int i64 0)]
def zG_4(s:List UInt8):=[some (V.str s),some (V.int i64 0),some (V.int i64 0),some (V.int u64 0),some (V.int i64 0)]
def zG_5(s:List UInt8):=[V.str s,V.int i64 0,V.int i64 0,V.int u64 18446744073709551615,V.int i64 0]
def zG_6(s:List UInt8):=[V.str s,V.int i64 0,V.int i64 0,V.int u64 0,V.int i64 0]
def zG_7:=V.tuple [V.int i64 0,V.int i64 4]
theorem rread_tree(s:List UInt8)(R:V→Prop):runW Qq RN15 9 10 83 [.str s] R=
 (
 bif s==[]then R zG_7 else bif decide ((↑s.length:Int)>8)then R zG_7 else bif decide ((↑s.length:Int)>1)then bif true&&Nat.blt 0 s.length then bif
 (↑(s.getD 0 0).toNat:Int)==0 then bif true&&Nat.blt 1 s.length then bif decide ((↑(s.getD 1 0).toNat:Int)<128)then R zG_7 else bif true&&Nat.blt 0
 s.length then bif (↑(s.getD 0 0).toNat:Int)==255 then bif true&&Nat.blt 1 s.length then bif decide ((↑(s.getD 1 0).toNat:Int)≥128)then R zG_7 else bif
 true&&Nat.blt 0 s.length then bif decide ((↑(s.getD 0 0).toNat:Int)≥128)then Fits 0 (zG_5 s) [] (zG_3 s) []∧bif ft
 {s:=s,u:=18446744073709551615,i:=0}then R (zG_2 s)else False else Fits 0 (zG_6 s) [] (zG_4 s) []∧bif ft {s:=s,u:=0,i:=0}then R (zG_2
 s)else False else False else False else bif true&&Nat.blt 0 s.length then bif decide ((↑(s.getD 0 0).toNat:Int)≥128)then Fits 0 (zG_5 s) [] (zG_3 s) []∧
 bif ft {s:=s,u:=18446744073709551615,i:=0}then R (zG_2 s)else False else Fits 0 (zG_6 s) [] (zG_4 s) []∧bif ft {s:=s,u:=0,i:=0}
 then R (zG_2 s)else False else False else False else False else bif true&&Nat.blt 0 s.length then bif (↑(s.getD 0 0).toNat:Int)==255 then bif true&&
 Nat.blt 1 s.length then bif decide ((↑(s.getD 1 0).toNat:Int)≥128)then R zG_7 else bif true&&Nat.blt 0 s.length then bif decide ((↑(s.getD 0 0).toNat:
 Int)≥128)then Fits 0 (zG_5 s) [] (zG_3 s) []∧bif ft {s:=s,u:=18446744073709551615,i:=0}then R (zG_2 s)else False else Fits 0 (zG_6 s) []
 (zG_4 s) []∧bif ft {s:=s,u:=0,i:=0}then R (zG_2 s)else False else False else False else bif true&&Nat.blt 0 s.length then bif decide
 ((↑(s.getD 0 0).toNat:Int)≥128)then Fits 0 (zG_5 s) [] (zG_3 s) []∧bif ft {s:=s,u:=18446744073709551615,i:=0}then R (zG_2 s)else False else
 Fits 0 (zG_6 s) [] (zG_4 s) []∧bif ft {s:=s,u:=0,i:=0}then R (zG_2 s)else False else False else False else False else bif true&&Nat.blt 0
 s.length then bif decide ((↑(s.getD 0 0).toNat:Int)≥128)then Fits 0 (zG_5 s) [] (zG_3 s) []∧bif ft {s:=s,u:=18446744073709551615,i:=0}then R
 (zG_2 s)else False else Fits 0 (zG_6 s) [] (zG_4 s) []∧bif ft {s:=s,u:=0,i:=0}then R (zG_2 s)else False else False):=by kernel_rfl
theorem dec_top(b:UInt8)(r:List UInt8):decF (topC (b::r)) (b::r)=dec (b::r):=by
 simp only[decF,dec,topC,List.getD_cons_zero];congr 1;unfold sgnB;split<;>omega
theorem dec_i64(b:UInt8)(r:List UInt8)(hr:r.length≤7):-9223372036854775808≤dec (b::r)∧dec (b::r)≤9223372036854775807:=by
 have h:=lU b r;have:((256^r.length:Nat):Int)≤((256^7:Nat):Int):=by
  have:=Nat.pow_le_pow_right (n:=256) (by omega) hr;omega
 have e:((256^7:Nat):Int)=72057594037927936:=by simp
 omega
theorem wraps{x:Int}(h:-9223372036854775808≤x∧x≤9223372036854775807):i64.wrap (u64.wrap x)=x:=by
 rw[IntKind.wrap_i64,IntKind.wrap_u64];omega
theorem readE_one(b:UInt8):bo [b]=0:=by
 have h:=many_dec b [] (by simp);have hm:=fN (dec [b]);have hb:=be_dec [b] (by simp);unfold bo;rw[if_neg (by simp),if_pos ?_];unfold intL;have:(bO (dec [b])).toNat=1:=by simp at h;omega
 rw[this];exact hb
theorem readE_two(b0 b1:UInt8)(r:List UInt8)(hr:r.length≤6):(red b0 b1→bo (b0::b1::r)=4)∧(¬red b0 b1→bo (b0::b1::r)=0):=by
 have hi:=red_iff b0 b1 r hr;have hm:=fN (dec (b0::b1::r));have hd:=many_dec b0 (b1::r) (by simp;omega);have hb:=be_dec (b0::b1::r) (by simp);have hl:¬((b0::b1::r).length<1∨8<(b0::b1::r).length):=by simp;omega
 simp only[bi]at hd hb;constructor
 ·intro h;have h2:=hi.1 h;unfold bo;rw[if_neg hl,if_neg fun e=>?_];have:=congrArg List.length e;rw[ql]at this;simp only[bi]at this;omega
 ·intro h;have h2:¬bO (dec (b0::b1::r))≤(r.length:Int)+1:=fun h2=>h (hi.2 h2);unfold bo;rw[if_neg hl,if_pos ?_];unfold intL;have:(bO (dec (b0::b1::r))).toNat=r.length+1+1:=by omega
  rw[this];exact hb
theorem ru(b:UInt8)(r:List UInt8)(hr:r.length≤7)(hE:bo (b::r)=0):
  (bif decide ((b.toNat:Int)≥128)then
    Fits 0 [V.str (b::r),V.int .i64 0,V.int .i64 0,V.int .u64 18446744073709551615,V.int .i64 0] [] [some (V.str (b::r)),some (V.int .i64 0),some (V.int .i64 0),some (V.int .u64 18446744073709551615),some (V.int .i64 0)] []∧
     bif ft ⟨b::r,18446744073709551615,0⟩then V.tuple [V.int .i64 (i64.wrap (u64.wrap (decF (topC (b::r)) (b::r)))),V.int .i64 0]=V.tuple [V.int .i64 (aW (b::r)),V.int .i64 (bo (b::r))]else False
  else
   Fits 0 [V.str (b::r),V.int .i64 0,V.int .i64 0,V.int .u64 0,V.int .i64 0] [] [some (V.str (b::r)),some (V.int .i64 0),some (V.int .i64 0),some (V.int .u64 0),some (V.int .i64 0)] []∧
    bif ft ⟨b::r,0,0⟩then V.tuple [V.int .i64 (i64.wrap (u64.wrap (decF (topC (b::r)) (b::r)))),V.int .i64 0]=V.tuple [V.int .i64 (aW (b::r)),V.int .i64 (bo (b::r))]else False):=by
 have val:V.tuple [V.int .i64 (i64.wrap (u64.wrap (decF (topC (b::r)) (b::r)))),V.int .i64 0]=V.tuple [V.int .i64 (aW (b::r)),V.int .i64 (bo (b::r))]:=by
  rw[dec_top,wraps (dec_i64 b r hr),hE];unfold aW;rw[if_pos hE]
 have pre:∀u,u=u64.wrap (topC (b::r))→ft ⟨b::r,u,0⟩=true:=by
  rintro u rfl;simp only[ft,ad,decide_eq_true_eq,bi];exact⟨⟨by omega,by omega⟩,rfl⟩
 cases h:decide ((b.toNat:Int)≥128)with
 |true=>
  have h:=aN h;have ht:topC (b::r)=-1:=by unfold topC;rw[List.getD_cons_zero,if_pos (by omega)]
  exact⟨oQ ⟨b::r,18446744073709551615,0⟩,aa (pre _ (by rw[ht,IntKind.wrap_u64];rfl)) val⟩
 |false=>
  have h:=bk h;have ht:topC (b::r)=0:=by unfold topC;rw[List.getD_cons_zero,if_neg (by omega)]
  exact⟨oQ ⟨b::r,0,0⟩,aa (pre _ (by rw[ht,IntKind.wrap_u64];rfl)) val⟩
theorem rread_ok(args:List V)(v:V)(h:rL args=some v):FnSat Qq 83 args [] (Is (v,[])):=by
 unfold rL at h;split at h
 ·rename_i s;cases h;refine ax (lim:=9) (n:=10) aA RN15_ok rfl rfl ?_;rw[rread_tree];unfold zG_7 zG_6 zG_5 zG_4 zG_3 zG_2;have none4:bo s=4→V.tuple [V.int i64 0,V.int i64 4]=V.tuple [V.int i64 (aW s),V.int i64 (bo s)]:=by
   intro h;rw[h];unfold aW;rw[if_neg (by omega)]
  match s,none4 with
  |[],none4=>exact none4 rfl
  |[b],none4=>
   have c1:([b]==[])=false:=rfl;have c2:decide (([b].length:Int)>8)=false:=rfl;have c3:decide (([b].length:Int)>1)=false:=rfl;have c4:(true&&Nat.blt 0 [b].length)=true:=rfl;rw[c1,c2,c3,c4];simp only[ae,ak];exact ru b [] (by simp) (readE_one b)
  |b0::b1::r,none4=>
   have c1:((b0::b1::r)==[])=false:=rfl;rw[c1,ak];cases hl:decide (((b0::b1::r).length:Int)>8)with
   |true=>
    rw[ae];have:=aN hl;refine none4 ?_;unfold bo;rw[if_pos (.inr (by omega))]
   |false=>
    rw[ak];have hl:=bk hl;simp only[bi]at hl;have h2:=readE_two b0 b1 r (by omega);have d1:decide (((b0::b1::r).length:Int)>1)=true:=am (by simp;omega);have d2:(true&&Nat.blt 0 (b0::b1::r).length)=true:=by simp[gF]
    have d3:(true&&Nat.blt 1 (b0::b1::r).length)=true:=by simp[gF]
    rw[d1,d2,d3];simp only[ae,List.getD_cons_zero,List.getD_cons_succ];exact red_leaf (fun h=>none4 (h2.1 h)) (fun h=>ru b0 (b1::r) (by simp;omega) (h2.2 h))
 ·cases h
theorem rbool_ok(args:List V)(v:V)(h:boolF args=some v):FnSat Qq 146 args [] (Is (v,[])):=by
 unfold boolF at h;split at h
 ·rename_i b;cases h;refine ax (lim:=9) (n:=10) aA kJ rfl rfl ?_;rw[rbool_tree];cases b<;>rfl
 ·cases h
theorem rrdbool_ok(args:List V)(v:V)(h:kq args=some v):FnSat Qq 84 args [] (Is (v,[])):=by
 unfold kq at h;split at h
 ·rename_i s;cases h;refine ax (lim:=9) (n:=10) aA kJ rfl rfl ?_;rw[tp]
  match s with
  |[]=>rfl
  |[b]=>
   have hb:=b.toNat_lt;have c1:(([b].length:Int)==1)=true:=rfl;have c2:(true&&Nat.blt 0 [b].length)=true:=rfl;rw[c1,c2];simp only[ae,List.getD_cons_zero];by_cases h1:b=255
   ·subst h1;rfl
   ·by_cases h2:b=0
    ·subst h2;rfl
    ·have n1:¬b.toNat=255:=fun e=>h1 (UInt8.toNat_inj.1 e);have n2:¬b.toNat=0:=fun e=>h2 (UInt8.toNat_inj.1 e);have e1:((b.toNat:Int)==255)=false:=by simp;omega
     have e2:((b.toNat:Int)==0)=false:=by simp;omega
     have e3:rbE [b]=4:=by unfold rbE;rw[if_neg (by simp[h1,h2])]
     have e4:([b]==[255])=false:=by simp[h1]
     rw[e1,e2,e3,e4];rfl
  |b0::b1::r=>
   have c1:(((b0::b1::r).length:Int)==1)=false:=by simp;omega
   have e3:rbE (b0::b1::r)=4:=by unfold rbE;rw[if_neg (by simp)]
   have e4:((b0::b1::r)==[255])=false:=by simp
   rw[c1,e3,e4,ak]
 ·cases h
theorem rlong_tree(n:Int)(R:V→Prop):runW Qq RN13 9 10 141 [.int .i64 n] R=
  (
 bif decide (n<128)then R (.str [oneB n])else bif decide (n<256)then R (.str ([129]++[oneB n]))else R (.str ([130]++[oneB (i64.wrap (n.tdiv 256))]
 ++[oneB n]))):=by kernel_rfl
def tu:List V→Option (Qx)
 |[.int .i64 n]=>some [(decide (0≤n)&&decide (n≤65535),(.str (lenB n.toNat),[]))]
 |_=>none
theorem tN{n:Nat}:oneB (n:Int)=UInt8.ofNat n:=by
 unfold oneB;rw[Int.tmod_eq_emod_of_nonneg (by omega),IntKind.wrap_u8];apply UInt8.toNat_inj.1;simp only[UInt8.toNat_ofNat'];omega
theorem rlong_ok(args:List V)(l:Qx)(o:V×St)(h:tu args=some l)(ho:aL l=some o):FnSat Qq 141 args [] (Is o):=by
 unfold tu at h;split at h
 ·rename_i n;cases h;obtain⟨hk,rfl⟩:=aO ho;simp only[ad,decide_eq_true_eq]at hk;obtain⟨m,rfl⟩:∃m:Nat,n=m:=⟨n.toNat,by omega⟩;have hm:m≤65535:=by omega
  refine ax (lim:=9) (n:=10) aA kJ rfl rfl ?_;rw[rlong_tree,bp];have w:i64.wrap ((m:Int).tdiv 256)=((m/256:Nat):Int):=by
   rw[Int.tdiv_eq_ediv_of_nonneg (by omega),IntWalk.i64_in _ ⟨by omega,by omega⟩];omega
  rw[w,tN,tN];unfold lenB;refine ac (fun h=>?_) (fun h=>ac (fun h1=>?_) (fun h1=>?_))
  ·have h:=aN h;rw[if_neg (by omega),if_neg (by omega)]
  ·have h:=bk h;have h1:=aN h1;rw[if_neg (by omega),if_pos (by omega)];rfl
  ·have h1:=bk h1;rw[if_pos (by omega)];rfl
 ·cases h
def RP0:Tab:=⟨addT (addP noT 183 nT) 141 tu,noL,aT 3⟩
theorem nV:TabOk3 Qq RP0:=⟨aR (bg aJ m7) rlong_ok,aK,au 3⟩
def RP2:Tab:=⟨addT (addP noT 183 nT) 141 tu,noL,aT 0⟩
theorem RP2_ok:TabOk3 Qq RP2:=⟨aR (bg aJ m7) rlong_ok,aK,au 0⟩
theorem rput_tree(t:Int)(s:List UInt8)(R:V→Prop):runW Qq RP0 9 10 185 [.agg [.int .u8 t,.str s]] R=
  (
 bif t.tmod 32==31 then R (.tuple [.str [],.int i64 4])else bif decide ((↑s.length:Int)>65535)then R (.tuple [.str [],.int i64 40])else
 bif true&&decide ((↑s.length:Int)≤65535)then bif (1+(lenB (↑s.length:Int).toNat).length).ble 9223372036854775807 then bif (([oneB (i64.wrap t)]++lenB
 (↑s.length:Int).toNat).length+s.length).ble 9223372036854775807 then R (.tuple [.str ([oneB (i64.wrap t)]++lenB (↑s.length:Int).toNat++s),.int
 i64 0])else False else False else False):=by kernel_rfl
def zH_0(s:List UInt8):=(1+(↑(lenB (i64.wrap (↑(s.getD 1 0).toNat:Int)).toNat).length:Int))
def zH_1(s:List UInt8):=(i64.wrap (zH_0 s)+i64.wrap (↑(s.getD 1 0).toNat:Int))
def zH_2:=V.tuple [V.agg [V.int u8 0,V.str []],V.str [],V.int i64 4]
def zH_3:=V.tuple [V.agg [V.int u8 0,V.str []],V.str [],V.int i64 8]
theorem rget_g(s:List UInt8)(R:V→Prop):runW Qq RP2 3 10 80 [.str s] R=
 (
 bif s==[]then R zH_3 else bif true&&Nat.blt 0 s.length then bif (↑(s.getD 0 0).toNat:Int).tmod 32==31 then R zH_2 else bif (↑s.length:Int)==1 then R
 zH_3 else bif true&&Nat.blt 1 s.length then bif (↑(s.getD 1 0).toNat:Int)==128 then R zH_2 else bif decide ((↑(s.getD 1 0).toNat:Int)>130)then R zH_2
 else bif decide ((↑(s.getD 1 0).toNat:Int)>128)then False else bif decide (0≤i64.wrap (↑(s.getD 1 0).toNat:Int))&&decide (i64.wrap
 (↑(s.getD 1 0).toNat:Int)≤65535)then bif decide (0≤i64.wrap (zH_0 s))then bif Nat.ble 1 (i64.wrap (zH_0 s)).toNat&&(i64.wrap
 (zH_0 s)).toNat.ble s.length then bif !List.take ((i64.wrap (zH_0 s)).toNat-1) (List.drop 1 s)==lenB (i64.wrap (↑(s.getD 1 0).toNat:
 Int)).toNat then R zH_2 else bif decide (i64.wrap (zH_1 s)>(↑s.length:Int))then R zH_3 else bif true&&Nat.blt 0 s.length then bif decide (0≤
 i64.wrap (zH_0 s))then bif decide (0≤i64.wrap (zH_1 s))then bif (i64.wrap (zH_0 s)).toNat.ble (i64.wrap (zH_1 s)).toNat&&
 (i64.wrap (zH_1 s)).toNat.ble s.length then bif decide (0≤i64.wrap (zH_1 s))then bif (i64.wrap (zH_1 s)).toNat.ble s.length&&
 s.length.ble s.length then R (.tuple [.agg [.int u8 (↑(s.getD 0 0).toNat:Int),.str (List.take ((i64.wrap (zH_1 s)).toNat-
 (i64.wrap (zH_0 s)).toNat) (List.drop (i64.wrap (zH_0 s)).toNat s))],.str (List.take (s.length-(i64.wrap (zH_1 s)).toNat) (List.drop
 (i64.wrap (zH_1 s)).toNat s)),.int i64 0])else False else False else False else False else False else False else False else False else False
 else False else False):=by kernel_rfl
theorem rget_a0(a:UInt8)(R:V→Prop):runW Qq RP0 3 10 80 [.str [a,129]] R=
  (
 bif (↑([a,129].getD 0 0).toNat:Int).tmod 32==31 then R (.tuple [.agg [.int u8 0,.str []],.str [],.int i64 4])else R (.tuple [.agg [.int
 u8 0,.str []],.str [],.int i64 8])):=by kernel_rfl
def zH_6(a c:UInt8)(r:List UInt8):=(0+i64.wrap (↑((a::129::c::r).getD 2 0).toNat:Int))
def zH_4(a c:UInt8)(r:List UInt8):=(1+(↑(lenB (i64.wrap (zH_6 a c r)).toNat).length:Int))
def zH_5(a c:UInt8)(r:List UInt8):=(i64.wrap (zH_4 a c r)+i64.wrap (zH_6 a c r))
def zH_7:=V.tuple [V.agg [V.int u8 0,V.str []],V.str [],V.int i64 4]
theorem rget_a1(a c:UInt8)(r:List UInt8)(R:V→Prop):runW Qq RP0 3 10 80 [.str (a::129::c::r)] R=
 (
 bif (↑((a::129::c::r).getD 0 0).toNat:Int).tmod 32==31 then R zH_7 else bif i64.wrap (zH_6 a c r)==0 then R zH_7 else bif decide (0≤
 i64.wrap (zH_6 a c r))&&decide (i64.wrap (zH_6 a c r)≤65535)then bif decide (0≤i64.wrap (zH_4 a c r))then bif Nat.ble 1
 (i64.wrap (zH_4 a c r)).toNat&&(i64.wrap (zH_4 a c r)).toNat.ble (a::129::c::r).length then bif !List.take ((i64.wrap (zH_4 a c
 r)).toNat-1) (List.drop 1 (a::129::c::r))==lenB (i64.wrap (zH_6 a c r)).toNat then R zH_7 else bif decide (i64.wrap (zH_5 a c r)>(↑(a
 ::129::c::r).length:Int))then R (.tuple [.agg [.int u8 0,.str []],.str [],.int i64 8])else bif decide (0≤i64.wrap
 (zH_4 a c r))then bif decide (0≤i64.wrap (zH_5 a c r))then bif (i64.wrap (zH_4 a c r)).toNat.ble (i64.wrap (zH_5 a c r)).toNat&&
 (i64.wrap (zH_5 a c r)).toNat.ble (a::129::c::r).length then bif decide (0≤i64.wrap (zH_5 a c r))then bif (i64.wrap (zH_5 a c
 r)).toNat.ble (a::129::c::r).length&&(a::129::c::r).length.ble (a::129::c::r).length then R (.tuple [.agg [.int u8 (↑((a::129::
 c::r).getD 0 0).toNat:Int),.str (List.take ((i64.wrap (zH_5 a c r)).toNat-(i64.wrap (zH_4 a c r)).toNat) (List.drop (i64.wrap
 (zH_4 a c r)).toNat (a::129::c::r)))],.str (List.take ((a::129::c::r).length-(i64.wrap (zH_5 a c r)).toNat) (List.drop (i64.wrap
 (zH_5 a c r)).toNat (a::129::c::r))),.int i64 0])else False else False else False else False else False else False else False else False):=by kernel_rfl
theorem rget_b0(a:UInt8)(R:V→Prop):runW Qq RP0 3 10 80 [.str [a,130]] R=
  (
 bif (↑([a,130].getD 0 0).toNat:Int).tmod 32==31 then R (.tuple [.agg [.int u8 0,.str []],.str [],.int i64 4])else R (.tuple [.agg [.int
 u8 0,.str []],.str [],.int i64 8])):=by kernel_rfl
theorem rget_b1(a c:UInt8)(R:V→Prop):runW Qq RP0 3 10 80 [.str [a,130,c]] R=
  (
 bif (↑([a,130,c].getD 0 0).toNat:Int).tmod 32==31 then R (.tuple [.agg [.int u8 0,.str []],.str [],.int i64 4])else bif i64.wrap
 (0+i64.wrap (↑([a,130,c].getD 2 0).toNat:Int))==0 then R (.tuple [.agg [.int u8 0,.str []],.str [],.int i64 4])else R (.tuple
 [.agg [.int u8 0,.str []],.str [],.int i64 8])):=by kernel_rfl
def zH_8(a c d:UInt8)(r:List UInt8):=(i64.wrap (i64.wrap (0+i64.wrap (↑((a::130::c::d::r).getD 2 0).toNat:Int))*256)+i64.wrap (↑((a::130::c::d::r).getD 3 0).toNat:Int))
def kQ(a c d:UInt8)(r:List UInt8):=(1+(↑(lenB (i64.wrap (zH_8 a c d r)).toNat).length:Int))
def zH_9(a c d:UInt8)(r:List UInt8):=(i64.wrap (kQ a c d r)+i64.wrap (zH_8 a c d r))
def zH_11:=V.tuple [V.agg [V.int u8 0,V.str []],V.str [],V.int i64 4]
theorem rget_b2(a c d:UInt8)(r:List UInt8)(R:V→Prop):runW Qq RP0 3 10 80 [.str (a::130::c::d::r)] R=
 (
 bif (↑((a::130::c::d::r).getD 0 0).toNat:Int).tmod 32==31 then R zH_11 else bif i64.wrap (0+i64.wrap (↑((a::130::c::d::
 r).getD 2 0).toNat:Int))==0 then R zH_11 else bif i64.wrap (zH_8 a c d r)==0 then R zH_11 else bif decide (0≤i64.wrap (zH_8 a c d r))&&
 decide (i64.wrap (zH_8 a c d r)≤65535)then bif decide (0≤i64.wrap (kQ a c d r))then bif Nat.ble 1 (i64.wrap (kQ a c d
 r)).toNat&&(i64.wrap (kQ a c d r)).toNat.ble (a::130::c::d::r).length then bif !List.take ((i64.wrap (kQ a c d r)).toNat-1)
 (List.drop 1 (a::130::c::d::r))==lenB (i64.wrap (zH_8 a c d r)).toNat then R zH_11 else bif decide (i64.wrap (zH_9 a c d r)>(↑(a::
 130::c::d::r).length:Int))then R (.tuple [.agg [.int u8 0,.str []],.str [],.int i64 8])else bif decide (0≤i64.wrap
 (kQ a c d r))then bif decide (0≤i64.wrap (zH_9 a c d r))then bif (i64.wrap (kQ a c d r)).toNat.ble (i64.wrap (zH_9 a c d
 r)).toNat&&(i64.wrap (zH_9 a c d r)).toNat.ble (a::130::c::d::r).length then bif decide (0≤i64.wrap (zH_9 a c d r))then bif
 (i64.wrap (zH_9 a c d r)).toNat.ble (a::130::c::d::r).length&&(a::130::c::d::r).length.ble (a::130::c::d::r).length then R
 (.tuple [.agg [.int u8 (↑((a::130::c::d::r).getD 0 0).toNat:Int),.str (List.take ((i64.wrap (zH_9 a c d r)).toNat-
 (i64.wrap (kQ a c d r)).toNat) (List.drop (i64.wrap (kQ a c d r)).toNat (a::130::c::d::r)))],.str (List.take ((a::130::c::d
 ::r).length-(i64.wrap (zH_9 a c d r)).toNat) (List.drop (i64.wrap (zH_9 a c d r)).toNat (a::130::c::d::r))),.int i64 0])
 else False else False else False else False else False else False else False else False):=by kernel_rfl
theorem rput_ok(args:List V)(l:Qx)(o:V×St)(h:putF args=some l)(ho:aL l=some o):FnSat Qq 185 args [] (Is o):=by
 unfold putF at h;split at h
 ·rename_i t s;cases h;obtain⟨hk,rfl⟩:=aO ho;obtain⟨n,rfl,hn⟩:=lH hk;refine ax (lim:=9) (n:=10) aA nV rfl rfl ?_;rw[rput_tree,IntWalk.i64_in (n:Int) ⟨by omega,by omega⟩,tN,bp];refine ac (fun h=>?_) (fun h=>ac (fun h1=>?_) (fun h1=>?_))
  ·have:(n:Int)%32=31:=by
    have:=beq_iff_eq.1 h;rwa [Int.tmod_eq_emod_of_nonneg (by omega)]at this
   simp[putB,putE,this]
  ·have h0:¬(n:Int)%32=31:=by
    intro e;rw[Int.tmod_eq_emod_of_nonneg (by omega),e]at h;cases h
   have h1:=aN h1;have h1:s.length>65535:=by omega
   simp[putB,putE,h0,h1]
  ·have h0:¬(n:Int)%32=31:=by
    intro e;rw[Int.tmod_eq_emod_of_nonneg (by omega),e]at h;cases h
   have h1:=bk h1;have h1:¬s.length>65535:=by omega
   have hL:=mJ s.length;refine aa (by rw[aH];exact am (by omega)) (aa (ag (by omega)) (aa (ag (by simp;omega)) ?_));simp[putB,putE,h0,h1]
 ·cases h
def gv(s:List UInt8):V:=.tuple [.agg [.int .u8 (bU s),.str (av s)],.str (cD s),.int .i64 (bj s)]
theorem d8{s:List UInt8}{e:Int}(h:bj s=e)(he:e≠0):V.tuple [.agg [.int .u8 0,.str []],.str [],.int .i64 e]=gv s:=by
 have h0:¬bj s=0:=by rw[h];exact he
 unfold gv bU av cD;rw[if_neg h0,if_neg h0,if_neg h0,h]
theorem f6{a:UInt8}{r:List UInt8}{n u:Nat}{e:Int}(h:¬a.toNat%32=31)(hz:cC r=(n,u,e))(he:e≠0):bj (a::r)=e:=by
 have:ec r=e:=by unfold ec;rw[hz]
 simp only[bj];rw[if_neg h,if_neg (by rw[this];exact he),this]
theorem get_short{a:UInt8}{r:List UInt8}{n u:Nat}(h:¬a.toNat%32=31)(hz:cC r=(n,u,0))(hl:r.length<u+n)(hb:r.length≤1099511627776):bj (a::r)=8:=by
 have e1:ec r=0:=by unfold ec;rw[hz]
 have e2:cu r=u:=by unfold cu;rw[hz]
 have e3:cT r=n:=by unfold cT;rw[hz]
 have hs:=gY r;simp only[bj];rw[if_neg h,if_pos e1,if_pos];rw[e2]at hs ⊢;rw[e3]at hs ⊢;rw[IntWalk.i64_in _ ⟨by omega,by omega⟩];omega
theorem gv_mk{a:UInt8}{r:List UInt8}{n u:Nat}(h:¬a.toNat%32=31)(hz:cC r=(n,u,0))(hl:u+n≤r.length)(hb:r.length≤1099511627776):gv (a::r)=.tuple [.agg [.int .u8 a.toNat,.str ((r.drop u).take n)],.str ((r.drop u).drop n),.int .i64 0]:=by
 have e1:ec r=0:=by unfold ec;rw[hz]
 have e2:cu r=u:=by unfold cu;rw[hz]
 have e3:cT r=n:=by unfold cT;rw[hz]
 have hs:=gY r;have hE:bj (a::r)=0:=by
  simp only[bj];rw[if_neg h,if_pos e1,if_neg];rw[e2]at hs ⊢;rw[e3]at hs ⊢;rw[IntWalk.i64_in _ ⟨by omega,by omega⟩];omega
 unfold gv bU av cD;rw[if_pos hE,if_pos hE,if_pos hE,hE];show V.tuple [.agg [.int .u8 a.toNat,.str ((r.drop (cu r)).take (cT r))],.str ((r.drop (cu r)).drop (cT r)),.int .i64 0]=_;rw[e2,e3]
def rgetT:List V→Option (Qx)
 |[.str s]=>some [(az s,(gv s,[]))]
 |_=>none
theorem tl_ok{x y b1 b2 b3 b5 b6 b7 b8 b9:Bool}{F S G:Prop}(h1:b1=true)(h2:b2=true)(h3:b3=true)(hF:x=true→F)(hS:x=false→y=true→S)(hG:x=false→y=false→b5=true∧b6=true∧b7=true∧b8=true∧b9=true∧G):
  must b1 (must b2 (must b3 (bif x then F else bif y then S else must b5 (must b6 (must b7 (must b8 (must b9 G))))))):=by
 refine aa h1 (aa h2 (aa h3 (ac hF (fun hx=>ac (hS hx) (fun hy=>?_)))));obtain⟨g1,g2,g3,g4,g5,g6⟩:=hG hx hy;exact aa g1 (aa g2 (aa g3 (aa g4 (aa g5 g6))))
theorem pg{a:UInt8}{r:List UInt8}{n L:Nat}(h:¬a.toNat%32=31)(hb:r.length≤1099511627776)(hn:n≤65535)(hL:L=(lenB n).length)(hr:r.take L=lenB n)(hW:1+L+n≤r.length+1):
  V.tuple [.agg [.int .u8 a.toNat,.str (List.take (1+L+n-(1+L)) (List.drop (1+L) (a::r)))],.str (List.take ((a::r).length-(1+L+n)) (List.drop (1+L+n) (a::r))),.int .i64 0]=gv (a::r):=by
 have hz:cC r=(n,L,0):=by
  have:=ph n hn (r.drop L);rw[←hr,List.take_append_drop,hr,←hL]at this;exact this
 rw[gv_mk h hz (by omega) hb];have d1:List.drop (1+L) (a::r)=r.drop L:=by rw[Nat.add_comm 1 L];rfl
 have d2:List.drop (1+L+n) (a::r)=(r.drop L).drop n:=by rw[List.drop_drop,show 1+L+n=(L+n)+1 by omega];rfl
 have d3:List.take ((a::r).length-(1+L+n)) ((r.drop L).drop n)=(r.drop L).drop n:=cz (by simp;omega);rw[d1,d2,d3,show 1+L+n-(1+L)=n by omega]
theorem lj{a:UInt8}{r:List UInt8}{n L:Nat}(h:¬a.toNat%32=31)(hb:r.length≤1099511627776)(hn:n≤65535)(hL:L=(lenB n).length)(hr:r.take L=lenB n)(hW:r.length+1<1+L+n):
  V.tuple [.agg [.int .u8 0,.str []],.str [],.int .i64 8]=gv (a::r):=by
 have hz:cC r=(n,L,0):=by
  have:=ph n hn (r.drop L);rw[←hr,List.take_append_drop,hr,←hL]at this;exact this
 exact d8 (get_short h hz (by omega) hb) (by omega)
theorem oe{a:UInt8}:((a.toNat:Int).tmod 32==31)=true↔a.toNat%32=31:=by
 rw[Int.tmod_eq_emod_of_nonneg (by omega),beq_iff_eq];omega
theorem jO{a:UInt8}(h:((a.toNat:Int).tmod 32==31)=false):¬a.toNat%32=31:=fun e=>by
 rw[oe.2 e]at h;cases h
theorem rget_ok(args:List V)(l:Qx)(o:V×St)(h:rgetT args=some l)(ho:aL l=some o):FnSat Qq 80 args [] (Is o):=by
 unfold rgetT at h;split at h
 ·rename_i s;cases h;obtain⟨hk,rfl⟩:=aO ho;have hb:=aN hk
  -- the forms that the loop is come to
  by_cases h9:∃a r,s=a::129::r
  ·obtain⟨a,r,rfl⟩:=h9;cases r with
   |nil=>
    refine ax (lim:=3) (n:=10) aA nV rfl rfl ?_;rw[rget_a0];refine ac (fun h=>d8 ?_ (by omega)) (fun h=>d8 ?_ (by omega))
    ·simp only[bj];rw[if_pos ((oe (a:=a)).1 h)]
    ·exact f6 (jO (a:=a) h) (n:=0) (u:=0) rfl (by omega)
   |cons c r=>
    have hc:=c.toNat_lt;have hL:=mJ c.toNat;refine ax (lim:=3) (n:=10) aA nV rfl rfl ?_;rw[rget_a1];unfold zH_7 zH_5 zH_4 zH_6;have g2:(a::129::c::r).getD 2 0=c:=rfl;have g0:(a::129::c::r).getD 0 0=a:=rfl;have w0:i64.wrap (0+i64.wrap (c.toNat:Int))=c.toNat:=by
     rw[IntWalk.i64_in (c.toNat:Int) ⟨by omega,by omega⟩,Int.zero_add,IntWalk.i64_in _ ⟨by omega,by omega⟩]
    have w1:i64.wrap (1+((lenB c.toNat).length:Int))=((1+(lenB c.toNat).length:Nat):Int):=by rw[IntWalk.i64_in _ ⟨by omega,by omega⟩];omega
    have w2:i64.wrap (((1+(lenB c.toNat).length:Nat):Int)+(c.toNat:Int))=((1+(lenB c.toNat).length+c.toNat:Nat):Int):=by rw[IntWalk.i64_in _ ⟨by omega,by omega⟩];omega
    simp only[g2,g0,w0,w1,w2,bp];refine ac (fun h=>d8 ?_ (by omega)) (fun h=>?_)
    ·simp only[bj];rw[if_pos ((oe (a:=a)).1 h)]
    have h31:=jO (a:=a) h;have hsz:cC (129::c::r)=if c.toNat≤127 then(0,0,4)else(c.toNat,2,0):=rfl
    refine ac (fun h0=>d8 ?_ (by omega)) (fun h0=>?_)
    ·have h0:c.toNat=0:=by have:=beq_iff_eq.1 h0;omega
     exact f6 h31 (n:=0) (u:=0) (by rw[hsz,if_pos (by omega)]) (by omega)
    refine tl_ok (by simp only[ad,decide_eq_true_eq];omega) (am (by omega)) (by rw[ad];exact⟨ag (by omega),ag (by by_cases q:c.toNat≤127<;>simp[lenB]<;>(repeat' split)<;>simp<;>omega)⟩) (fun hf=>d8 ?_ (by omega)) (fun hf hw=>?_) (fun hf hw=>?_)
    ·by_cases q:c.toNat≤127
     ·exact f6 h31 (n:=0) (u:=0) (by rw[hsz,if_pos q]) (by omega)
     ·exfalso;have e:lenB c.toNat=[129,c]:=by unfold lenB;rw[if_neg (by omega),if_pos (by omega)];simp
      rw[e]at hf;simp at hf
    ·have hr:(129::c::r).take (lenB c.toNat).length=lenB c.toNat:=by
      have:=by simpa using hf
      simpa using this
     have hw:=aN hw;exact lj h31 (by simp at hb ⊢;omega) (by omega) rfl hr (by simp at hw ⊢;omega)
    ·have hr:(129::c::r).take (lenB c.toNat).length=lenB c.toNat:=by
      have:=by simpa using hf
      simpa using this
     have hw:=bk hw;refine⟨am (by omega),am (by omega),?_,am (by omega),?_,pg h31 (by simp at hb ⊢;omega) (by omega) rfl hr (by simp at hw ⊢;omega)⟩
     ·rw[ad];exact⟨ag (by omega),ag (by omega)⟩
     ·rw[ad];exact⟨ag (by omega),ag (by omega)⟩
  by_cases h10:∃a r,s=a::130::r
  ·obtain⟨a,r,rfl⟩:=h10
   match r,hb with
   |[],hb=>
    refine ax (lim:=3) (n:=10) aA nV rfl rfl ?_;rw[rget_b0];refine ac (fun h=>d8 ?_ (by omega)) (fun h=>d8 ?_ (by omega))
    ·simp only[bj];rw[if_pos ((oe (a:=a)).1 h)]
    ·exact f6 (jO (a:=a) h) (n:=0) (u:=0) rfl (by omega)
   |[c],hb=>
    have hc:=c.toNat_lt;refine ax (lim:=3) (n:=10) aA nV rfl rfl ?_;rw[rget_b1];have g2:[a,130,c].getD 2 0=c:=rfl;have g0:[a,130,c].getD 0 0=a:=rfl;have w0:i64.wrap (0+i64.wrap (c.toNat:Int))=c.toNat:=by
     rw[IntWalk.i64_in (c.toNat:Int) ⟨by omega,by omega⟩,Int.zero_add,IntWalk.i64_in _ ⟨by omega,by omega⟩]
    rw[g2,g0,w0];have hsz:cC [130,c]=if c.toNat=0 then(0,0,4)else(0,0,8):=rfl
    refine ac (fun h=>d8 ?_ (by omega)) (fun h=>ac (fun h0=>d8 ?_ (by omega)) (fun h0=>d8 ?_ (by omega)))
    ·simp only[bj];rw[if_pos ((oe (a:=a)).1 h)]
    ·exact f6 (jO (a:=a) h) (n:=0) (u:=0) (by rw[hsz,if_pos (by have:=beq_iff_eq.1 h0;omega)]) (by omega)
    ·exact f6 (jO (a:=a) h) (n:=0) (u:=0) (by rw[hsz,if_neg (by have:=beq_eq_false_iff_ne.1 h0;omega)]) (by omega)
   |c::d::r,hb=>
    have hc:=c.toNat_lt;have hd:=d.toNat_lt;have hL:=mJ (c.toNat*256+d.toNat);refine ax (lim:=3) (n:=10) aA nV rfl rfl ?_;rw[rget_b2];unfold zH_11 zH_9 kQ zH_8;have g3:(a::130::c::d::r).getD 3 0=d:=rfl;have g2:(a::130::c::d::r).getD 2 0=c:=rfl;have g0:(a::130::c::d::r).getD 0 0=a:=rfl;have w0:i64.wrap (0+i64.wrap (c.toNat:Int))=c.toNat:=by
     rw[IntWalk.i64_in (c.toNat:Int) ⟨by omega,by omega⟩,Int.zero_add,IntWalk.i64_in _ ⟨by omega,by omega⟩]
    have w3:i64.wrap (i64.wrap ((c.toNat:Int)*256)+i64.wrap (d.toNat:Int))=((c.toNat*256+d.toNat:Nat):Int):=by
     rw[IntWalk.i64_in (d.toNat:Int) ⟨by omega,by omega⟩,IntWalk.i64_in ((c.toNat:Int)*256) ⟨by omega,by omega⟩,IntWalk.i64_in _ ⟨by omega,by omega⟩];omega
    simp only[g3,g2,g0,w0,w3];generalize hm:c.toNat*256+d.toNat=m at*
    have w1:i64.wrap (1+((lenB m).length:Int))=((1+(lenB m).length:Nat):Int):=by rw[IntWalk.i64_in _ ⟨by omega,by omega⟩];omega
    have w2:i64.wrap (((1+(lenB m).length:Nat):Int)+(m:Int))=((1+(lenB m).length+m:Nat):Int):=by rw[IntWalk.i64_in _ ⟨by omega,by omega⟩];omega
    simp only[w1,w2,bp];refine ac (fun h=>d8 ?_ (by omega)) (fun h=>?_)
    ·simp only[bj];rw[if_pos ((oe (a:=a)).1 h)]
    have h31:=jO (a:=a) h;have hsz:cC (130::c::d::r)=if c.toNat=0 then(0,0,4)else(c.toNat*256+d.toNat,3,0):=rfl
    refine ac (fun h0=>d8 ?_ (by omega)) (fun h0=>?_)
    ·exact f6 h31 (n:=0) (u:=0) (by rw[hsz,if_pos (by have:=beq_iff_eq.1 h0;omega)]) (by omega)
    have h0:c.toNat≠0:=by have:=beq_eq_false_iff_ne.1 h0;omega
    refine ac (fun h1=>?_) (fun h1=>?_)
    ·exfalso;have:=beq_iff_eq.1 h1;omega
    have eL:lenB m=[130,c,d]:=by
     unfold lenB;rw[if_pos (by omega)];have e1:m/256=c.toNat:=by omega
     rw[e1];have e2:UInt8.ofNat m=d:=by
      apply UInt8.toNat_inj.1;simp only[UInt8.toNat_ofNat'];omega
     rw[e2];simp
    have hr:(130::c::d::r).take (lenB m).length=lenB m:=by rw[eL];rfl
    have eL3:(lenB m).length=3:=by rw[eL];rfl
    refine tl_ok (by simp only[ad,decide_eq_true_eq];omega) (am (by omega)) (by rw[ad];exact⟨ag (by omega),ag (by rw[eL3];simp)⟩) (fun hf=>?_) (fun hf hw=>?_) (fun hf hw=>?_)
    ·exfalso;rw[show 1+(lenB m).length-1=(lenB m).length by omega]at hf;have e:List.take (lenB m).length (List.drop 1 (a::130::c::d::r))=lenB m:=hr;rw[e]at hf;simp at hf
    ·have hw:=aN hw;exact lj h31 (by simp at hb ⊢;omega) (by omega) rfl hr (by simp at hw ⊢;omega)
    ·have hw:=bk hw;refine⟨am (by omega),am (by omega),?_,am (by omega),?_,pg h31 (by simp at hb ⊢;omega) (by omega) rfl hr (by simp at hw ⊢;omega)⟩
     ·rw[ad];exact⟨ag (by omega),ag (by omega)⟩
     ·rw[ad];exact⟨ag (by omega),ag (by omega)⟩
  refine ax (lim:=3) (n:=10) aA RP2_ok rfl rfl ?_;rw[rget_g];unfold zH_3 zH_2 zH_1 zH_0
  match s,hb,h9,h10 with
  |[],_,_,_=>exact d8 (s:=[]) rfl (by omega)
  |[a],_,_,_=>
   have ha:=a.toNat_lt;have b0:(([a]:List UInt8)==[])=false:=rfl;have b1:(true&&Nat.blt 0 [a].length)=true:=rfl;have b2:(([a].length:Int)==1)=true:=rfl;simp only[b0,b1,b2,ae,ak];refine ac (fun h=>d8 ?_ (by omega)) (fun h=>d8 ?_ (by omega))
   ·simp only[bj];rw[if_pos ((oe (a:=a)).1 h)]
   ·exact f6 (jO (a:=a) h) (n:=0) (u:=0) rfl (by omega)
  |a::b::r,hb,h9,h10=>
   have hbb:=b.toNat_lt;have n9:b≠129:=fun e=>h9 ⟨a,r,by rw[e]⟩;have n10:b≠130:=fun e=>h10 ⟨a,r,by rw[e]⟩;have n9:b.toNat≠129:=fun e=>n9 (UInt8.toNat_inj.1 e);have n10:b.toNat≠130:=fun e=>n10 (UInt8.toNat_inj.1 e);have g1:(a::b::r).getD 1 0=b:=rfl;have g0:(a::b::r).getD 0 0=a:=rfl;have b0:((a::b::r)==[])=false:=rfl;have b1:(true&&Nat.blt 0 (a::b::r).length)=true:=rfl;have b2:(((a::b::r).length:Int)==1)=false:=beq_false_of_ne (by simp;omega);have b3:(true&&Nat.blt 1 (a::b::r).length)=true:=rfl;have w0:i64.wrap (b.toNat:Int)=b.toNat:=IntWalk.i64_in _ ⟨by omega,by omega⟩;simp only[g0,g1,b0,b1,b2,b3,w0,ae,ak,bp];refine ac (fun h=>d8 ?_ (by omega)) (fun h=>?_)
   ·simp only[bj];rw[if_pos ((oe (a:=a)).1 h)]
   have h31:=jO (a:=a) h;have hsz:¬b.toNat≤127→cC (b::r)=(0,0,4):=fun q=>by
    cases r with
    |nil=>simp only[cC];rw[if_neg q,if_neg n9,if_neg n10]
    |cons c r=>cases r<;>(simp only[cC];rw[if_neg q,if_neg n9,if_neg n10])
   refine ac (fun h1=>d8 ?_ (by omega)) (fun h1=>ac (fun h2=>d8 ?_ (by omega)) (fun h2=>ac (fun h3=>?_) (fun h3=>?_)))
   ·exact f6 h31 (hsz (by have:=beq_iff_eq.1 h1;omega)) (by omega)
   ·exact f6 h31 (hsz (by have:=aN h2;omega)) (by omega)
   ·exfalso;have:=aN h3;have:=bk h2;omega
   have hq:b.toNat≤127:=by
    have:=bk h3;have:=beq_eq_false_iff_ne.1 h1;omega
   have eL:lenB b.toNat=[b]:=by unfold lenB;rw[if_neg (by omega),if_neg (by omega)];simp
   have w1:i64.wrap (1+((lenB b.toNat).length:Int))=((1+(lenB b.toNat).length:Nat):Int):=by rw[eL];rfl
   have w2:i64.wrap (((1+(lenB b.toNat).length:Nat):Int)+(b.toNat:Int))=((1+(lenB b.toNat).length+b.toNat:Nat):Int):=by rw[eL,IntWalk.i64_in _ ⟨by simp;omega,by simp;omega⟩];simp
   simp only[w1,w2,bp];have hr:(b::r).take (lenB b.toNat).length=lenB b.toNat:=by rw[eL];rfl
   have eL1:(lenB b.toNat).length=1:=by rw[eL];rfl
   refine tl_ok (by simp only[ad,decide_eq_true_eq];omega) (am (by omega)) (by rw[ad];exact⟨ag (by omega),ag (by rw[eL1];simp)⟩) (fun hf=>?_) (fun hf hw=>?_) (fun hf hw=>?_)
   ·exfalso;rw[show 1+(lenB b.toNat).length-1=(lenB b.toNat).length by omega]at hf;have e:List.take (lenB b.toNat).length (List.drop 1 (a::b::r))=lenB b.toNat:=hr;rw[e]at hf;simp at hf
   ·have hw:=aN hw;exact lj h31 (by simp at hb ⊢;omega) (by omega) rfl hr (by simp at hw ⊢;omega)
   ·have hw:=bk hw;refine⟨am (by omega),am (by omega),?_,am (by omega),?_,pg h31 (by simp at hb ⊢;omega) (by omega) rfl hr (by simp at hw ⊢;omega)⟩
    ·rw[ad];exact⟨ag (by omega),ag (by omega)⟩
    ·rw[ad];exact⟨ag (by omega),ag (by omega)⟩
 ·cases h
def RA0:Tab:=⟨addT noT 80 rgetT,noL,aT 9⟩
theorem RA0_ok:TabOk3 Qq RA0:=⟨aR aJ rget_ok,aK,au 9⟩
theorem ra_round0(s:List UInt8)(R:Qz):al Qq RA0 9 10 (ah 9) 81 28 [0,2,3,4] [.str s,.nilSlice,.int .i64 0,.nilSlice] [] R=
  (
 bif decide ((↑s.length:Int)>0)then bif az s then bif bj s !=0 then R .ret [some (.str s),some .nilSlice,some (.int i64 (bj s)),some
 .nilSlice] [.row [.int u8 (bU s),.str (av s)] 119 2]else R .normal [some (.str (cD s)),some .nilSlice,some (.int i64 0),some
 (.slice 2 0 1 false 0 0)] [.row [.int u8 (bU s),.str (av s)] 119 2,.row [.int u8 (bU s),.str (av s)] 119 2,.row [.int
 u8 (bU s),.str (av s)] 119 2]else False else R (.exit 0) [some (.str s),some .nilSlice,some (.int i64 0),some .nilSlice] []):=by kernel_rfl
theorem ra_round1(s:List UInt8)(o:List V)(n:Nat)(R:Qz):al Qq RA0 9 10 (ah 9) 81 28 [0,2,3,4] [.str s,.nilSlice,.int .i64 0,.slice 0 0 n false 0 0] [.row o 119 2] R=
  (
 bif decide ((↑s.length:Int)>0)then bif az s then bif bj s !=0 then R .ret [some (.str s),some .nilSlice,some (.int i64 (bj s)),some
 (.slice 0 0 n false 0 0)] [.row o 119 2,.row [.int u8 (bU s),.str (av s)] 119 2]else bif (↑n:Int)==64 then R .ret [some (.str s),some
 .nilSlice,some (.int i64 40),some (.slice 0 0 n false 0 0)] [.row o 119 2,.row [.int u8 (bU s),.str (av s)] 119 2]else bif
 o.length.beq (n*2)then bif (n+1).ble 9223372036854775807&&((n+1)*24).ble 140737488355328 then R .normal [some (.str (cD s)),some .nilSlice,some
 (.int i64 0),some (.slice 3 0 (n+1) false 0 0)] [.dead,.row [.int u8 (bU s),.str (av s)] 119 2,.row [.int u8 (bU s),
 .str (av s)] 119 2,.row (o++[V.int u8 (bU s),V.str (av s)]) 119 2]else False else False else False else R (.exit 0) [some (.str s),some
 .nilSlice,some (.int i64 0),some (.slice 0 0 n false 0 0)] [.row o 119 2]):=by kernel_rfl
def raSl:List IT→V
 |[]=>.nilSlice
 |h::t=>.slice 0 0 (h::t).length false 0 0
def raRw:List IT→St
 |[]=>[]
 |h::t=>[.row (aB (h::t)) 119 2]
def raV(x:AL):List V:=[.str x.s,.nilSlice,.int .i64 0,raSl x.acc]
def raJ(x:AL):St:=raRw x.acc
def n6(x:AL):Bool:=oK x&&az x.s
def raOut:Asks AL:=fun x K=>
 (uM x→K (.exit 0) [.str [],.nilSlice,.int .i64 0,.nilSlice] [])∧
 (∀o n,uL x o n→K (.exit 0) [.str [],.nilSlice,.int .i64 0,.slice 0 0 n false 0 0] [.row o 119 2])∧
 (∀e,alErr x e→(∀s',K .ret [.str s',.nilSlice,.int .i64 e,.nilSlice] [])∧∀s' n,K .ret [.str s',.nilSlice,.int .i64 e,.slice 0 0 n false 0 0] [.dead])
theorem pJ(s:List UInt8)(e:Int)(acc:List IT)(b L:Nat)(hL:L=acc.length){st:St}(hb:st[b]?=some (.row (aB acc) 119 2)):
  Fits 0 [.str s,.nilSlice,.int .i64 e,.slice 0 0 acc.length false 0 0] [.row (aB acc) 119 2] [some (.str s),some .nilSlice,some (.int .i64 e),some (.slice b 0 L false 0 0)] st:=by
 subst hL;exact⟨[b],[.str s,.nilSlice,.int .i64 e,.slice b 0 acc.length false 0 0],rfl,rfl,FitsM.of ⟨.inr ⟨_,.inl (by simp only[renB,fq]),hb⟩,trivial⟩,by simp,fun i hi=>by omega⟩
theorem pK(s:List UInt8)(e:Int)(st:St):Fits 0 [.str s,.nilSlice,.int .i64 e,.nilSlice] [] [some (.str s),some .nilSlice,some (.int .i64 e),some .nilSlice] st:=
 ⟨[],[.str s,.nilSlice,.int .i64 e,.nilSlice],rfl,rfl,FitsM.of trivial,by simp,fun i hi=>by omega⟩
theorem ra_fitsD(s:List UInt8)(e:Int)(n:Nat)(st:St):Fits 0 [.str s,.nilSlice,.int .i64 e,.slice 0 0 n false 0 0] [.dead] [some (.str s),some .nilSlice,some (.int .i64 e),some (.slice 0 0 n false 0 0)] st:=
 ⟨[0],[.str s,.nilSlice,.int .i64 e,.slice 0 0 n false 0 0],rfl,rfl,FitsM.of ⟨.inl rfl,trivial⟩,by simp,fun i hi=>by omega⟩
theorem okLen_R{s:List UInt8}(h:az s=true):az (cD s)=true:=by
 unfold az at*
 have h:=aN h;refine am ?_;unfold cD;split
 ·simp;omega
 ·simp
theorem ra_round(x:AL)(hx:n6 x=true):al Qq RA0 9 10 (ah 9) 81 28 [0,2,3,4] (raV x) (raJ x) (aD 0 n6 raV raJ alMu raOut x):=by
 obtain⟨s,acc⟩:=x;unfold n6 at hx;rw[ad]at hx;have p1:acc.length≤64:=aN hx.1;have p2:az s=true:=hx.2;have again:s≠[]→bj s=0→acc.length≠64→∀K,raOut ⟨s,acc⟩ K→raOut ⟨cD s,acc++[(bU s,av s)]⟩ K:=by
  intro hs h0 ha K hK;have hg:=alF_step hs h0 ha;refine⟨fun he=>hK.1 (hg.trans he),fun o n he=>hK.2.1 o n ?_,fun e he=>hK.2.2 e ⟨he.1,hg.trans he.2⟩⟩;obtain⟨h,t,e1,e2,e3⟩:=he;exact⟨h,t,e1,e2,hg.trans e3⟩
 have pre2:acc.length≠64→n6 ⟨cD s,acc++[(bU s,av s)]⟩=true:=by
  intro h;unfold n6;rw[ad];refine⟨?_,okLen_R p2⟩;simp only[oK,decide_eq_true_eq,bQ,bi,List.length_nil];omega
 have pos:s≠[]→decide ((s.length:Int)>0)=true:=fun hs=>am (by have:=List.length_pos_iff.2 hs;omega);cases acc with
 |nil=>
  show al Qq RA0 9 10 (ah 9) 81 28 [0,2,3,4] [.str s,.nilSlice,.int .i64 0,.nilSlice] [] _;rw[ra_round0,p2,ae];by_cases hs:s=[]
  ·subst hs;exact⟨_,_,fun K hK=>hK.1 rfl,pK [] 0 _⟩
  ·rw[pos hs,ae];by_cases h0:bj s=0
   ·have e3:(bj s !=0)=false:=by simp[h0]
    rw[e3,ak];refine⟨⟨cD s,[]++[(bU s,av s)]⟩,pre2 (by simp),?_,gg hs,again hs h0 (by simp)⟩;exact pJ (cD s) 0 [(bU s,av s)] 2 1 rfl rfl
   ·have e3:(bj s !=0)=true:=by simp[h0]
    rw[e3,ae];exact⟨_,_,fun K hK=>(hK.2.2 _ ⟨h0,o5 hs h0 []⟩).1 s,pK s _ _⟩
 |cons h t=>
  show al Qq RA0 9 10 (ah 9) 81 28 [0,2,3,4] [.str s,.nilSlice,.int .i64 0,.slice 0 0 (h::t).length false 0 0] [.row (aB (h::t)) 119 2] _;rw[ra_round1,p2,ae];by_cases hs:s=[]
  ·subst hs;exact⟨_,_,fun K hK=>hK.2.1 _ _ ⟨h,t,rfl,rfl,rfl⟩,pJ [] 0 (h::t) 0 _ rfl rfl⟩
  ·rw[pos hs,ae];by_cases h0:bj s=0
   ·have e3:(bj s !=0)=false:=by simp[h0]
    rw[e3,ak];by_cases ha:(h::t).length=64
    ·have e4:(((h::t).length:Int)==64)=true:=by rw[ha];rfl
     rw[e4,ae];exact⟨_,_,fun K hK=>(hK.2.2 40 ⟨by omega,alF_full hs h0 ha⟩).2 s _,ra_fitsD s _ _ _⟩
    ·have e4:(((h::t).length:Int)==64)=false:=by
      cases hb:(((h::t).length:Int)==64)with
      |false=>rfl
      |true=>exact absurd (by have:=beq_iff_eq.1 hb;omega) ha
     rw[e4,ak];have e5:(aB (h::t)).length.beq ((h::t).length*2)=true:=by rw[eQ];exact a9 _
     have e6:(((h::t).length+1).ble 9223372036854775807&&(((h::t).length+1)*24).ble 140737488355328)=true:=by
      rw[ad];exact⟨ag (by omega),ag (by omega)⟩
     rw[e5,e6,ae,ae];have e7:aB (h::t)++[V.int .u8 (bU s),V.str (av s)]=aB (h::(t++[(bU s,av s)])):=lX (h::t) (bU s,av s);rw[e7];refine⟨⟨cD s,(h::t)++[(bU s,av s)]⟩,pre2 ha,?_,gg hs,again hs h0 ha⟩;exact pJ (cD s) 0 (h::(t++[(bU s,av s)])) 3 _ (by simp) rfl
   ·have e3:(bj s !=0)=true:=by simp[h0]
    rw[e3,ae];exact⟨_,_,fun K hK=>(hK.2.2 _ ⟨h0,o5 hs h0 (h::t)⟩).2 s _,ra_fitsD s _ _ _⟩
def raDec:List (Option V)→St→Option AL
 |[some (.str s),some .nilSlice,some (.int .i64 0),some .nilSlice],_=>some ⟨s,[]⟩
 |_,_=>none
def lkRA:Nat→Trans→Trans:=ba 28 (bK 0 (szOf Qq 81) [0,2,3,4] raDec n6 raV raJ raOut) (ah 9)
theorem lkRA_ok:aQ Qq 0 lkRA 81:=by
 unfold lkRA;exact bB (aY 9 0 81) (by kernel_rfl) fun f st Q h=>bc (P:=Qq) (T:=RA0) (k:=0) (lim:=9) (n:=10) (g:=81) (p0:=28) (lk:=ah 9) aA RA0_ok (bf 9 _ _) alMu ra_round h
def RA1:Tab:=⟨noT,noL,cI (aT 9) 81 0 lkRA⟩
theorem RA1_ok:TabOk3 Qq RA1:=⟨aJ,aK,bq (au 9) lkRA_ok⟩
theorem rall_tree(s:List UInt8)(R:V→St→Prop):runM Qq RA1 9 10 81 [.str s] R=
  (
 Fits 0 [.str s,.nilSlice,.int i64 0,.nilSlice] [] [some (.str s),some .nilSlice,some (.int i64 0),some .nilSlice] []∧bif n6 {s:=s,acc:=[]}
 then(uM {s:=s,acc:=[]}→R (.tuple [.nilSlice,.int i64 0]) [])∧(∀(o:List V) (n:Nat),uL {s:=s,acc:=[]} o n→R (.tuple [.slice
 0 0 n false 0 0,.int i64 0]) [.row o 119 2])∧∀(e:Int),alErr {s:=s,acc:=[]} e→(∀(s':List UInt8),R (.tuple [.nilSlice,.int i64
 e]) [])∧∀(s':List UInt8) (n:Nat),R (.tuple [.nilSlice,.int i64 e]) [.dead]else False):=by kernel_rfl
def jF(s:List UInt8):V×St:=match allI s with
 |[]=>(.tuple [.nilSlice,.int .i64 (allE s)],[])
 |h::t=>(.tuple [.slice 0 0 (h::t).length false 0 0,.int .i64 (allE s)],[.row (aB (h::t)) 119 2])
theorem rall_sat(s:List UInt8)(hk:az s=true):FnSat Qq 81 [.str s] [] (Is (jF s)):=by
 refine FnSat.fits (dX (lim:=9) (n:=10) aA RA1_ok ?_);rw[rall_tree];have nilRes:∀(e:Int) (st:St),allI s=[]→allE s=e→Fits 0 [(jF s).1] (jF s).2 [some (.tuple [.nilSlice,.int .i64 e])] st:=by
  intro e st h1 h2;have e1:jF s=(.tuple [.nilSlice,.int .i64 e],[]):=by unfold jF;rw[h1,h2]
  rw[e1];exact⟨[],[.tuple [.nilSlice,.int .i64 e]],rfl,rfl,FitsM.of trivial,by simp,fun i hi=>by omega⟩
 refine⟨pK s 0 _,aa (by unfold n6;rw[hk];rfl) ⟨?_,?_,?_⟩⟩
 ·intro h;have h:alF s.length s []=([],0):=h;exact nilRes 0 _ (by unfold allI;rw[h]) (by unfold allE;rw[h])
 ·rintro o n ⟨h0,t,rfl,rfl,h⟩;have h:alF s.length s []=(h0::t,0):=h;have h1:allI s=h0::t:=by unfold allI;rw[h]
  have h2:allE s=0:=by unfold allE;rw[h]
  have e1:jF s=(.tuple [.slice 0 0 (h0::t).length false 0 0,.int .i64 0],[.row (aB (h0::t)) 119 2]):=by unfold jF;rw[h1,h2]
  show Fits 0 [(jF s).1] (jF s).2 _ _;rw[e1];exact⟨[0],[.tuple [.slice 0 0 (h0::t).length false 0 0,.int .i64 0]],rfl,rfl,FitsM.of ⟨.inr ⟨.row (aB (h0::t)) 119 2,.inl (by simp only[renB,fq]),rfl⟩,trivial⟩,by simp,fun i hi=>by omega⟩
 ·rintro e ⟨_,h⟩;have h:alF s.length s []=([],e):=h;have:=fun st=>nilRes e st (by unfold allI;rw[h]) (by unfold allE;rw[h]);exact⟨fun _=>this _,fun _ _=>this _⟩
def rallG(AE:List UInt8→Int)(AN:List UInt8→Nat)(AC:List UInt8→List V):List V→Option (Qx)
 |[.str s]=>some [(az s&&Nat.beq (AN s) 0,(.tuple [.nilSlice,.int .i64 (AE s)],[])),(az s,(.tuple [.slice 0 0 (AN s) false 0 0,.int .i64 (AE s)],[.row (AC s) 119 2]))]
 |_=>none
theorem rallG_ok(args:List V)(l:Qx)(o:V×St)(h:rallG allE allN allC args=some l)(ho:aL l=some o):FnSat Qq 81 args [] (Is o):=by
 unfold rallG at h;split at h
 ·rename_i s;cases h;cases hk:az s with
  |false=>rw[hk]at ho;simp[aL]at ho
  |true=>
  rw[hk,aH]at ho;have:o=jF s:=by
   unfold jF;unfold allN allC at ho;cases hI:allI s with
   |nil=>
    rw[hI]at ho;have e:Nat.beq ([]:List IT).length 0=true:=rfl;simp only[aL,e,ae,af]at ho;exact ho.symm
   |cons a t=>
    rw[hI]at ho;have e:Nat.beq (a::t).length 0=false:=rfl;simp only[aL,e,ae,ak,af]at ho;exact ho.symm
  rw[this];exact rall_sat s hk
 ·cases h
def RB0:Tab:=⟨noT,noL,aT 9⟩
theorem uQ:TabOk3 Qq RB0:=⟨aJ,aK,au 9⟩
theorem dg_tree(b:Int)(R:V→Prop):runW Qq RB0 9 10 211 [.int .u8 b] R=
  (
 bif decide (b≥48)then R (.bool (decide (b≤57)))else R (.bool false)):=by kernel_rfl
theorem lt_tree(b:Int)(R:V→Prop):runW Qq RB0 9 10 212 [.int .u8 b] R=
  (
 bif decide (b≥97)then R (.bool (decide (b≤122)))else R (.bool false)):=by kernel_rfl
def dgI(b:Int):Bool:=decide (48≤b)&&decide (b≤57)
def ltI(b:Int):Bool:=decide (97≤b)&&decide (b≤122)
def dgP:List V→Option V
 |[.int .u8 b]=>some (.bool (dgI b))
 |_=>none
def ltP:List V→Option V
 |[.int .u8 b]=>some (.bool (ltI b))
 |_=>none
theorem dg_ok(args:List V)(v:V)(h:dgP args=some v):FnSat Qq 211 args [] (Is (v,[])):=by
 unfold dgP at h;split at h
 ·rename_i b;cases h;refine ax (lim:=9) (n:=10) aA uQ rfl rfl ?_;rw[dg_tree];unfold dgI;refine ac (fun h=>?_) (fun h=>?_)
  ·have h:=aN h;rw[am (show 48≤b by omega),aH]
  ·have h:=bk h;rw[bH (show ¬48≤b by omega),Bool.false_and]
 ·cases h
theorem lt_ok(args:List V)(v:V)(h:ltP args=some v):FnSat Qq 212 args [] (Is (v,[])):=by
 unfold ltP at h;split at h
 ·rename_i b;cases h;refine ax (lim:=9) (n:=10) aA uQ rfl rfl ?_;rw[lt_tree];unfold ltI;refine ac (fun h=>?_) (fun h=>?_)
  ·have h:=aN h;rw[am (show 97≤b by omega),aH]
  ·have h:=bk h;rw[bH (show ¬97≤b by omega),Bool.false_and]
 ·cases h
def RB1:Tab:=⟨addP (addP noT 211 dgP) 212 ltP,noL,aT 9⟩
theorem RB1_ok:TabOk3 Qq RB1:=⟨bg (bg aJ dg_ok) lt_ok,aK,au 9⟩
theorem rl_round(s:List UInt8)(i:Int)(R:Qz):al Qq RB1 9 10 (ah 9) 191 58 [0,2,3] [.str s,.bool false,.int .i64 i] [] R=
  (
 bif decide (i<(↑s.length:Int))then bif decide (0≤i)&&i.toNat.blt s.length then bif !dgI (↑(s.getD i.toNat 0).toNat:Int)then bif decide (0≤i)&&i.toNat.blt
 s.length then bif !ltI (↑(s.getD i.toNat 0).toNat:Int)then bif decide (0≤i)&&i.toNat.blt s.length then bif (↑(s.getD i.toNat 0).toNat:Int)!=45 then R .ret
 [some (.str s),some (.bool false),some (.int i64 i)] []else R .normal [some (.str s),some (.bool false),some (.int i64 (i64.wrap (i
 +1)))] []else False else R .normal [some (.str s),some (.bool false),some (.int i64 (i64.wrap (i+1)))] []else False else R .normal [some
 (.str s),some (.bool false),some (.int i64 (i64.wrap (i+1)))] []else False else R (.exit 0) [some (.str s),some (.bool false),some (.int
 i64 i)] []):=by kernel_rfl
theorem rdg_round(s:List UInt8)(i:Int)(R:Qz):al Qq RB1 9 10 (ah 9) 190 26 [0,2,3] [.str s,.bool false,.int .i64 i] [] R=
  (
 bif decide (i<(↑s.length:Int))then bif decide (0≤i)&&i.toNat.blt s.length then bif !dgI (↑(s.getD i.toNat 0).toNat:Int)then R .ret [some (.str s),some
 (.bool false),some (.int i64 i)] []else R .normal [some (.str s),some (.bool false),some (.int i64 (i64.wrap (i+1)))] []else False
 else R (.exit 0) [some (.str s),some (.bool false),some (.int i64 i)] []):=by kernel_rfl
def zJ_0(i:Int):=V.int i64 (i64.wrap (i+1))
theorem rc_round0(s:List UInt8)(j i:Int)(R:Qz):al Qq RB0 9 10 (ah 9) 154 122 [0,2,3,4,5] [.str s,.nilSlice,.nilSlice,.int .i64 j,.int .i64 i] [] R=
 (
 bif decide (i≤(↑s.length:Int))then bif i==(↑s.length:Int)then bif decide (0≤j)then bif decide (0≤i)then bif j.toNat.ble i.toNat&&i.toNat.ble
 s.length then R .normal [some (.str s),some .nilSlice,some (.slice 1 0 1 false 0 0),some (zJ_0 i),some (zJ_0 i)] [.row [.str (List.take (i.toNat-
 j.toNat) (List.drop j.toNat s))] 9 1,.row [.str (List.take (i.toNat-j.toNat) (List.drop j.toNat s))] 9 1]else False else False else False else bif decide
 (0≤i)&&i.toNat.blt s.length then bif (↑(s.getD i.toNat 0).toNat:Int)==46 then bif decide (0≤j)then bif decide (0≤i)then bif j.toNat.ble i.toNat&&
 i.toNat.ble s.length then R .normal [some (.str s),some .nilSlice,some (.slice 1 0 1 false 0 0),some (zJ_0 i),some (zJ_0 i)] [.row [.str
 (List.take (i.toNat-j.toNat) (List.drop j.toNat s))] 9 1,.row [.str (List.take (i.toNat-j.toNat) (List.drop j.toNat s))] 9 1]else False else False else
 False else R .normal [some (.str s),some .nilSlice,some .nilSlice,some (.int i64 j),some (zJ_0 i)] []else False else R (.exit 0) [some
 (.str s),some .nilSlice,some .nilSlice,some (.int i64 j),some (.int i64 i)] []):=by kernel_rfl
def zJ_1(i:Int):=V.int i64 (i64.wrap (i+1))
theorem rc_round1(s:List UInt8)(o:List V)(n:Nat)(j i:Int)(R:Qz):al Qq RB0 9 10 (ah 9) 154 122 [0,2,3,4,5] [.str s,.nilSlice,.slice 0 0 n false 0 0,.int .i64 j,.int .i64 i] [.row o 9 1] R=
 (
 bif decide (i≤(↑s.length:Int))then bif i==(↑s.length:Int)then bif decide (0≤j)then bif decide (0≤i)then bif j.toNat.ble i.toNat&&i.toNat.ble
 s.length then bif o.length.beq (n*1)then bif (n+1).ble 9223372036854775807&&((n+1)*16).ble 140737488355328 then R .normal [some (.str s),some
 .nilSlice,some (.slice 2 0 (n+1) false 0 0),some (zJ_1 i),some (zJ_1 i)] [.dead,.row [.str (List.take (i.toNat-j.toNat) (List.drop j.toNat s))]
 9 1,.row (o++[V.str (List.take (i.toNat-j.toNat) (List.drop j.toNat s))]) 9 1]else False else False else False else False else False else bif decide (0
 ≤i)&&i.toNat.blt s.length then bif (↑(s.getD i.toNat 0).toNat:Int)==46 then bif decide (0≤j)then bif decide (0≤i)then bif j.toNat.ble i.toNat&&
 i.toNat.ble s.length then bif o.length.beq (n*1)then bif (n+1).ble 9223372036854775807&&((n+1)*16).ble 140737488355328 then R .normal [some (.str
 s),some .nilSlice,some (.slice 2 0 (n+1) false 0 0),some (zJ_1 i),some (zJ_1 i)] [.dead,.row [.str (List.take (i.toNat-j.toNat) (List.drop
 j.toNat s))] 9 1,.row (o++[V.str (List.take (i.toNat-j.toNat) (List.drop j.toNat s))]) 9 1]else False else False else False else False else False else R
 .normal [some (.str s),some .nilSlice,some (.slice 0 0 n false 0 0),some (.int i64 j),some (zJ_1 i)] [.row o 9 1]else False else R
 (.exit 0) [some (.str s),some .nilSlice,some (.slice 0 0 n false 0 0),some (.int i64 j),some (.int i64 i)] [.row o 9 1]):=by kernel_rfl
theorem kind_lt(c:UInt8):Nat.blt (eh c) 2=(dgI c.toNat||(ltI c.toNat||((c.toNat:Int)==45))):=by
 unfold eh dgI ltI;rw[Bool.eq_iff_iff];simp only[Nat.blt_eq,Bool.or_eq_true,ad,decide_eq_true_eq,beq_iff_eq];split
 ·constructor<;>intro _<;>omega
 ·split
  ·constructor<;>intro _<;>omega
  ·constructor<;>intro _<;>omega
theorem kind_dg(c:UInt8):Nat.beq (eh c) 0=dgI c.toNat:=by
 unfold eh dgI;rw[Bool.eq_iff_iff];simp only[Nat.beq_eq,ad,decide_eq_true_eq];split
 ·constructor<;>intro _<;>omega
 ·split
  ·constructor<;>intro _<;>omega
  ·constructor<;>intro _<;>omega
structure RL where
 s:List UInt8
 i:Nat
def rlV(x:RL):List V:=[.str x.s,.bool false,.int .i64 x.i]
def rlJ(_:RL):St:=[]
def gr(x:RL):Bool:=Nat.ble x.i x.s.length&&az x.s
def rlMu(x:RL):Nat:=x.s.length-x.i
def rlDec:List (Option V)→St→Option RL
 |[some (.str s),some (.bool false),some (.int .i64 0)],_=>some ⟨s,0⟩
 |_,_=>none
def jH(g:Bool)(s:List UInt8)(K:Exit→List V→St→Prop):Prop:=
 bif g then K (.exit 0) [.str s,.bool false,.int .i64 s.length] []else ∀j:Int,K .ret [.str s,.bool false,.int .i64 j] []
def rlOut:Asks RL:=fun x K=>jH (dI (x.s.drop x.i)) x.s K
def rdgOut:Asks RL:=fun x K=>jH (cH (x.s.drop x.i)) x.s K
theorem rl_roundOk(x:RL)(hx:gr x=true):al Qq RB1 9 10 (ah 9) 191 58 [0,2,3] (rlV x) (rlJ x) (aD 0 gr rlV rlJ rlMu rlOut x):=by
 obtain⟨s,i⟩:=x;unfold gr at hx;rw[ad]at hx;have p1:i≤s.length:=aw hx.1;have p2:s.length≤1099511627776:=aN hx.2;show al Qq RB1 9 10 (ah 9) 191 58 [0,2,3] [.str s,.bool false,.int .i64 i] [] _;rw[rl_round];cases hd:s.drop i with
 |nil=>
  have hi:=ii hd p1;rw[bH (show ¬((i:Int)<(s.length:Int)) by omega),ak];refine⟨[.str s,.bool false,.int .i64 i],[],fun K hK=>?_,aV _ rfl _ rfl _⟩;have hK:jH (dI (s.drop i)) s K:=hK;rw[hd]at hK;rw[hi];exact hK
 |cons c r=>
  obtain⟨e1,e2,e3⟩:=fA hd;have w1:i64.wrap ((i:Int)+1)=((i+1:Nat):Int):=by rw[IntWalk.i64_in _ ⟨by omega,by omega⟩];omega
  have d1:(decide (0≤(i:Int))&&i.blt s.length)=true:=by rw[am (show(0:Int)≤i by omega),aH];exact ag (by omega)
  rw[am (show((i:Int)<(s.length:Int)) by omega),ae];simp only[bp,d1,e1,w1,ae];have next:Nat.blt (eh c) 2=true→aD 0 gr rlV rlJ rlMu rlOut ⟨s,i⟩ .normal [some (.str s),some (.bool false),some (.int .i64 ((i+1:Nat):Int))] []:=fun hk=>by
   refine⟨⟨s,i+1⟩,?_,aV _ rfl _ rfl _,by simp only[rlMu];omega,fun K hK=>?_⟩
   ·unfold gr;rw[hx.2,Bool.and_true];exact ag e3
   ·have hK:jH (dI (s.drop i)) s K:=hK;have g:dI (c::r)=dI r:=by show(Nat.blt (eh c) 2&&dI r)=dI r;rw[hk];rfl
    rw[hd,g,←e2]at hK;exact hK
  have bad:Nat.blt (eh c) 2=false→aD 0 gr rlV rlJ rlMu rlOut ⟨s,i⟩ .ret [some (.str s),some (.bool false),some (.int .i64 (i:Int))] []:=fun hk=>by
   refine⟨[.str s,.bool false,.int .i64 i],[],fun K hK=>?_,aV _ rfl _ rfl _⟩;have hK:jH (dI (s.drop i)) s K:=hK;have g:dI (c::r)=false:=by show(Nat.blt (eh c) 2&&dI r)=false;rw[hk];rfl
   rw[hd,g]at hK;exact hK i
  rw[kind_lt]at next bad
  refine ac (fun h1=>?_) (fun h1=>?_)
  ·refine ac (fun h2=>ac (fun h3=>?_) (fun h3=>?_)) (fun h2=>?_)
   ·have h1:dgI c.toNat=false:=by simpa using h1
    have h2:ltI c.toNat=false:=by simpa using h2
    exact bad (by rw[h1,h2];simpa[bne]using h3)
   ·exact next (by have:((c.toNat:Int)==45)=true:=by simpa[bne]using h3
                   rw[this];simp)
   ·have h2:ltI c.toNat=true:=by simpa using h2
    exact next (by rw[h2];simp)
  ·have h1:dgI c.toNat=true:=by simpa using h1
   exact next (by rw[h1];rfl)
theorem rdg_roundOk(x:RL)(hx:gr x=true):al Qq RB1 9 10 (ah 9) 190 26 [0,2,3] (rlV x) (rlJ x) (aD 0 gr rlV rlJ rlMu rdgOut x):=by
 obtain⟨s,i⟩:=x;unfold gr at hx;rw[ad]at hx;have p1:i≤s.length:=aw hx.1;have p2:s.length≤1099511627776:=aN hx.2;show al Qq RB1 9 10 (ah 9) 190 26 [0,2,3] [.str s,.bool false,.int .i64 i] [] _;rw[rdg_round];cases hd:s.drop i with
 |nil=>
  have hi:=ii hd p1;rw[bH (show ¬((i:Int)<(s.length:Int)) by omega),ak];refine⟨[.str s,.bool false,.int .i64 i],[],fun K hK=>?_,aV _ rfl _ rfl _⟩;have hK:jH (cH (s.drop i)) s K:=hK;rw[hd]at hK;rw[hi];exact hK
 |cons c r=>
  obtain⟨e1,e2,e3⟩:=fA hd;have w1:i64.wrap ((i:Int)+1)=((i+1:Nat):Int):=by rw[IntWalk.i64_in _ ⟨by omega,by omega⟩];omega
  have d1:(decide (0≤(i:Int))&&i.blt s.length)=true:=by rw[am (show(0:Int)≤i by omega),aH];exact ag (by omega)
  rw[am (show((i:Int)<(s.length:Int)) by omega),ae];simp only[bp,d1,e1,w1,ae];refine ac (fun h1=>?_) (fun h1=>?_)
  ·have h1:dgI c.toNat=false:=by simpa using h1
   refine⟨[.str s,.bool false,.int .i64 i],[],fun K hK=>?_,aV _ rfl _ rfl _⟩;have hK:jH (cH (s.drop i)) s K:=hK;have g:cH (c::r)=false:=by show(Nat.beq (eh c) 0&&cH r)=false;rw[kind_dg,h1];rfl
   rw[hd,g]at hK;exact hK i
  ·have h1:dgI c.toNat=true:=by simpa using h1
   refine⟨⟨s,i+1⟩,?_,aV _ rfl _ rfl _,by simp only[rlMu];omega,fun K hK=>?_⟩
   ·unfold gr;rw[hx.2,Bool.and_true];exact ag e3
   ·have hK:jH (cH (s.drop i)) s K:=hK;have g:cH (c::r)=cH r:=by show(Nat.beq (eh c) 0&&cH r)=cH r;rw[kind_dg,h1];rfl
    rw[hd,g,←e2]at hK;exact hK
def lkRL:Nat→Trans→Trans:=ba 58 (bK 0 (szOf Qq 191) [0,2,3] rlDec gr rlV rlJ rlOut) (ah 9)
theorem lkRL_ok:aQ Qq 0 lkRL 191:=by
 unfold lkRL;exact bB (aY 9 0 191) (by kernel_rfl) fun f st Q h=>bc (P:=Qq) (T:=RB1) (k:=0) (lim:=9) (n:=10) (g:=191) (p0:=58) (lk:=ah 9) aA RB1_ok (bf 9 _ _) rlMu rl_roundOk h
def lkRD:Nat→Trans→Trans:=ba 26 (bK 0 (szOf Qq 190) [0,2,3] rlDec gr rlV rlJ rdgOut) (ah 9)
theorem lkRD_ok:aQ Qq 0 lkRD 190:=by
 unfold lkRD;exact bB (aY 9 0 190) (by kernel_rfl) fun f st Q h=>bc (P:=Qq) (T:=RB1) (k:=0) (lim:=9) (n:=10) (g:=190) (p0:=26) (lk:=ah 9) aA RB1_ok (bf 9 _ _) rlMu rdg_roundOk h
def RB2:Tab:=⟨noT,noL,cI (cI (aT 9) 191 0 lkRL) 190 0 lkRD⟩
theorem RB2_ok:TabOk3 Qq RB2:=⟨aJ,aK,bq (bq (au 9) lkRL_ok) lkRD_ok⟩
theorem rlab_tree(s:List UInt8)(R:V→Prop):runW Qq RB2 9 10 191 [.str s] R=
  (
 bif (↑s.length:Int)==0 then R (.bool false)else bif decide ((↑s.length:Int)>63)then R (.bool false)else bif true&&Nat.blt 0 s.length then bif (↑(s.getD 0
 0).toNat:Int)==45 then R (.bool false)else bif decide (0≤i64.wrap ((↑s.length:Int)-1))&&(i64.wrap ((↑s.length:Int)-1)).toNat.blt
 s.length then bif (↑(s.getD (i64.wrap ((↑s.length:Int)-1)).toNat 0).toNat:Int)==45 then R (.bool false)else Fits 0 [.str s,.bool false,.int
 i64 0] [] [some (.str s),some (.bool false),some (.int i64 0)] []∧bif gr {s:=s,i:=0}then bif dI (List.drop 0 s)then R (.bool true)
 else ∀(j:Int),R (.bool false)else False else False else False):=by kernel_rfl
theorem rdig_tree(s:List UInt8)(R:V→Prop):runW Qq RB2 9 10 190 [.str s] R=
  (
 Fits 0 [.str s,.bool false,.int i64 0] [] [some (.str s),some (.bool false),some (.int i64 0)] []∧bif gr {s:=s,i:=0}then bif cH
 (List.drop 0 s)then R (.bool true)else ∀(j:Int),R (.bool false)else False):=by kernel_rfl
theorem rlab_ok(args:List V)(v:V)(h:(match args with|[.str s]=>some (V.bool (cG s))|_=>none)=some v):FnSat Qq 191 args [] (Is (v,[])):=by
 split at h
 ·rename_i s;cases h;refine ax (lim:=9) (n:=10) aA RB2_ok rfl rfl ?_;rw[rlab_tree];have bad:∀{b:Bool},cG s=b→V.bool b=V.bool (cG s):=fun h=>by rw[h]
  refine ac (fun h=>bad ?_) (fun h=>ac (fun h1=>bad ?_) (fun h1=>?_))
  ·have h:s.length=0:=by have:=beq_iff_eq.1 h;omega
   unfold cG;rw[bH (by omega)];rfl
  ·have h1:=aN h1;unfold cG;rw[bH (show ¬s.length≤63 by omega),Bool.false_and,bL]
  have h:1≤s.length:=by have:=beq_eq_false_iff_ne.1 h;omega
  have h1:=bk h1;have h1:s.length≤63:=by omega
  have w:i64.wrap ((s.length:Int)-1)=((s.length-1:Nat):Int):=by rw[IntWalk.i64_in _ ⟨by omega,by omega⟩];omega
  rw[w,bp];have nt:∀{c:UInt8} {b:Bool},((c.toNat:Int)==45)=b→(c.toNat==45)=b:=fun{c b} h=>by
   rw[←h,Bool.eq_iff_iff,beq_iff_eq,beq_iff_eq];omega
  refine aa (by rw[aH];exact ag h) (ac (fun h2=>bad ?_) (fun h2=>aa ?_ (ac (fun h3=>bad ?_) (fun h3=>⟨aV _ rfl _ rfl _,aa ?_ ?_⟩))))
  ·unfold cG;rw[nt h2,Bool.not_true,Bool.false_and,bL,bL]
  ·rw[am (by omega),aH];exact ag (by omega)
  ·unfold cG;rw[nt h3,Bool.not_true,Bool.false_and,bL,bL,bL]
  ·unfold gr az;rw[ad];exact⟨rfl,am (show s.length≤1099511627776 by omega)⟩
  ·have e:cG s=dI s:=by
    unfold cG;rw[am h,am h1,nt h2,nt h3];rfl
   rw[List.drop_zero];cases hg:dI s with
   |true=>exact bad (e.trans hg)
   |false=>exact fun _=>bad (e.trans hg)
 ·cases h
def rlabP:List V→Option V:=fun args=>match args with|[.str s]=>some (V.bool (cG s))|_=>none
def rdigT:List V→Option (Qx)
 |[.str s]=>some [(az s,(.bool (cH s),[]))]
 |_=>none
theorem rdig_ok(args:List V)(l:Qx)(o:V×St)(h:rdigT args=some l)(ho:aL l=some o):FnSat Qq 190 args [] (Is o):=by
 unfold rdigT at h;split at h
 ·rename_i s;cases h;obtain⟨hk,rfl⟩:=aO ho;refine ax (lim:=9) (n:=10) aA RB2_ok rfl rfl ?_;rw[rdig_tree];refine⟨aV _ rfl _ rfl _,aa ?_ ?_⟩
  ·unfold gr;rw[hk];rfl
  ·rw[List.drop_zero];cases cH s with
   |true=>rfl
   |false=>exact fun _=>rfl
 ·cases h
def labG(a:List UInt8):List UInt8→List (List UInt8)
 |[]=>[a]
 |c::r=>if c=46 then a::labG [] r else labG (a++[c]) r
theorem labG_cut:∀(s a:List UInt8),labG a s=match(cutA s).2 with
  |none=>[a++(cutA s).1]
  |some r=>(a++(cutA s).1)::labG [] r
 |[],a=>by simp[labG,cutA]
 |c::r,a=>by
  by_cases hc:c=46
  ·simp[labG,cutA,hc]
  ·have:=labG_cut r (a++[c]);simp only[labG,cutA,if_neg hc];rw[this];cases(cutA r).2<;>simp
theorem labF_G:∀(k:Nat) (s:List UInt8),s.length<k→labF k s=labG [] s
 |0,s,h=>by omega
 |k+1,s,h=>by
  rw[labG_cut];unfold labF cutM cutB cutR;cases hc:(cutA s).2 with
  |none=>simp
  |some r=>
   have hl:r.length<s.length:=by
    have:∀(s r:List UInt8),(cutA s).2=some r→r.length<s.length:=by
     intro s
     induction s with
     |nil=>intro r h;simp[cutA]at h
     |cons c t ih=>
      intro r h;by_cases hc:c=46
      ·simp only[cutA,if_pos hc,af]at h;subst h;simp
      ·simp only[cutA,if_neg hc]at h;have:=ih r h;simp only[bi];omega
    exact this s r hc
   simp only[Option.isSome_some,ae,Option.getD_some,List.nil_append];rw[labF_G k r (by omega)]
theorem oY(s:List UInt8):db s=labG [] s:=labF_G _ s (by omega)
theorem qg:∀(s a:List UInt8),(labG a s).length≤s.length+1
 |[],a=>by simp[labG]
 |c::r,a=>by
  simp only[labG];split
  ·have:=qg r [];simp only[bi];omega
  ·have:=qg r (a++[c]);simp only[bi];omega
structure RC where
 s:List UInt8
 o:List (List UInt8)
 j:Nat
 i:Nat
def rcSl:List (List UInt8)→V
 |[]=>.nilSlice
 |a::r=>.slice 0 0 (a::r).length false 0 0
def rcRw:List (List UInt8)→St
 |[]=>[]
 |a::r=>[.row (strs (a::r)) 9 1]
def rcV(x:RC):List V:=[.str x.s,.nilSlice,rcSl x.o,.int .i64 x.j,.int .i64 x.i]
def rcJ(x:RC):St:=rcRw x.o
def kU(x:RC):Bool:=az x.s&&(Nat.ble x.j x.i&&(Nat.ble x.i (x.s.length+1)&&(Nat.ble x.o.length x.i&&(Nat.ble x.i x.s.length||!x.o.isEmpty))))
def rcMu(x:RC):Nat:=x.s.length+2-x.i
def rcDec:List (Option V)→St→Option RC
 |[some (.str s),some .nilSlice,some .nilSlice,some (.int .i64 0),some (.int .i64 0)],_=>some ⟨s,[],0,0⟩
 |_,_=>none
def rcL(x:RC):List (List UInt8):=bif Nat.ble x.i x.s.length then x.o++labG ((x.s.drop x.j).take (x.i-x.j)) (x.s.drop x.i)else x.o
def tE(n:Nat)(cs:List V)(s:List UInt8)(K:Exit→List V→St→Prop):Prop:=∀j i:Int,K (.exit 0) [.str s,.nilSlice,.slice 0 0 n false 0 0,.int .i64 j,.int .i64 i] [.row cs 9 1]
def rcN(s:List UInt8)(o:List (List UInt8))(j i:Nat):Nat:=(rcL ⟨s,o,j,i⟩).length
def rcC(s:List UInt8)(o:List (List UInt8))(j i:Nat):List V:=strs (rcL ⟨s,o,j,i⟩)
def rcOut:Asks RC:=fun x K=>tE (rcN x.s x.o x.j x.i) (rcC x.s x.o x.j x.i) x.s K
theorem gX(σ:List Nat):∀l:List (List UInt8),renL σ (strs l)=some (strs l)
 |[]=>rfl
 |a::r=>by
  have:=gX σ r;unfold strs at this ⊢;simp only[List.map_cons,renL,renV,this]
theorem pI(s:List UInt8)(j i:Int)(o:List (List UInt8))(b L:Nat)(hL:L=o.length){st:St}(hb:st[b]?=some (.row (strs o) 9 1)):
  Fits 0 [.str s,.nilSlice,.slice 0 0 o.length false 0 0,.int .i64 j,.int .i64 i] [.row (strs o) 9 1] [some (.str s),some .nilSlice,some (.slice b 0 L false 0 0),some (.int .i64 j),some (.int .i64 i)] st:=by
 subst hL;exact⟨[b],[.str s,.nilSlice,.slice b 0 o.length false 0 0,.int .i64 j,.int .i64 i],rfl,rfl,FitsM.of ⟨.inr ⟨_,.inl (by simp only[renB,gX]),hb⟩,trivial⟩,by simp,fun i hi=>by omega⟩
theorem take_more{s:List UInt8}{j i:Nat}{c:UInt8}{r:List UInt8}(hd:s.drop i=c::r)(hj:j≤i):(s.drop j).take (i+1-j)=(s.drop j).take (i-j)++[c]:=by
 have hl:i<s.length:=by
  rcases Nat.lt_or_ge i s.length with h|h
  ·exact h
  ·rw[List.drop_eq_nil_of_le h]at hd;cases hd
 have hc:(s.drop j)[i-j]?=some c:=by
  rw[List.getElem?_drop,show j+(i-j)=i by omega];have:=List.getElem?_drop (xs:=s) (i:=i) (j:=0);rw[hd,Nat.add_zero]at this;exact this.symm
 rw[show i+1-j=(i-j)+1 by omega,List.take_add_one,hc];rfl
theorem nr{s:List UInt8}{o:List (List UInt8)}{j i:Nat}(h:i≤s.length):rcL ⟨s,o,j,i⟩=o++labG ((s.drop j).take (i-j)) (s.drop i):=by
 unfold rcL;rw[ag h];rfl
theorem rcL_out{s:List UInt8}{o:List (List UInt8)}{j i:Nat}(h:s.length<i):rcL ⟨s,o,j,i⟩=o:=by
 unfold rcL;cases hb:Nat.ble i s.length with
 |false=>rfl
 |true=>have:=aw hb;omega
theorem rc_roundOk(x:RC)(hx:kU x=true):al Qq RB0 9 10 (ah 9) 154 122 [0,2,3,4,5] (rcV x) (rcJ x) (aD 0 kU rcV rcJ rcMu rcOut x):=by
 obtain⟨s,o,j,i⟩:=x;unfold kU at hx;simp only[ad]at hx;have p0:s.length≤1099511627776:=aN hx.1;have p1:j≤i:=aw hx.2.1;have p2:i≤s.length+1:=aw hx.2.2.1;have p3:o.length≤i:=aw hx.2.2.2.1;have p4:s.length<i→o≠[]:=fun h=>by
  have h4:=hx.2.2.2.2;rw[Bool.or_eq_true]at h4;rcases h4 with h4|h4
  ·have:=aw h4;omega
  ·intro e;subst e;cases h4
 have w1:i64.wrap ((i:Int)+1)=((i+1:Nat):Int):=by rw[IntWalk.i64_in _ ⟨by omega,by omega⟩];omega
 have d1:decide ((0:Int)≤(j:Int))=true:=am (by omega);have d2:decide ((0:Int)≤(i:Int))=true:=am (by omega);have d5:(strs o).length.beq (o.length*1)=true:=by rw[aE,Nat.mul_one,a9]
 have d6:((o.length+1).ble 9223372036854775807&&((o.length+1)*16).ble 140737488355328)=true:=by rw[ag (by omega),ag (by omega)];rfl
 have pre:∀(o':List (List UInt8)) (j':Nat),j'≤i+1→i≤s.length→o'.length≤i+1→(i=s.length→o'≠[])→kU ⟨s,o',j',i+1⟩=true:=fun o' j' h1 h2 h3 h4=>by
  unfold kU;simp only[ad,Bool.or_eq_true];refine⟨hx.1,ag h1,ag (by omega),ag h3,?_⟩;rcases Nat.lt_or_ge i s.length with h|h
  ·exact .inl (ag h)
  ·refine .inr ?_;have:=h4 (by omega);cases o' with
   |nil=>exact absurd rfl this
   |cons a q=>rfl
 -- a part ends
 have cut:∀(b L:Nat) (st:St),L=o.length+1→st[b]?=some (.row (strs (o++[(s.drop j).take (i-j)])) 9 1)→i≤s.length→(∀c r,s.drop i=c::r→c=46)→
   aD 0 kU rcV rcJ rcMu rcOut ⟨s,o,j,i⟩ .normal [some (.str s),some .nilSlice,some (.slice b 0 L false 0 0),some (.int .i64 ((i+1:Nat):Int)),some (.int .i64 ((i+1:Nat):Int))] st:=by
  intro b L st hL hb hi hc;have hr:rcL ⟨s,o++[(s.drop j).take (i-j)],i+1,i+1⟩=rcL ⟨s,o,j,i⟩:=by
   cases hd:s.drop i with
   |nil=>
    have hi2:=ii hd hi;rw[rcL_out (by omega),nr hi,hd,labG]
   |cons c r=>
    obtain⟨_,h2,h3⟩:=fA hd;rw[nr h3,nr hi,hd,labG,if_pos (hc c r hd),h2,Nat.sub_self,List.take_zero,List.append_assoc];rfl
  refine⟨⟨s,o++[(s.drop j).take (i-j)],i+1,i+1⟩,pre _ _ (Nat.le_refl _) hi (by simp;omega) (fun _=>by simp),?_,by simp only[rcMu];omega,fun K hK=>?_⟩
  ·cases ho:o++[(s.drop j).take (i-j)]with
   |nil=>simp at ho
   |cons a q=>
    rw[ho]at hb;have hL:L=(a::q).length:=by rw[←ho];simp;omega
    exact pI s _ _ (a::q) b L hL hb
  ·have hK:tE (rcN s o j i) (rcC s o j i) s K:=hK;unfold rcN rcC at hK;rw[←hr]at hK;exact hK
 have go:∀c r,s.drop i=c::r→c≠46→aD 0 kU rcV rcJ rcMu rcOut ⟨s,o,j,i⟩ .normal [some (.str s),some .nilSlice,some (rcSl o),some (.int .i64 (j:Int)),some (.int .i64 ((i+1:Nat):Int))] (rcRw o):=fun c r h hc=>by
  obtain⟨_,h2,h3⟩:=fA h;refine⟨⟨s,o,j,i+1⟩,pre _ _ (by omega) (by omega) (by omega) (fun e=>by omega),?_,by simp only[rcMu];omega,fun K hK=>?_⟩
  ·cases o with
   |nil=>exact⟨[],[.str s,.nilSlice,.nilSlice,.int .i64 j,.int .i64 ((i+1:Nat):Int)],rfl,rfl,FitsM.of trivial,by simp,fun i hi=>by omega⟩
   |cons a q=>exact pI s _ _ (a::q) 0 _ rfl rfl
  ·have hK:tE (rcN s o j i) (rcC s o j i) s K:=hK;have e:rcL ⟨s,o,j,i⟩=rcL ⟨s,o,j,i+1⟩:=by
    rw[nr (by omega),nr h3,h,labG,if_neg hc,take_more h p1,h2]
   unfold rcN rcC at hK;rw[e]at hK;exact hK
 have dot:∀{c:UInt8} {b:Bool},((c.toNat:Int)==46)=b→(decide (c=46))=b:=fun{c b} h=>by
  rw[←h,Bool.eq_iff_iff,beq_iff_eq,decide_eq_true_eq];exact⟨fun h=>by subst h;rfl,fun h=>UInt8.toNat_inj.1 (by have:(46:UInt8).toNat=46:=rfl;omega)⟩
 cases o with
 |nil=>
  show al Qq RB0 9 10 (ah 9) 154 122 [0,2,3,4,5] [.str s,.nilSlice,.nilSlice,.int .i64 j,.int .i64 i] [] _;rw[rc_round0];unfold zJ_0;have hi:i≤s.length:=by
   rcases Nat.lt_or_ge s.length i with h|h
   ·exact absurd rfl (p4 h)
   ·exact h
  have d0:decide ((i:Int)≤(s.length:Int))=true:=am (by omega);have d3:(j.ble i&&i.ble s.length)=true:=by rw[ag p1,ag hi];rfl
  simp only[d0,d1,d2,d3,w1,bp,ae,aH];refine ac (fun h=>?_) (fun h=>?_)
  ·have h:=beq_iff_eq.1 h;exact cut 1 1 _ rfl rfl hi (fun c r hd=>by rw[List.drop_eq_nil_of_le (by omega)]at hd;cases hd)
  ·have h:=beq_eq_false_iff_ne.1 h;refine aa (ag (by omega)) ?_;cases hd:s.drop i with
   |nil=>have:=ii hd hi;omega
   |cons c r=>
    rw[(fA hd).1];refine ac (fun h=>?_) (fun h=>?_)
    ·exact cut 1 1 _ rfl rfl hi (fun c' r' hd'=>by rw[hd]at hd';cases hd';exact aN (dot h))
    ·exact go c r hd (bk (dot h))
 |cons a q=>
  show al Qq RB0 9 10 (ah 9) 154 122 [0,2,3,4,5] [.str s,.nilSlice,.slice 0 0 (a::q).length false 0 0,.int .i64 j,.int .i64 i] [.row (strs (a::q)) 9 1] _;rw[rc_round1];unfold zJ_1;rcases Nat.lt_or_ge s.length i with hi|hi
  ·rw[bH (show ¬((i:Int)≤(s.length:Int)) by omega),ak];refine⟨_,_,fun K hK=>?_,pI s j i (a::q) 0 _ rfl rfl⟩;have hK:tE (rcN s (a::q) j i) (rcC s (a::q) j i) s K:=hK;unfold rcN rcC at hK;rw[rcL_out hi]at hK;exact hK j i
  have d0:decide ((i:Int)≤(s.length:Int))=true:=am (by omega);have d3:(j.ble i&&i.ble s.length)=true:=by rw[ag p1,ag hi];rfl
  have cat:∀x:List UInt8,strs (a::q)++[V.str x]=strs ((a::q)++[x]):=fun x=>by unfold strs;rw[List.map_append];rfl
  simp only[d0,d1,d2,d3,d5,d6,w1,cat,bp,ae,aH];refine ac (fun h=>?_) (fun h=>?_)
  ·have h:=beq_iff_eq.1 h;exact cut 2 _ _ rfl rfl hi (fun c r hd=>by rw[List.drop_eq_nil_of_le (by omega)]at hd;cases hd)
  ·have h:=beq_eq_false_iff_ne.1 h;refine aa (ag (by omega)) ?_;cases hd:s.drop i with
   |nil=>have:=ii hd hi;omega
   |cons c r=>
    rw[(fA hd).1];refine ac (fun h=>?_) (fun h=>?_)
    ·exact cut 2 _ _ rfl rfl hi (fun c' r' hd'=>by rw[hd]at hd';cases hd';exact aN (dot h))
    ·exact go c r hd (bk (dot h))
def lkRC:Nat→Trans→Trans:=ba 122 (bK 0 (szOf Qq 154) [0,2,3,4,5] rcDec kU rcV rcJ rcOut) (ah 9)
theorem lkRC_ok:aQ Qq 0 lkRC 154:=by
 unfold lkRC;exact bB (aY 9 0 154) (by kernel_rfl) fun f st Q h=>bc (P:=Qq) (T:=RB0) (k:=0) (lim:=9) (n:=10) (g:=154) (p0:=122) (lk:=ah 9) aA uQ (bf 9 _ _) rcMu rc_roundOk h
def RB3:Tab:=⟨noT,noL,cI (aT 9) 154 0 lkRC⟩
theorem RB3_ok:TabOk3 Qq RB3:=⟨aJ,aK,bq (au 9) lkRC_ok⟩
theorem rcut_tree(s:List UInt8)(R:V→St→Prop):runM Qq RB3 9 10 154 [.str s] R=
  (
 Fits 0 [.str s,.nilSlice,.nilSlice,.int i64 0,.int i64 0] [] [some (.str s),some .nilSlice,some .nilSlice,some (.int i64 0),some
 (.int i64 0)] []∧bif kU {s:=s,o:=[],j:=0,i:=0}then ∀(j i:Int),R (.slice 0 0 (rcN s [] 0 0) false 0 0) [.row (rcC s [] 0 0) 9 1]else
 False):=by kernel_rfl
def rcutT:List V→Option (Qx)
 |[.str s]=>some [(az s,(.slice 0 0 (lsN s []) false 0 0,[.row (lsC s []) 9 1]))]
 |_=>none
theorem rcL_all(s:List UInt8):rcL ⟨s,[],0,0⟩=[]++db s:=by
 rw[nr (Nat.zero_le _),oY];rfl
theorem tD(args:List V)(l:Qx)(o:V×St)(h:rcutT args=some l)(ho:aL l=some o):FnSat Qq 154 args [] (Is o):=by
 unfold rcutT at h;split at h
 ·rename_i s;cases h;obtain⟨hk,rfl⟩:=aO ho;refine FnSat.fits (dX (lim:=9) (n:=10) aA RB3_ok ?_);rw[rcut_tree];refine⟨⟨[],[.str s,.nilSlice,.nilSlice,.int .i64 0,.int .i64 0],rfl,rfl,FitsM.of trivial,by simp,fun i hi=>by omega⟩,aa ?_ (fun j i=>?_)⟩
  ·unfold kU;rw[hk];rfl
  ·unfold rcN rcC lsN lsC;rw[rcL_all];exact⟨[0],[.slice 0 0 _ false 0 0],rfl,rfl,FitsM.of ⟨.inr ⟨_,.inl (by simp only[renB,gX]),rfl⟩,trivial⟩,by simp,fun i hi=>by omega⟩
 ·cases h
def RB4:Tab:=⟨addP (addT (addT noT 154 rcutT) 190 rdigT) 191 rlabP,noL,aT 9⟩
theorem RB4_ok:TabOk3 Qq RB4:=⟨bg (aR (aR aJ tD) rdig_ok) (fun args v h=>rlab_ok args v h),aK,au 9⟩
theorem rm_round(s:List UInt8)(o:List V)(n:Nat)(i:Int)(R:Qz):al Qq RB4 9 10 (ah 9) 153 122 [0,2,3,4] [.str s,.bool false,.slice 0 0 n false 0 0,.int .i64 i] [.row o 9 1] R=
  (
 bif decide (i<(↑n:Int))then bif decide (0≤i)&&decide (i<(↑n:Int))then bif (0+i.toNat*1).blt o.length then bif ar (o.getD (0+i.toNat*1) (.bool
 false))then bif !cG (ab (o.getD (0+i.toNat*1) (.bool false)))then R .ret [some (.str s),some (.bool false),some (.slice 0 0 n false 0 0),some
 (.int i64 i)] [.row o 9 1]else R .normal [some (.str s),some (.bool false),some (.slice 0 0 n false 0 0),some (.int i64 (i64.wrap
 (i+1)))] [.row o 9 1]else False else False else False else R (.exit 0) [some (.str s),some (.bool false),some (.slice 0 0 n false 0 0),some (.int
 i64 i)] [.row o 9 1]):=by kernel_rfl
structure RM where
 s:List UInt8
 o:List V
 i:Nat
def rmV(x:RM):List V:=[.str x.s,.bool false,.slice 0 0 x.o.length false 0 0,.int .i64 x.i]
def rmJ(x:RM):St:=[.row x.o 9 1]
def pw(x:RM):Bool:=x.o.all ar&&(Nat.ble x.o.length 1099511627800&&Nat.ble x.i x.o.length)
def rmMu(x:RM):Nat:=x.o.length-x.i
def rmDec:List (Option V)→St→Option RM
 |[some (.str s),some (.bool false),some (.slice b 0 n false 0 0),some (.int .i64 0)],st=>match st[b]? with
  |some (.row o _ _)=>some ⟨s,o,0⟩
  |_=>none
 |_,_=>none
def lZ(o:List V):Bool:=(o.map ab).all cG
def rmOutG(s:List UInt8)(o:List V)(g:Bool)(K:Exit→List V→St→Prop):Prop:=bif g then ∀i:Int,K (.exit 0) [.str s,.bool false,.slice 0 0 o.length false 0 0,.int .i64 i] [.row o 9 1]else ∀i:Int,K .ret [.str s,.bool false,.slice 0 0 o.length false 0 0,.int .i64 i] [.row o 9 1]
def rmOut:Asks RM:=fun x K=>rmOutG x.s x.o (lZ (x.o.drop x.i)) K
theorem oR(s:List UInt8)(l:List (List UInt8))(b L:Nat)(i:Int)(hL:L=(strs l).length){st:St}(hb:st[b]?=some (.row (strs l) 9 1)):
  Fits 0 [.str s,.bool false,.slice 0 0 (strs l).length false 0 0,.int .i64 i] [.row (strs l) 9 1] [some (.str s),some (.bool false),some (.slice b 0 L false 0 0),some (.int .i64 i)] st:=by
 subst hL;exact⟨[b],[.str s,.bool false,.slice b 0 (strs l).length false 0 0,.int .i64 i],rfl,rfl,FitsM.of ⟨.inr ⟨_,.inl (by simp only[renB,gX]),hb⟩,trivial⟩,by simp,fun i hi=>by omega⟩
theorem rm_roundOk(x:RM)(hx:pw x=true):al Qq RB4 9 10 (ah 9) 153 122 [0,2,3,4] (rmV x) (rmJ x) (aD 0 pw rmV rmJ rmMu rmOut x):=by
 obtain⟨s,o,i⟩:=x;have hx0:=hx;unfold pw at hx;simp only[ad]at hx;have q1:o.all ar=true:=hx.1;have q2:o.length≤1099511627800:=aw hx.2.1;have q3:i≤o.length:=aw hx.2.2;obtain⟨l,rfl⟩:∃l,o=strs l:=⟨o.map ab,(mg q1).symm⟩;show al Qq RB4 9 10 (ah 9) 153 122 [0,2,3,4] [.str s,.bool false,.slice 0 0 (strs l).length false 0 0,.int .i64 i] [.row (strs l) 9 1] _;rw[rm_round];rw[aE]at q2 q3;have hA:∀j,lZ ((strs l).drop j)=(l.drop j).all cG:=fun j=>by
  have:(strs l).drop j=strs (l.drop j):=by unfold strs;rw[List.map_drop]
  unfold lZ;rw[this,ai]
 have out:∀K,rmOut ⟨s,strs l,i⟩ K→rmOutG s (strs l) ((l.drop i).all cG) K:=fun K hK=>by
  have hK:rmOutG s (strs l) (lZ ((strs l).drop i)) K:=hK;rw[hA]at hK;exact hK
 rw[aE];cases hd:l.drop i with
 |nil=>
  have hi:=bY hd q3;rw[bH (show ¬((i:Int)<(l.length:Int)) by omega),ak];refine⟨_,_,fun K hK=>?_,oR s l 0 _ i (by rw[aE]) rfl⟩;have hK:=out K hK;rw[hd]at hK;exact hK i
 |cons c r=>
  obtain⟨e1,e2,e3⟩:=bn hd;obtain⟨e4,e5⟩:=fY hd;have e6:0+i*1=i*1:=by omega
  have w1:i64.wrap ((i:Int)+1)=((i+1:Nat):Int):=by rw[IntWalk.i64_in _ ⟨by omega,by omega⟩];omega
  have d0:decide ((i:Int)<(l.length:Int))=true:=am (by omega);have d1:decide ((0:Int)≤(i:Int))=true:=am (by omega);have e7:i.blt l.length=true:=ag e3;rw[Nat.mul_one]at e4;simp only[d0,d1,w1,e4,e7,Nat.zero_add,Nat.mul_one,bp,ar,ab,ae,bv];refine ac (fun h=>?_) (fun h=>?_)
  ·have h:cG c=false:=by simpa using h
   refine⟨_,_,fun K hK=>?_,oR s l 0 _ i (by rw[aE]) rfl⟩;have hK:=out K hK;rw[hd,List.all_cons,h,Bool.false_and]at hK;exact hK i
  ·have h:cG c=true:=by simpa using h
   refine⟨⟨s,strs l,i+1⟩,?_,oR s l 0 _ _ (by rw[aE]) rfl,by simp only[rmMu,aE];omega,fun K hK=>?_⟩
   ·unfold pw;simp only[ad];exact⟨q1,hx.2.1,ag (by rw[aE];exact e3)⟩
   ·have hK:=out K hK;rw[hd,List.all_cons,h,aH,←e2,←hA]at hK;exact hK
def lkRM:Nat→Trans→Trans:=ba 122 (bK 0 (szOf Qq 153) [0,2,3,4] rmDec pw rmV rmJ rmOut) (ah 9)
theorem lkRM_ok:aQ Qq 0 lkRM 153:=by
 unfold lkRM;exact bB (aY 9 0 153) (by kernel_rfl) fun f st Q h=>bc (P:=Qq) (T:=RB4) (k:=0) (lim:=9) (n:=10) (g:=153) (p0:=122) (lk:=ah 9) aA RB4_ok (bf 9 _ _) rmMu rm_roundOk h
def RB5:Tab:=⟨addP (addT (addT noT 154 rcutT) 190 rdigT) 191 rlabP,noL,cI (aT 9) 153 0 lkRM⟩
theorem RB5_ok:TabOk3 Qq RB5:=⟨bg (aR (aR aJ tD) rdig_ok) (fun args v h=>rlab_ok args v h),aK,bq (au 9) lkRM_ok⟩
def zJ_2(s:List UInt8):=((lsC s []).getD (0+(i64.wrap ((↑(lsN s []):Int)-1)).toNat*1) (V.bool false))
theorem rmay_tree(s:List UInt8)(R:V→Prop):runW Qq RB5 9 10 153 [.str s] R=
 (
 bif az s then bif decide ((↑s.length:Int)>253)then R (.bool false)else bif decide (0≤i64.wrap ((↑(lsN s []):Int)-1))&&decide
 (i64.wrap ((↑(lsN s []):Int)-1)<(↑(lsN s []):Int))then bif (0+(i64.wrap ((↑(lsN s []):Int)-1)).toNat*1).blt (lsC s []).length
 then bif ar (zJ_2 s)then bif az (ab (zJ_2 s))then bif cH (ab (zJ_2 s))then R (.bool false)else Fits 0 [.str s,.bool false,.slice 0 0
 (lsC s []).length false 0 0,.int i64 0] [.row (lsC s []) 9 1] [some (.str s),some (.bool false),some (.slice 0 0 (lsN s []) false 0 0),some
 (.int i64 0)] [.row (lsC s []) 9 1]∧bif pw {s:=s,o:=lsC s [],i:=0}then bif lZ (List.drop 0 (lsC s []))then ∀(i:Int),R
 (.bool true)else ∀(i:Int),R (.bool false)else False else False else False else False else False else False):=by kernel_rfl
theorem nmA_all:∀(k:Nat) (s:List UInt8),s.length<k→nmA k s=((labF k s).all cG,(labF k s).all cG&&cH ((labF k s).getLastD []))
 |0,s,h=>by omega
 |k+1,s,h=>by
  unfold nmA labF;cases hl:cG (cutB s)with
  |false=>
   rw[ak];cases cutM s<;>simp[hl]
  |true=>
   rw[ae];cases hm:cutM s with
   |false=>simp[hl]
   |true=>
    rw[ae,ae];have hc:=iA hm;rw[nmA_all k (cutR s) (by omega)];have hne:labF k (cutR s)≠[]:=by
     cases k with
     |zero=>omega
     |succ k=>unfold labF;cases cutM (cutR s)<;>simp
    cases hq:labF k (cutR s)with
    |nil=>exact absurd hq hne
    |cons a q=>simp[hl]
theorem labG_ne:∀(s a:List UInt8),labG a s≠[]
 |[],a=>by simp[labG]
 |c::r,a=>by
  simp only[labG];split
  ·simp
  ·exact labG_ne r _
theorem mayN_all(s:List UInt8):mayN s=(decide (s.length≤253)&&((db s).all cG&&!cH ((db s).getLastD []))):=by
 unfold mayN nmO nmD db;rw[nmA_all _ s (by omega)];cases(labF (s.length+1) s).all cG<;>simp
def rmayT:List V→Option (Qx)
 |[.str s]=>some [(az s,(.bool (mayN s),[]))]
 |_=>none
theorem pN:∀(s a:List UInt8),∀x∈labG a s,x.length≤a.length+s.length
 |[],a,x,h=>by simp[labG]at h;subst h;simp
 |c::r,a,x,h=>by
  simp only[labG]at h;split at h
  ·rcases List.mem_cons.1 h with h|h
   ·subst h;simp
   ·have:=pN r [] x h;simp only[bi,List.length_nil]at*;omega
  ·have:=pN r (a++[c]) x h;simp only[bQ,bi,List.length_nil]at*;omega
theorem rmay_ok(args:List V)(l:Qx)(o:V×St)(h:rmayT args=some l)(ho:aL l=some o):FnSat Qq 153 args [] (Is o):=by
 unfold rmayT at h;split at h
 ·rename_i s;cases h;obtain⟨hk,rfl⟩:=aO ho;have hb:=aN hk;refine ax (lim:=9) (n:=10) aA RB5_ok rfl rfl ?_;rw[rmay_tree];unfold zJ_2;rw[mayN_all];have eC:lsC s []=strs (db s):=rfl;have eN:lsN s []=(db s).length:=rfl;have hlen:=qg s [];have hne:=labG_ne s [];rw[eC,eN];obtain⟨q,z,hq⟩:∃q z,db s=q++[z]:=by
   rw[←oY]at hne;exact⟨_,_,(List.dropLast_concat_getLast hne).symm⟩
  have hz:z.length≤s.length:=by
   have:=pN s [] z (by rw[←oY,hq];simp);simpa using this
  rw[←oY]at hlen;have hL:(db s).length=q.length+1:=by rw[hq];simp
  have w:i64.wrap (((db s).length:Int)-1)=(q.length:Int):=by rw[hL,IntWalk.i64_in _ ⟨by omega,by omega⟩];omega
  have g:(strs (db s)).getD q.length (.bool false)=.str z:=by
   rw[hq];unfold strs;rw[List.map_append,bX,List.getElem?_append_right (by simp)];simp
  have last:(db s).getLastD []=z:=by rw[hq];simp
  have d1:(decide (0≤(q.length:Int))&&decide ((q.length:Int)<((db s).length:Int)))=true:=by rw[hL];simp;omega
  have d2:q.length.blt (strs (db s)).length=true:=ag (by rw[aE,hL];omega);have d3:az z=true:=am (by omega);simp only[w,bp,Nat.mul_one,Nat.zero_add,d1,d2,g,d3,ar,ab,last,hk,ae];refine ac (fun h=>?_) (fun h=>ac (fun h1=>?_) (fun h1=>⟨?_,aa ?_ ?_⟩))
  ·have h:=aN h;rw[bH (show ¬s.length≤253 by omega)];rfl
  ·rw[h1,Bool.not_true,bL,bL]
  ·exact oR s (db s) 0 _ 0 (by rw[aE]) rfl
  ·unfold pw;simp only[ad];exact⟨bD _,ag (by rw[aE];omega),ag (Nat.zero_le _)⟩
  ·have h:=bk h;have e:(decide (s.length≤253)&&((db s).all cG&&!cH z))=(db s).all cG:=by
    rw[am (show s.length≤253 by omega),h1,Bool.not_false,Bool.and_true,aH]
   have e2:lZ (List.drop 0 (strs (db s)))=(db s).all cG:=by unfold lZ;rw[List.drop_zero,ai]
   rw[e2,e];cases(db s).all cG with
   |true=>exact fun _=>rfl
   |false=>exact fun _=>rfl
 ·cases h
theorem rbare_tree(s:List UInt8)(R:V→Prop):runW Qq RB0 9 10 152 [.str s] R=
  (
 bif decide ((↑s.length:Int)>1)then bif true&&Nat.ble 2 s.length then bif List.take 2 (List.drop 0 s)==[42,46]then bif Nat.ble 2 s.length&&s.length.ble
 s.length then R (.tuple [.str (List.take (s.length-2) (List.drop 2 s)),.bool true])else False else R (.tuple [.str s,.bool false])else False else R (.tuple
 [.str s,.bool false])):=by kernel_rfl
def tF:List V→Option V
 |[.str s]=>some (.tuple [.str (cV s),.bool (eY s)])
 |_=>none
theorem rbare_ok(args:List V)(v:V)(h:tF args=some v):FnSat Qq 152 args [] (Is (v,[])):=by
 unfold tF at h;split at h
 ·rename_i s;cases h;refine ax (lim:=9) (n:=10) aA uQ rfl rfl ?_;rw[rbare_tree];unfold cV eY;have hd:List.drop 0 s=s:=rfl;rw[hd];refine ac (fun h=>?_) (fun h=>?_)
  ·have h:=aN h;refine aa (by rw[aH];exact ag (by omega)) (ac (fun h1=>aa ?_ ?_) (fun h1=>?_))
   ·rw[ag (show 2≤s.length by omega),ag (Nat.le_refl _)];rfl
   ·rw[if_pos (beq_iff_eq.1 h1),h1,cz (by simp)]
   ·rw[if_neg (beq_eq_false_iff_ne.1 h1),h1]
  ·have h:=bk h;have n:s.take 2≠[42,46]:=fun e=>by
    have:=congrArg List.length e;simp at this;omega
   rw[if_neg n,beq_false_of_ne n]
 ·cases h
def RM0:Tab:=⟨addT (addT (addP noT 152 tF) 153 rmayT) 154 rcutT,noL,aT 9⟩
theorem RM0_ok:TabOk3 Qq RM0:=⟨aR (aR (bg aJ rbare_ok) rmay_ok) tD,aK,au 9⟩
theorem rpat_tree(s:List UInt8)(R:V→Prop):runW Qq RM0 9 10 184 [.str s] R=
  (
 bif az (cV s)then R (.bool (mayN (cV s)))else False):=by kernel_rfl
theorem rlabs_tree(s:List UInt8)(R:V→St→Prop):runM Qq RM0 9 10 95 [.str s] R=
  (
 bif az s then bif !mayN s then R .nilSlice []else bif az s then R (.slice 0 0 (lsN s []) false 0 0) [.row (lsC s []) 9 1]else False else False):=by kernel_rfl
def zK_0(s:List UInt8):=((↑(ab ((lsC s []).getD 0 (V.bool false))).length:Int)+1)
theorem rpar_tree(s:List UInt8)(R:V→Prop):runW Qq RM0 9 10 94 [.str s] R=
 (
 bif az s then bif !mayN s then R (.tuple [.str [],.bool false])else bif az s then bif decide ((↑(lsN s []):Int)<2)then R (.tuple [.str [],
 .bool false])else bif true&&decide (0<(↑(lsN s []):Int))then bif Nat.blt 0 (lsC s []).length then bif ar ((lsC s []).getD 0 (.bool false))then bif
 decide (0≤i64.wrap (zK_0 s))then bif (i64.wrap (zK_0 s)).toNat.ble s.length&&s.length.ble s.length then R (.tuple [.str (List.take
 (s.length-(i64.wrap (zK_0 s)).toNat) (List.drop (i64.wrap (zK_0 s)).toNat s)),.bool true])else False else False else False else False else
 False else False else False):=by kernel_rfl
theorem lI{s:List UInt8}(h:az s=true):az (cV s)=true:=by
 unfold az at*
 have h:=aN h;refine am ?_;unfold cV;split
 ·simp;omega
 ·exact h
def rpatT:List V→Option (Qx)
 |[.str s]=>some [(az s,(.bool (patN s),[]))]
 |_=>none
theorem rpat_ok(args:List V)(l:Qx)(o:V×St)(h:rpatT args=some l)(ho:aL l=some o):FnSat Qq 184 args [] (Is o):=by
 unfold rpatT at h;split at h
 ·rename_i s;cases h;obtain⟨hk,rfl⟩:=aO ho;refine ax (lim:=9) (n:=10) aA RM0_ok rfl rfl ?_;rw[rpat_tree];exact aa (lI hk) rfl
 ·cases h
def rlabsT:List V→Option (Qx)
 |[.str s]=>some [(az s&&mayN s,(.slice 0 0 (lsN s []) false 0 0,[.row (lsC s []) 9 1])),(az s&&!mayN s,(.nilSlice,[]))]
 |_=>none
theorem rlabs_ok(args:List V)(l:Qx)(o:V×St)(h:rlabsT args=some l)(ho:aL l=some o):FnSat Qq 95 args [] (Is o):=by
 unfold rlabsT at h;split at h
 ·rename_i s;cases h;cases hk:az s with
  |false=>rw[hk]at ho;simp[aL]at ho
  |true=>
  rw[hk,aH,aH]at ho;refine FnSat.fits (dX (lim:=9) (n:=10) aA RM0_ok ?_);rw[rlabs_tree,hk];cases hm:mayN s with
  |true=>
   rw[hm]at ho;cases ho;exact⟨[0],[.slice 0 0 _ false 0 0],rfl,rfl,FitsM.of ⟨.inr ⟨_,.inl (by unfold lsC;simp only[renB,gX]),rfl⟩,trivial⟩,by simp,fun i hi=>by omega⟩
  |false=>
   rw[hm]at ho;cases ho;exact⟨[],[.nilSlice],rfl,rfl,FitsM.of trivial,by simp,fun i hi=>by omega⟩
 ·cases h
theorem qD:∀s:List UInt8,match(cutA s).2 with
  |none=>(cutA s).1=s
  |some r=>s=(cutA s).1++46::r
 |[]=>rfl
 |c::r=>by
  by_cases hc:c=46
  ·simp[cutA,hc]
  ·have:=qD r;simp only[cutA,if_neg hc];cases h:(cutA r).2 with
   |none=>rw[h]at this;simp only at this ⊢;rw[this]
   |some t=>rw[h]at this;simp only at this ⊢;rw[List.cons_append,←this]
theorem cut_drop{s:List UInt8}(h:cutM s=true):s.drop ((cutB s).length+1)=cutR s∧(cutB s).length+1≤s.length:=by
 have:=qD s;unfold cutM at h;unfold cutB cutR;cases hc:(cutA s).2 with
 |none=>rw[hc]at h;cases h
 |some r=>
  rw[hc]at this;simp only at this;have hl:=congrArg List.length this;rw[bQ,bi]at hl;refine⟨?_,by omega⟩;rw[Option.getD_some];have e:s.drop ((cutA s).1.length+1)=((cutA s).1++46::r).drop ((cutA s).1.length+1):=by rw[←this]
  rw[e,List.drop_append,List.drop_eq_nil_of_le (by omega),List.nil_append,show(cutA s).1.length+1-(cutA s).1.length=1 by omega];rfl
theorem qf(s:List UInt8):∃q,db s=cutB s::q∧(q=[]↔cutM s=false):=by
 unfold db labF;cases hm:cutM s with
 |false=>exact⟨[],rfl,by simp⟩
 |true=>
  rw[ae];refine⟨_,rfl,?_⟩;have:=iA hm;cases hk:s.length with
  |zero=>omega
  |succ k=>unfold labF;cases cutM (cutR s)<;>simp
def rparT:List V→Option (Qx)
 |[.str s]=>some [(az s,(.tuple [.str (bif parB s then cutR s else[]),.bool (parB s)],[]))]
 |_=>none
theorem rpar_ok(args:List V)(l:Qx)(o:V×St)(h:rparT args=some l)(ho:aL l=some o):FnSat Qq 94 args [] (Is o):=by
 unfold rparT at h;split at h
 ·rename_i s;cases h;obtain⟨hk,rfl⟩:=aO ho;have hb:=aN hk;refine ax (lim:=9) (n:=10) aA RM0_ok rfl rfl ?_;rw[rpar_tree,hk,ae];unfold zK_0;unfold parB;cases hm:mayN s with
  |false=>simp
  |true=>
  obtain⟨q,hq,hc⟩:=qf s;have eC:lsC s []=strs (cutB s::q):=by unfold lsC;rw[List.nil_append,hq]
  have eN:lsN s []=q.length+1:=by unfold lsN;rw[List.nil_append,hq];rfl
  rw[eC,eN,Bool.and_true,Bool.not_true,ak,ae];have g:(strs (cutB s::q)).getD 0 (.bool false)=.str (cutB s):=rfl;refine ac (fun h=>?_) (fun h=>?_)
  ·have h:=aN h;have:q=[]:=List.length_eq_zero_iff.1 (by omega);rw[hc.1 this];rfl
  ·have h:=bk h;have hcm:cutM s=true:=by
    cases hcm:cutM s with
    |true=>rfl
    |false=>have:=hc.2 hcm;subst this;simp at h
   obtain⟨c1,c2⟩:=cut_drop hcm;have w:i64.wrap (((cutB s).length:Int)+1)=(((cutB s).length+1:Nat):Int):=by rw[IntWalk.i64_in _ ⟨by omega,by omega⟩];omega
   simp only[g,ab,ar,w,bp,c1,hcm,ae];refine aa (by rw[aH];exact am (by omega)) (aa rfl (aa (am (by omega)) (aa ?_ ?_)))
   ·rw[ag c2,ag (Nat.le_refl _)];rfl
   ·rw[cz];rw[←c1,List.length_drop];omega
 ·cases h
def RM1:Tab:=⟨addT (addT (addP noT 152 tF) 153 rmayT) 94 rparT,noL,aT 9⟩
theorem RM1_ok:TabOk3 Qq RM1:=⟨aR (aR (bg aJ rbare_ok) rmay_ok) rpar_ok,aK,au 9⟩
theorem rmat_tree(p s:List UInt8)(R:V→Prop):runW Qq RM1 9 10 93 [.str p,.str s] R=
  (
 bif az (cV p)then bif !mayN (cV p)then R (.bool false)else bif az s then bif !mayN s then R (.bool false)else bif !eY p then R (.bool (cV p==
 s))else bif az s then bif parB s then R (.bool ((bif parB s then cutR s else[])==cV p))else R (.bool false)else False else False else False):=by kernel_rfl
def rmatT:List V→Option (Qx)
 |[.str p,.str s]=>some [(az p&&az s,(.bool (gn p s),[]))]
 |_=>none
theorem rmat_ok(args:List V)(l:Qx)(o:V×St)(h:rmatT args=some l)(ho:aL l=some o):FnSat Qq 93 args [] (Is o):=by
 unfold rmatT at h;split at h
 ·rename_i p s;cases h;obtain⟨hk,rfl⟩:=aO ho;rw[ad]at hk;have h1:=lI hk.1;refine ax (lim:=9) (n:=10) aA RM1_ok rfl rfl ?_;rw[rmat_tree,h1,hk.2];unfold gn patN;cases hp:mayN (cV p)with
  |false=>rfl
  |true=>
  cases hm:mayN s with
  |false=>rfl
  |true=>
  cases hs:eY p with
  |false=>
   have:cV p=p:=by
    unfold cV;unfold eY at hs;rw[if_neg (beq_eq_false_iff_ne.1 hs)]
   rw[this];rfl
  |true=>
   cases hb:parB s with
   |false=>rfl
   |true=>rfl
 ·cases h
end Go.Proofs.YtebkeppoicllmaaGreatDoor
end
