/- Whether certificates are anchored: what it comes to. -/
import Derived.Test.YtebkeppoicllmaaDoorLink
namespace Go.Proofs.YtebkeppoicllmaaDoor
open Go.IntKind (u8 u16 u32 u64 i8 i16 i32 i64)
open Go Go.Vm Go.RowKit
set_option linter.unusedVariables false
set_option maxRecDepth 100000
set_option linter.unusedSectionVars false
variable [Φ:Frz]
noncomputable def AN0:Tab:=⟨noT,addS (addS (addS noL 15 oW) 7 linkG) 16 inG,bf 9⟩
theorem AN0_ok:TabOk3 Tryd.prog AN0:=⟨aL,cQ (cQ (cQ aM nJ) linkG_ok) inG_ok,au 9⟩
theorem an_round(x:Value)(n:Nat)(cs:List V)(now:Int)(y:Value)(m:Nat)(ds:List V)(i:Int)(R:Exit→List (Option V)→St→Prop):ao Tryd.prog AN0 9 10 (ah 9) 8 26 [0,1,2,6,9,10,11] [.lst x n cs,.int .i64 now,.lst y m ds,.bool false,.lst x n cs,.int .i64 n,.int .i64 i] [] R=
  (
 bif decide (i<(↑n:Int))then bif decide (0≤i)&&decide (i<(↑n:Int))then bif (i.toNat*6+6).ble cs.length then bif aw (cs.getD (i.toNat*6+0) (.bool
 false))then bif aw (cs.getD (i.toNat*6+1) (.bool false))then bif jS (cs.getD (i.toNat*6+2) (.bool false))then bif br i64 (cs.getD
 (i.toNat*6+3) (.bool false))then bif br i64 (cs.getD (i.toNat*6+4) (.bool false))then bif dP (cs.getD (i.toNat*6+5) (.bool false))then
 bif (jz (cs.getD (i.toNat*6+2) (.bool false))).length.beq (nOfV (cs.getD (i.toNat*6+2) (.bool false))*1)&&((jz (cs.getD (i.toNat*6+2) (.bool
 false))).all aw&&(jz (cs.getD (i.toNat*6+2) (.bool false))).length.beq (nOfV (cs.getD (i.toNat*6+2) (.bool false))))then bif !aS ((al (cs.getD
 (i.toNat*6+3) (.bool false)))) ((al (cs.getD (i.toNat*6+4) (.bool false)))) now then R .ret [some (.lst x n cs),some (.int i64 now),some
 (.lst y m ds),some (.bool false),some (.lst x n cs),some (.int i64 (↑n:Int)),some (.int i64 i)] [.row [.str (aa (cs.getD (i.toNat*6+
 0) (.bool false))),.str (aa (cs.getD (i.toNat*6+1) (.bool false))),.lst (xOfV (cs.getD (i.toNat*6+2) (.bool false))) (nOfV (cs.getD (i.toNat*6+2)
 (.bool false))) (jz (cs.getD (i.toNat*6+2) (.bool false))),.int i64 (al (cs.getD (i.toNat*6+3) (.bool false))),.int i64 (al
 (cs.getD (i.toNat*6+4) (.bool false))),.bool (dr (cs.getD (i.toNat*6+5) (.bool false)))] 27 6]else bif decide (0≤if i64.wrap (i-1)>0 then
 i64.wrap (i-1)else 0)then bif decide (0≤i64.wrap (i+1))&&(decide (0≤i64.wrap (i+1))&&((if i64.wrap (i-1)>0 then
 i64.wrap (i-1)else 0).toNat.ble (i64.wrap (i+1)).toNat&&((i64.wrap (i+1)).toNat.ble (i64.wrap (i+1)).toNat&&(i64.wrap
 (i+1)).toNat.ble n)))then bif (List.take (((i64.wrap (i+1)).toNat-(if i64.wrap (i-1)>0 then i64.wrap (i-1)else 0).toNat)*6)
 (List.drop ((if i64.wrap (i-1)>0 then i64.wrap (i-1)else 0).toNat*6) cs)).length.beq (((i64.wrap (i+1)).toNat-(if i64.wrap (i
 -1)>0 then i64.wrap (i-1)else 0).toNat)*6)&&(isCr [] (List.take (((i64.wrap (i+1)).toNat-(if i64.wrap (i-1)>0 then
 i64.wrap (i-1)else 0).toNat)*6) (List.drop ((if i64.wrap (i-1)>0 then i64.wrap (i-1)else 0).toNat*6) cs))&&(crD [] (List.take
 (((i64.wrap (i+1)).toNat-(if i64.wrap (i-1)>0 then i64.wrap (i-1)else 0).toNat)*6) (List.drop ((if i64.wrap (i-1)>0 then
 i64.wrap (i-1)else 0).toNat*6) cs))).length.beq ((i64.wrap (i+1)).toNat-(if i64.wrap (i-1)>0 then i64.wrap (i-1)else
 0).toNat))&&(crD [] (List.take (((i64.wrap (i+1)).toNat-(if i64.wrap (i-1)>0 then i64.wrap (i-1)else 0).toNat)*6) (List.drop ((if
 i64.wrap (i-1)>0 then i64.wrap (i-1)else 0).toNat*6) cs))).length.ble 9223372036854775807 then bif !bw (crD [] (List.take (((i64.wrap
 (i+1)).toNat-(if i64.wrap (i-1)>0 then i64.wrap (i-1)else 0).toNat)*6) (List.drop ((if i64.wrap (i-1)>0 then i64.wrap (i
 -1)else 0).toNat*6) cs)))then R .ret [some (.lst x n cs),some (.int i64 now),some (.lst y m ds),some (.bool false),some (.lst x n cs),some
 (.int i64 (↑n:Int)),some (.int i64 i)] [.row [.str (aa (cs.getD (i.toNat*6+0) (.bool false))),.str (aa (cs.getD (i.toNat*6+1)
 (.bool false))),.lst (xOfV (cs.getD (i.toNat*6+2) (.bool false))) (nOfV (cs.getD (i.toNat*6+2) (.bool false))) (jz (cs.getD (i.toNat*6+2) (.bool
 false))),.int i64 (al (cs.getD (i.toNat*6+3) (.bool false))),.int i64 (al (cs.getD (i.toNat*6+4) (.bool false))),.bool (dr
 (cs.getD (i.toNat*6+5) (.bool false)))] 27 6]else bif ds.length.beq (m*1)&&(ds.all aw&&ds.length.beq m)&&(List.map aa ds).length.ble
 9223372036854775807 then bif hasS (List.map aa ds) ((aa (cs.getD (i.toNat*6+1) (.bool false))))then R .ret [some (.lst x n cs),some (.int i64
 now),some (.lst y m ds),some (.bool true),some (.lst x n cs),some (.int i64 (↑n:Int)),some (.int i64 i)] [.row [.str (aa (cs.getD
 (i.toNat*6+0) (.bool false))),.str (aa (cs.getD (i.toNat*6+1) (.bool false))),.lst (xOfV (cs.getD (i.toNat*6+2) (.bool false))) (nOfV (cs.getD
 (i.toNat*6+2) (.bool false))) (jz (cs.getD (i.toNat*6+2) (.bool false))),.int i64 (al (cs.getD (i.toNat*6+3) (.bool false))),.int
 i64 (al (cs.getD (i.toNat*6+4) (.bool false))),.bool (dr (cs.getD (i.toNat*6+5) (.bool false)))] 27 6]else R .normal [some (.lst x n
 cs),some (.int i64 now),some (.lst y m ds),some (.bool false),some (.lst x n cs),some (.int i64 (↑n:Int)),some (.int i64
 (i64.wrap (i+1)))] [.row [.str (aa (cs.getD (i.toNat*6+0) (.bool false))),.str (aa (cs.getD (i.toNat*6+1) (.bool false))),.lst (xOfV
 (cs.getD (i.toNat*6+2) (.bool false))) (nOfV (cs.getD (i.toNat*6+2) (.bool false))) (jz (cs.getD (i.toNat*6+2) (.bool false))),.int i64
 (al (cs.getD (i.toNat*6+3) (.bool false))),.int i64 (al (cs.getD (i.toNat*6+4) (.bool false))),.bool (dr (cs.getD (i.toNat*6+5)
 (.bool false)))] 27 6]else False else False else False else False else False else False else False else False else False else False else False else False else False
 else R (.exit 0) [some (.lst x n cs),some (.int i64 now),some (.lst y m ds),some (.bool false),some (.lst x n cs),some (.int i64 (↑n:
 Int)),some (.int i64 i)] []):=by kernel_rfl
def cl:Option CR→CR→Bool
 |none,_=>true
 |some a,c=>bw [a,c]
def aX(now:Int)(an:List (List UInt8)):Option CR→List CR→Bool
 |_,[]=>false
 |p,c::r=>aS c.f c.u now&&(cl p c&&(hasS an c.g||aX now an (some c) r))
def fW(l:List CR)(i:Nat):Option CR:=if i=0 then none else l[i-1]?
structure AN where
 x:Value
 n:Nat
 cs:List V
 now:Int
 y:Value
 m:Nat
 ds:List V
 i:Nat
def anV(z:AN):List V:=[.lst z.x z.n z.cs,.int .i64 z.now,.lst z.y z.m z.ds,.bool false,.lst z.x z.n z.cs,.int .i64 z.n,.int .i64 z.i]
def anJ(_:AN):St:=[]
def kK(z:AN):Bool:=okR z.n z.cs&&(okS z.m z.ds&&Nat.ble z.i z.n)
def anMu(z:AN):Nat:=z.n-z.i
def anDec:List (Option V)→St→Option AN
 |[some (.lst x n cs),some (.int .i64 now),some (.lst y m ds),some (.bool false),some (.lst _ _ _),some (.int .i64 _),some (.int .i64 0)],_=>some ⟨x,n,cs,now,y,m,ds,0⟩
 |_,_=>none
def kJ(now:Int)(cs ds:List V)(i:Nat):Bool:=aX now (ds.map aa) (fW (crD [] cs) i) ((crD [] cs).drop i)
def o6(x:Value)(n:Nat)(cs:List V)(now:Int)(y:Value)(m:Nat)(ds:List V)(b:Bool)(K:Exit→List V→St→Prop):Prop:=
 bif b then ∀j:Int,K .ret [.lst x n cs,.int .i64 now,.lst y m ds,.bool true,.lst x n cs,.int .i64 n,.int .i64 j] []else
  (∀j:Int,K .ret [.lst x n cs,.int .i64 now,.lst y m ds,.bool false,.lst x n cs,.int .i64 n,.int .i64 j] [])∧∀j:Int,K (.exit 0) [.lst x n cs,.int .i64 now,.lst y m ds,.bool false,.lst x n cs,.int .i64 n,.int .i64 j] []
def anOut:Asks AN:=fun z K=>o6 z.x z.n z.cs z.now z.y z.m z.ds (kJ z.now z.cs z.ds z.i) K
theorem an_roundOk(z:AN)(hx:kK z=true):ao Tryd.prog AN0 9 10 (ah 9) 8 26 [0,1,2,6,9,10,11] (anV z) (anJ z) (aR 0 kK anV anJ anMu anOut z):=by
 obtain⟨x,n,cs,now,y,m,ds,i⟩:=z;unfold kK at hx;simp only[Bool.and_eq_true]at hx;have hx1:okR n cs=true:=hx.1;have hx2:okS m ds=true:=hx.2.1;have p1:i≤n:=Nat.le_of_ble_eq_true hx.2.2;obtain⟨p2,p3,p4,p5⟩:=okR_spec hx1;obtain⟨an,rfl,rfl,p6,p7⟩:=fa hx2;show ao Tryd.prog AN0 9 10 (ah 9) 8 26 [0,1,2,6,9,10,11] [.lst x n cs,.int .i64 now,.lst y an.length (strs an),.bool false,.lst x n cs,.int .i64 n,.int .i64 i] [] _;rw[an_round];have out:∀K,anOut ⟨x,n,cs,now,y,an.length,strs an,i⟩ K→o6 x n cs now y an.length (strs an) (aX now an (fW (crD [] cs) i) ((crD [] cs).drop i)) K:=fun K hK=>by
  have hK:o6 x n cs now y an.length (strs an) (kJ now cs (strs an) i) K:=hK;unfold kJ at hK;rw[aA]at hK;exact hK
 cases hd:(crD [] cs).drop i with
 |nil=>
  have hi:=dc hd (by omega);rw[decide_eq_false (show ¬((i:Int)<(n:Int)) by omega),cond_false];refine⟨_,[],fun K hK=>?_,bD [.lst x n cs,.int .i64 now,.lst y an.length (strs an),.bool false,.lst x n cs,.int .i64 n,.int .i64 i] rfl _ rfl _⟩;have hK:=out K hK;rw[hd]at hK;exact hK.2 i
 |cons c r=>
  obtain⟨e1,e2,e3⟩:=bF hd;have C:=cr_at p2 hd;obtain⟨xn,hn⟩:=C.l;have d1:decide ((i:Int)<(n:Int))=true:=decide_eq_true (by omega);have d2:decide ((0:Int)≤(i:Int))=true:=decide_eq_true (by omega);have l6:(i*6+6).ble cs.length=true:=Nat.ble_eq_true_of_le (by omega);have w2:i64.wrap ((i:Int)+1)=((i+1:Nat):Int):=by rw[IntWalk.i64_in _ ⟨by omega,by omega⟩];omega
  have w1:(if i64.wrap ((i:Int)-1)>0 then i64.wrap ((i:Int)-1)else 0)=((i-1:Nat):Int):=by
   rw[IntWalk.i64_in _ ⟨by omega,by omega⟩];split<;>omega
  have d3:decide ((0:Int)≤((i-1:Nat):Int))=true:=decide_eq_true (by omega);have d4:decide ((0:Int)≤((i+1:Nat):Int))=true:=decide_eq_true (by omega);have d5:(i-1).ble (i+1)=true:=Nat.ble_eq_true_of_le (by omega);have d6:(i+1).ble (i+1)=true:=Nat.ble_eq_true_of_le (by omega);have d7:(i+1).ble n=true:=Nat.ble_eq_true_of_le (by omega);obtain⟨g1,g2⟩:=mj [] (i-1) cs p2;obtain⟨g3,g4⟩:=crD_take [] (i+1-(i-1)) _ g2;rw[g1]at g3;have hlen:(List.take ((i+1-(i-1))*6) (List.drop ((i-1)*6) cs)).length=(i+1-(i-1))*6:=by rw[List.length_take,List.length_drop];omega
  have hcl:(List.take (i+1-(i-1)) (List.drop (i-1) (crD [] cs))).length=i+1-(i-1):=by rw[List.length_take,List.length_drop];omega
  have g5:isCr [] (List.take ((i+1-(i-1))*6) (List.drop ((i-1)*6) cs))=true:=nx (fun v hv=>by unfold nmZ at hv;rw[Bool.and_eq_true]at hv;exact hv.2) _ g4;have q1:(i+1-(i-1)).ble 9223372036854775807=true:=Nat.ble_eq_true_of_le (by omega);have q2:(strs an).length.beq (an.length*1)=true:=by rw[aT,Nat.mul_one];exact Nat.beq_refl _
  have q3:(strs an).length.beq an.length=true:=by rw[aT];exact Nat.beq_refl _
  have q4:an.length.ble 9223372036854775807=true:=Nat.ble_eq_true_of_le p6;have q5:(strs c.l).length.beq (c.l.length*1)=true:=by rw[aT,Nat.mul_one];exact Nat.beq_refl _
  have q6:(strs c.l).length.beq c.l.length=true:=by rw[aT];exact Nat.beq_refl _
  simp only[d1,d2,Int.toNat_natCast,l6,C.k,C.g,hn,C.f,C.u,C.ca,aw,aa,jS,xOfV,nOfV,jz,br,al,dP,dr,decide_true,w1,w2,d3,d4,d5,d6,d7,g3,g5,hlen,hcl,Nat.beq_refl,q1,q2,q3,q4,q5,q6,cS,aA,Bool.and_self,cond_true];have next:aX now an (fW (crD [] cs) i) (c::r)=(aS c.f c.u now&&(cl (fW (crD [] cs) i) c&&(hasS an c.g||aX now an (some c) r))):=rfl
  have hlk:bw (List.take (i+1-(i-1)) (List.drop (i-1) (crD [] cs)))=cl (fW (crD [] cs) i) c:=by
   unfold fW;by_cases h0:i=0
   ·subst h0;rw[if_pos rfl];have:(crD [] cs)=c::r:=by simpa using hd
    rw[this];rfl
   ·rw[if_neg h0];have hlt:i-1<(crD [] cs).length:=by omega
    rw[List.getElem?_eq_getElem hlt,List.drop_eq_getElem_cons hlt,show i-1+1=i by omega,hd,show i+1-(i-1)=2 by omega];rfl
  have hpr:fW (crD [] cs) (i+1)=some c:=by unfold fW;rw[if_neg (by omega)];exact e1
  have bad:aX now an (fW (crD [] cs) i) (c::r)=false→∀st,aR 0 kK anV anJ anMu anOut ⟨x,n,cs,now,y,an.length,strs an,i⟩ .ret [some (.lst x n cs),some (.int .i64 now),some (.lst y an.length (strs an)),some (.bool false),some (.lst x n cs),some (.int .i64 n),some (.int .i64 i)] st:=fun h st=>by
   refine⟨_,[],fun K hK=>?_,bD [.lst x n cs,.int .i64 now,.lst y an.length (strs an),.bool false,.lst x n cs,.int .i64 n,.int .i64 i] rfl _ rfl _⟩;have hK:=out K hK;rw[hd,h]at hK;exact hK.1 i
  rw[hlk];refine ab (fun h1=>bad (by rw[Bool.not_eq_true']at h1;rw[next,h1];rfl) _) (fun h1=>?_);rw[Bool.not_eq_false']at h1;refine ab (fun h2=>bad (by rw[Bool.not_eq_true']at h2;rw[next,h1,h2];rfl) _) (fun h2=>?_);rw[Bool.not_eq_false']at h2;rw[h1,h2,Bool.true_and,Bool.true_and]at next
  refine ab (fun h3=>?_) (fun h3=>?_)
  ·rw[h3,Bool.true_or]at next
   refine⟨_,[],fun K hK=>?_,bD [.lst x n cs,.int .i64 now,.lst y an.length (strs an),.bool true,.lst x n cs,.int .i64 n,.int .i64 i] rfl _ rfl _⟩;have hK:=out K hK;rw[hd,next]at hK;exact hK i
  ·rw[h3,Bool.false_or]at next
   refine⟨⟨x,n,cs,now,y,an.length,strs an,i+1⟩,?_,bD _ rfl _ rfl _,by simp only[anMu];omega,fun K hK=>?_⟩
   ·unfold kK;simp only[Bool.and_eq_true];exact⟨hx1,hx2,Nat.ble_eq_true_of_le (show i+1≤n by omega)⟩
   ·have hK:=out K hK;rw[hd,next]at hK;show o6 x n cs now y an.length (strs an) (kJ now cs (strs an) (i+1)) K;unfold kJ;rw[aA,hpr,e2];exact hK
noncomputable def lkAN:Nat→Trans→Trans:=bA 26 (cx 0 (szOf Tryd.prog 8) [0,1,2,6,9,10,11] anDec kK anV anJ anOut) (ah 9)
theorem lkAN_ok:aC Tryd.prog 0 lkAN 8:=by
 unfold lkAN;exact cm (bj 9 0 8) (by kernel_rfl) fun f st Q h=>bN (P:=Tryd.prog) (T:=AN0) (k:=0) (lim:=9) (n:=10) (g:=8) (p0:=26) (lk:=ah 9) aH AN0_ok (bn 9 _ _) anMu an_roundOk h
noncomputable def AN1:Tab:=⟨noT,noL,dS (bf 9) 8 0 lkAN⟩
theorem AN1_ok:TabOk3 Tryd.prog AN1:=⟨aL,aM,bT (au 9) lkAN_ok⟩
theorem an_tree(x:Value)(n:Nat)(cs:List V)(now:Int)(y:Value)(m:Nat)(ds:List V)(R:V→Prop):runW Tryd.prog AN1 9 10 8 [.lst x n cs,.int .i64 now,.lst y m ds] R=
  (
 Fits 0 [.lst x n cs,.int i64 now,.lst y m ds,.bool false,.lst x n cs,.int i64 (↑n:Int),.int i64 0] [] [some (.lst x n cs),some
 (.int i64 now),some (.lst y m ds),some (.bool false),some (.lst x n cs),some (.int i64 (↑n:Int)),some (.int i64 0)] []∧bif kK {x:=x,n:=n,cs:=cs,now:=now,y:=y,m:=m,ds:=ds,i:=0}
 then bif kJ now cs ds 0 then ∀(j:Int),R (.bool true)else(∀(j:Int),R (.bool false))∧∀(j:Int),R (.bool false)else False):=by kernel_rfl
theorem an_sat(x:Value)(n:Nat)(cs:List V)(now:Int)(y:Value)(an:List (List UInt8))(h:okR n cs=true)(h2:an.length≤9223372036854775807):FnSat Tryd.prog 8 [.lst x n cs,.int .i64 now,lstS y an] [] (Is (.bool (aX now an none (crD [] cs)),[])):=by
 refine aJ (lim:=9) (n:=10) aH AN1_ok rfl rfl ?_;unfold lstS;rw[an_tree];have e:kJ now cs (strs an) 0=aX now an none (crD [] cs):=by unfold kJ;rw[aA];rfl
 rw[e];refine⟨bD _ rfl _ rfl _,ae ?_ ?_⟩
 ·unfold kK;simp only[Bool.and_eq_true];exact⟨h,iL h2,Nat.ble_eq_true_of_le (Nat.zero_le _)⟩
 ·cases aX now an none (crD [] cs)with
  |true=>intro j;rfl
  |false=>exact⟨fun j=>rfl,fun j=>rfl⟩
def anG:List V→St→Option (List (Bool×(V×St)))
 |[p,.int .i64 now,q],st=>match mL st p,cC st q with
  |some (b,l),some (b',an)=>some [(b&&(b'&&(Nat.ble l.length 9223372036854775807&&Nat.ble an.length 9223372036854775807)),(.bool (aX now an none l),st))]
  |_,_=>none
 |_,_=>none
theorem anG_ok(args:List V)(s:St)(l:List (Bool×(V×St)))(o:V×St)(h:anG args s=some l)(ho:aP l=some o):FnSat Tryd.prog 8 args s (Is o):=by
 unfold anG at h;split at h
 ·rename_i p now q;split at h
  ·rename_i b ls b' an hv hv';cases h;obtain⟨hb,rfl⟩:=cM ho;simp only[Bool.and_eq_true]at hb;obtain⟨rfl,rfl,h1,h2⟩:=hb;refine eN rfl fun B W0 w m rargs hr ha=>?_;obtain⟨a,r,q1,q2,rfl⟩:=ai ha;obtain⟨a2,r2,q3,q4,rfl⟩:=ai q2;obtain⟨a3,r3,q5,q6,rfl⟩:=ai q4;obtain⟨L,e1,e2,e3⟩:=viewR_ok hr hv q1;have hy:=ed hr hv' q5;have q7:=bE (Ψ:=Frz.of w) (m':=[]) _ _ rfl q3;have q8:=bH (Ψ:=Frz.of w) (m':=[]) _ _ rfl q6;have hl:L.length≤9223372036854775807:=by rw[←List.length_map (f:=(·.c)),e1];exact Nat.le_of_ble_eq_true h1
   have:=@an_sat (Frz.of w) a L.length (crs L) now a3 an (okR_mk hl e3) (Nat.le_of_ble_eq_true h2);rw[kX,e1]at this;exact⟨[lstR a L,.int .i64 now,lstS a3 an],@ay _ (Frz.of w) [] _ _ _ _ e2 (@ay _ (Frz.of w) [] _ _ _ _ q7 (@ay _ (Frz.of w) [] _ _ _ _ hy q8)),this⟩
  ·cases h
 ·cases h
end Go.Proofs.YtebkeppoicllmaaDoor
