/- Parts of this work: what the functions come to. -/
import Derived.Test.YtebkeppoicllmaaGreatDoorP1
noncomputable section
set_option linter.unusedVariables false
set_option linter.unusedSectionVars false
set_option maxRecDepth 100000
namespace Go.Proofs.YtebkeppoicllmaaGreatDoor
open Go.IntKind (u8 u16 u32 u64 i8 i16 i32 i64)
open Go Go.Vm Go.RowKit
variable [Φ:Frz]
def G0:Tab:=⟨noT,noL,bk 9⟩
theorem G0_ok:TabOk3 Qq G0:=⟨aW,aX,aE 9⟩
def mj(x y:Value)(n m:Nat)(cs ds:List V)(i:Int):=[some (V.lst x n cs),some (V.lst y m ds),some (V.bool false),some (V.int i64 (↑n:Int)),some (V.int i64 i)]
theorem eq_round(x y:Value)(n m:Nat)(cs ds:List V)(i:Int)(R:Qz):aJ Qq G0 9 10 (ar 9) 64 58 [0,1,4,12,13] [.lst x n cs,.lst y m ds,.bool false,.int .i64 n,.int .i64 i] [] R=
 (
 bif decide (i<(↑n:Int))then bif decide (0≤i)&&decide (i<(↑n:Int))then bif (i.toNat*4+4).ble cs.length then bif aj u8 (cs.getD
 (i.toNat*4+0) (.bool false))then bif aj u8 (cs.getD (i.toNat*4+1) (.bool false))then bif aj u8 (cs.getD (i.toNat*4+2)
 (.bool false))then bif aw (cs.getD (i.toNat*4+3) (.bool false))then bif decide (0≤i)&&decide (i<(↑m:Int))then bif (i.toNat*4+4).ble
 ds.length then bif aj u8 (ds.getD (i.toNat*4+0) (.bool false))then bif aj u8 (ds.getD (i.toNat*4+1) (.bool false))then bif
 aj u8 (ds.getD (i.toNat*4+2) (.bool false))then bif aw (ds.getD (i.toNat*4+3) (.bool false))then bif au (cs.getD (i.toNat*4+
 0) (.bool false))==au (ds.getD (i.toNat*4+0) (.bool false))then bif au (cs.getD (i.toNat*4+1) (.bool false))==au (ds.getD (i.toNat*
 4+1) (.bool false))then bif au (cs.getD (i.toNat*4+2) (.bool false))==au (ds.getD (i.toNat*4+2) (.bool false))then bif al (cs.getD
 (i.toNat*4+3) (.bool false))==al (ds.getD (i.toNat*4+3) (.bool false))then R .normal [some (.lst x n cs),some (.lst y m ds),some (.bool
 false),some (.int i64 (↑n:Int)),some (.int i64 (i64.wrap (i+1)))] []else R .ret (mj x y n m cs ds i) []else R .ret
 (mj x y n m cs ds i) []else R .ret (mj x y n m cs ds i) []else R .ret (mj x y n m cs ds i) []else False else False else False else False else
 False else False else False else False else False else False else False else False else R (.exit 0) (mj x y n m cs ds i) []):=by kernel_rfl
theorem i4{l r:List TL}{i:Nat}{c:TL}(h:l.drop i=c::r):(i*4+4).ble (tls l).length=true∧(tls l).getD (i*4+0) (.bool false)=.int .u8 c.u∧(tls l).getD (i*4+1) (.bool false)=.int .u8 c.s∧(tls l).getD (i*4+2) (.bool false)=.int .u8 c.m∧(tls l).getD (i*4+3) (.bool false)=.str c.d:=by
 have g:∀j,j<4→(tls l).getD (i*4+j) (.bool false)=c.cells.getD j (.bool false):=fun j hj=>by
  have:=(tls_at h hj).1;rw[List.getD_eq_getElem?_getD,Nat.mul_comm,this,←List.getD_eq_getElem?_getD]
 refine⟨ap ?_,g 0 (by omega),g 1 (by omega),g 2 (by omega),g 3 (by omega)⟩;have:=(tls_at h (j:=3) (by omega)).2;omega
structure EQ where
 x:Value
 y:Value
 n:Nat
 cs:List V
 ds:List V
 i:Nat
def eqV'(x:EQ):List V:=[.lst x.x x.n x.cs,.lst x.y x.n x.ds,.bool false,.int .i64 x.n,.int .i64 x.i]
def eqJ(_:EQ):St:=[]
def ke(x:EQ):Bool:=okT x.n x.cs&&(okT x.n x.ds&&Nat.ble x.i x.n)
def eqMu(x:EQ):Nat:=x.n-x.i
def eqDec:List (Option V)→St→Option EQ
 |[some (.lst x n cs),some (.lst y m ds),some (.bool false),some (.int .i64 _),some (.int .i64 0)],_=>some ⟨x,y,n,cs,ds,0⟩
 |_,_=>none
def eqB(a b:TL):Bool:=(a.u==b.u)&&((a.s==b.s)&&((a.m==b.m)&&(a.d==b.d)))
def eqsB:List TL→List TL→Bool
 |[],[]=>true
 |a::l,b::k=>eqB a b&&eqsB l k
 |_,_=>false
theorem ic:∀l:List TL,eqsB l l=true
 |[]=>rfl
 |a::l=>by simp only[eqsB,eqB,ic l,beq_self_eq_true,Bool.and_self]
theorem lS:∀{l k:List TL},l.length≠k.length→eqsB l k=false
 |[],[],h=>absurd rfl h
 |[],_::_,_=>rfl
 |_::_,[],_=>rfl
 |a::l,b::k,h=>by
  simp only[eqsB];rw[lS (l:=l) (k:=k) (fun e=>h (by simp[e])),Bool.and_false]
def oB(x y:Value)(n:Nat)(cs ds:List V)(b:Bool)(K:Exit→List V→St→Prop):Prop:=
 bif b then K (.exit 0) [.lst x n cs,.lst y n ds,.bool false,.int .i64 n,.int .i64 n] []else ∀i:Nat,K .ret [.lst x n cs,.lst y n ds,.bool false,.int .i64 n,.int .i64 i] []
def eA(cs ds:List V)(i:Nat):Bool:=eqsB ((tlD cs).drop i) ((tlD ds).drop i)
def eqOut:Asks EQ:=fun x K=>oB x.x x.y x.n x.cs x.ds (eA x.cs x.ds x.i) K
theorem eq_roundOk(x:EQ)(hx:ke x=true):aJ Qq G0 9 10 (ar 9) 64 58 [0,1,4,12,13] (eqV' x) (eqJ x) (aQ 0 ke eqV' eqJ eqMu eqOut x):=by
 obtain⟨x,y,n,cs,ds,i⟩:=x;unfold ke at hx;simp only[af]at hx;have hx1:okT n cs=true:=hx.1;have hx2:okT n ds=true:=hx.2.1;have p1:i≤n:=aD hx.2.2;obtain⟨l,rfl,rfl,p2,p3⟩:=bN hx1;obtain⟨k,rfl,hlk,p4,p5⟩:=bN hx2;show aJ Qq G0 9 10 (ar 9) 64 58 [0,1,4,12,13] [.lst x l.length (tls l),.lst y l.length (tls k),.bool false,.int .i64 l.length,.int .i64 i] [] _;rw[eq_round];unfold mj;have ha:∀j,eA (tls l) (tls k) j=eqsB (l.drop j) (k.drop j):=fun j=>by
  unfold eA;rw[bf,bf]
 have out:∀K,eqOut ⟨x,y,l.length,tls l,tls k,i⟩ K→oB x y l.length (tls l) (tls k) (eqsB (l.drop i) (k.drop i)) K:=fun K hK=>by
  have hK:oB x y l.length (tls l) (tls k) (eA (tls l) (tls k) i) K:=hK;rw[ha]at hK;exact hK
 cases hd:l.drop i with
 |nil=>
  have hi:i=l.length:=by
   have:=congrArg List.length hd;rw[List.length_drop]at this;simp at this;omega
  have hk:k.drop i=[]:=List.drop_eq_nil_of_le (by omega);rw[decide_eq_false (show ¬((i:Int)<(l.length:Int)) by omega),ai];refine⟨[.lst x l.length (tls l),.lst y l.length (tls k),.bool false,.int .i64 l.length,.int .i64 i],[],fun K hK=>?_,bZ _ rfl _ rfl _⟩;have hK:=out K hK;rw[hd,hk]at hK;rw[hi];exact hK
 |cons c r=>
  have dropT:∀{l r:List TL} {c:TL},l.drop i=c::r→l.drop (i+1)=r∧i<l.length:=fun{l r c} h=>by
   refine⟨?_,?_⟩
   ·rw[←List.drop_drop,h];rfl
   ·have:=congrArg List.length h;rw[List.length_drop]at this;simp at this;omega
  obtain⟨e2,e3⟩:=dropT hd;obtain⟨a0,a1,a2,a3,a4⟩:=i4 hd;obtain⟨c',r',hd'⟩:∃c' r',k.drop i=c'::r':=by
   cases h:k.drop i with
   |nil=>
    have:=congrArg List.length h;rw[List.length_drop]at this;simp at this;omega
   |cons a b=>exact⟨a,b,rfl⟩
  obtain⟨f2,f3⟩:=dropT hd';obtain⟨b0,b1,b2,b3,b4⟩:=i4 hd';have q1:decide ((i:Int)<(l.length:Int))=true:=az (by omega);have q2:decide ((0:Int)≤(i:Int))=true:=az (by omega);simp only[q1,q2,bK,a0,a1,a2,a3,a4,b0,b1,b2,b3,b4,aw,aj,al,au,decide_true,ac,Bool.and_true,show i64.wrap ((i:Int)+1)=((i+1:Nat):Int) by rw[IntWalk.i64_in _ ⟨by omega,by omega⟩];omega];have hcons:eqsB (l.drop i) (k.drop i)=(eqB c c'&&eqsB r r'):=by rw[hd,hd'];rfl
  have away:eqB c c'=false→aQ 0 ke eqV' eqJ eqMu eqOut ⟨x,y,l.length,tls l,tls k,i⟩ Exit.ret [some (.lst x l.length (tls l)),some (.lst y l.length (tls k)),some (.bool false),some (.int .i64 l.length),some (.int .i64 i)] []:=fun hc=>by
   refine⟨[.lst x l.length (tls l),.lst y l.length (tls k),.bool false,.int .i64 l.length,.int .i64 i],[],fun K hK=>?_,bZ _ rfl _ rfl _⟩;have hK:=out K hK;rw[hcons,hc]at hK;exact hK i
  have hB:eqB c c'=((c.u==c'.u)&&((c.s==c'.s)&&((c.m==c'.m)&&(c.d==c'.d)))):=rfl;refine ao (fun g1=>?_) (fun g1=>away (by rw[hB,g1];rfl));refine ao (fun g2=>?_) (fun g2=>away (by rw[hB,g1,g2];rfl));refine ao (fun g3=>?_) (fun g3=>away (by rw[hB,g1,g2,g3];rfl));refine ao (fun g4=>?_) (fun g4=>away (by rw[hB,g1,g2,g3,g4];rfl));refine⟨⟨x,y,l.length,tls l,tls k,i+1⟩,?_,bZ _ rfl _ rfl _,by simp only[eqMu];omega,fun K hK=>?_⟩
  ·unfold ke;simp only[af];exact⟨hx1,hx2,ap (show i+1≤l.length by omega)⟩
  ·have hK:=out K hK;show oB x y l.length (tls l) (tls k) (eA (tls l) (tls k) (i+1)) K;rw[ha,e2,f2];rw[hcons,hB,g1,g2,g3,g4,ay,ay,ay,ay]at hK;exact hK
def lk47:Nat→Trans→Trans:=bq 58 (dc 0 (szOf Qq 64) [0,1,4,12,13] eqDec ke eqV' eqJ eqOut) (ar 9)
theorem lk47_ok:ba Qq 0 lk47 64:=by
 unfold lk47;exact cx (bJ 9 0 64) (by kernel_rfl) fun f st Q h=>bO (P:=Qq) (T:=G0) (k:=0) (lim:=9) (n:=10) (g:=64) (p0:=58) (lk:=ar 9) aI G0_ok (bt 9 _ _) eqMu eq_roundOk h
def G1:Tab:=⟨noT,noL,er (bk 9) 64 0 lk47⟩
theorem G1_ok:TabOk3 Qq G1:=⟨aW,aX,cD (aE 9) lk47_ok⟩
theorem eqf_tree(x y:Value)(n m:Nat)(cs ds:List V)(R:V→Prop):runW Qq G1 9 10 64 [.lst x n cs,.lst y m ds] R=
  (
 bif (↑n:Int)!=(↑m:Int)then R (.bool false)else Fits 0 [.lst x n cs,.lst y n ds,.bool false,.int i64 (↑n:Int),.int i64 0] [] [some
 (.lst x n cs),some (.lst y m ds),some (.bool false),some (.int i64 (↑n:Int)),some (.int i64 0)] []∧bif ke {x:=x,y:=y,n:=n,cs:=cs,ds:=ds,i:=0}
 then bif eA cs ds 0 then R (.bool true)else ∀(i:Nat),R (.bool false)else False):=by kernel_rfl
theorem eq_sat(x:Value)(l:List TL)(y:Value)(k:List TL)(h1:l.length≤9223372036854775807)(h2:k.length≤9223372036854775807):
  FnSat Qq 64 [lstT x l,lstT y k] [] (Is (.bool (eqsB l k),[])):=by
 refine aP (lim:=9) (n:=10) aI G1_ok rfl rfl ?_;unfold lstT;rw[eqf_tree];have hs:eA (tls l) (tls k) 0=eqsB l k:=by unfold eA;rw[bf,bf];rfl
 rw[hs];refine ao (fun h=>?_) (fun h=>?_)
 ·have h:(l.length:Int)≠k.length:=by simpa using h
  rw[lS (fun e=>h (by rw[e]))]
 ·have h:(l.length:Int)=k.length:=by simpa using h
  have h:l.length=k.length:=by omega
  rw[h];refine⟨bZ _ rfl _ rfl _,ah ?_ ?_⟩
  ·unfold ke;simp only[af];exact⟨by rw[←h];exact dT h1,dT h2,ap (Nat.zero_le _)⟩
  ·refine ao (fun h=>by rw[h]) (fun h=>by intro _;rw[h])
def eqTP:List V→Option (Qx)
 |[.lst _ n cs,.lst _ m ds]=>some [(okT n cs&&okT m ds,(.bool (eqsB (tlD cs) (tlD ds)),[]))]
 |_=>none
theorem eqTP_ok(args:List V)(l:Qx)(o:V×St)(h:eqTP args=some l)(ho:aO l=some o):FnSat Qq 64 args [] (Is o):=by
 unfold eqTP at h;split at h
 ·rename_i x n cs y m ds;cases h;obtain⟨hb,rfl⟩:=a7 ho;rw[af]at hb;obtain⟨l,rfl,rfl,p2,p3⟩:=bN hb.1;obtain⟨k,rfl,rfl,p4,p5⟩:=bN hb.2;rw[bf,bf];exact eq_sat x l y k p2 p4
 ·cases h
def NQ:Tab:=⟨addT noT 64 eqTP,noL,bk 9⟩
theorem NQ_ok:TabOk3 Qq NQ:=⟨bg aW eqTP_ok,aX,aE 9⟩
theorem ns_tree(h:List UInt8)(x:Value)(n:Nat)(cs:List V)(a b:Bool)(t:Int)(h':List UInt8)(y:Value)(m:Nat)(ds:List V)(a' b':Bool)(t':Int)(R:V→Prop):runW Qq NQ 9 10 30 [.agg [.str h,.lst x n cs,.bool a,.bool b,.int .u8 t],.agg [.str h',.lst y m ds,.bool a',.bool b',.int .u8 t']] R=
  (
 bif h==h' then bif a==a' then bif b==b' then bif t==t' then bif okT n cs&&okT m ds then R (.bool (eqsB (tlD cs) (tlD ds)))else False else R (.bool false)
 else R (.bool false)else R (.bool false)else R (.bool false)):=by kernel_rfl
def nsB(h:List UInt8)(l:List TL)(a b:Bool)(t:Int)(h':List UInt8)(k:List TL)(a' b':Bool)(t':Int):Bool:=h==h'&&(a==a'&&(b==b'&&(t==t'&&eqsB l k)))
theorem ns_sat(h:List UInt8)(x:Value)(l:List TL)(a b:Bool)(t:Int)(h':List UInt8)(y:Value)(k:List TL)(a' b':Bool)(t':Int)(h1:l.length≤9223372036854775807)(h2:k.length≤9223372036854775807):
  FnSat Qq 30 [.agg [.str h,lstT x l,.bool a,.bool b,.int .u8 t],.agg [.str h',lstT y k,.bool a',.bool b',.int .u8 t']] [] (Is (.bool (nsB h l a b t h' k a' b' t'),[])):=by
 refine aP (lim:=9) (n:=10) aI NQ_ok rfl rfl ?_;unfold lstT;rw[ns_tree,dT h1,dT h2,bf,bf];unfold nsB;cases h==h'<;>cases a==a'<;>cases b==b'<;>cases t==t'<;>rfl
def nsOK(p q:V)(st:St):Bool:=match dy st p,dy st q with
 |some (a,l),some (b,k)=>a&&(b&&(Nat.ble l.length 9223372036854775807&&Nat.ble k.length 9223372036854775807))
 |_,_=>false
def nsV(h:List UInt8)(p:V)(a b:Bool)(t:Int)(h':List UInt8)(q:V)(a' b':Bool)(t':Int)(st:St):Bool:=match dy st p,dy st q with
 |some (_,l),some (_,k)=>nsB h l a b t h' k a' b' t'
 |_,_=>false
def nsGV(OK:V→V→St→Bool)(SV:List UInt8→V→Bool→Bool→Int→List UInt8→V→Bool→Bool→Int→St→Bool):List V→St→Option (Qx)
 |[.agg [.str h,p,.bool a,.bool b,.int .u8 t],.agg [.str h',q,.bool a',.bool b',.int .u8 t']],st=>some [(OK p q st,(.bool (SV h p a b t h' q a' b' t' st),st))]
 |_,_=>none
theorem nsGV_ok(args:List V)(s:St)(L:Qx)(o:V×St)(h:nsGV nsOK nsV args s=some L)(ho:aO L=some o):FnSat Qq 30 args s (Is o):=by
 unfold nsGV at h;split at h
 ·rename_i hh p a b t hh' q a' b' t';cases h;obtain⟨hb,rfl⟩:=a7 ho;unfold nsOK at hb;split at hb
  ·rename_i c l d k hv hw;have hL:nsV hh p a b t hh' q a' b' t' s=nsB hh l a b t hh' k a' b' t':=by unfold nsV;rw[hv,hw]
   rw[hL];simp only[af]at hb;obtain⟨rfl,rfl,h1,h2⟩:=hb;refine jp rfl fun B W0 w m rargs hr ha=>?_;obtain⟨x1,r1,q1,q2,rfl⟩:=aq ha;obtain⟨x2,r2,q3,q4,rfl⟩:=aq q2;obtain⟨y1,g1⟩:=kD (Ψ:=Frz.of w) (m':=[]) (f:=fun y=>lstT y l) (fun y hy=>fG hr hv hy) [.str hh] rfl (b:=[.bool a,.bool b,.int .u8 t]) rfl q1;obtain⟨y2,g2⟩:=kD (Ψ:=Frz.of w) (m':=[]) (f:=fun y=>lstT y k) (fun y hy=>fG hr hw hy) [.str hh'] rfl (b:=[.bool a',.bool b',.int .u8 t']) rfl q3;have g3:=bU (Ψ:=Frz.of w) (m':=[]) _ _ rfl q4;exact⟨_,@aL _ (Frz.of w) [] _ _ _ _ g1 (@aL _ (Frz.of w) [] _ _ _ _ g2 g3),@ns_sat (Frz.of w) hh y1 l a b t hh' y2 k a' b' t' (aD h1) (aD h2)⟩
  ·cases hb
 ·cases h
def RTL0:Tab:=⟨addT (addT noT 55 rusaT) 56 rpolT,noL,bk 9⟩
theorem fA:TabOk3 Qq RTL0:=⟨bg (bg aW rusa_ok) rpolT_ok,aX,aE 9⟩
theorem rtl_p(h:List UInt8)(mx:Bool)(co:Int)(se:Bool)(x1:Value)(n1:Nat)(c1:List V)(x2:Value)(n2:Nat)(c2:List V)(x3:Value)(n3:Nat)(c3:List V)(ha:Bool)(mo:Int)(x4:Value)(n4:Nat)(c4:List V)(ag:Int)(R:V→St→Prop):runM Qq RTL0 9 10 25 [.agg [.bool true,.bool false,.str h,.bool mx,.int .u8 co,.bool se,.lst x1 n1 c1,.lst x2 n2 c2,.lst x3 n3 c3,.bool ha,.int .u8 mo,.lst x4 n4 c4,.int .i64 ag]] (fun v st=>R v (vis v st))=
  (
 bif ha then bif ha then R (.tuple [.agg [.str h,.nilSlice,.bool false,.bool false,.int u8 0],.bool true]) [.dead,.dead]else R (.tuple [.agg
 [.str h,.nilSlice,.bool false,.bool false,.int u8 0],.bool true]) [.dead,.dead]else bif ha then R (.tuple [.agg [.str h,.nilSlice,.bool
 false,.bool false,.int u8 0],.bool true]) [.dead,.dead]else R (.tuple [.agg [.str h,.nilSlice,.bool false,.bool false,.int u8 0],
 .bool true]) [.dead,.dead]):=by kernel_rfl
theorem rtl_000(h:List UInt8)(mx:Bool)(co:Int)(se:Bool)(x1:Value)(n1:Nat)(c1:List V)(x2:Value)(n2:Nat)(c2:List V)(x3:Value)(n3:Nat)(c3:List V)(mo:Int)(x4:Value)(n4:Nat)(c4:List V)(ag:Int)(R:V→St→Prop):runM Qq RTL0 9 10 25 [.agg [.bool false,.bool false,.str h,.bool mx,.int .u8 co,.bool se,.lst x1 n1 c1,.lst x2 n2 c2,.lst x3 n3 c3,.bool false,.int .u8 mo,.lst x4 n4 c4,.int .i64 ag]] (fun v st=>R v (vis v st))=
  (
 bif co==1 then bif se then bif decide ((↑n3:Int)>0)then bif okT n3 c3&&(tlD c3).all inU&&(ab (usaL c3)).length.beq 0 then bif decide ((↑n3:Int)>0)then
 bif decide ((↑n3:Int)>0)then R (.tuple [.agg [.str h,.nilSlice,.bool false,.bool true,.int u8 1],.bool true]) [.dead,.dead,.dead]
 else R (.tuple [.agg [.str h,.nilSlice,.bool false,.bool true,.int u8 3],.bool true]) [.dead,.dead,.dead]else bif decide ((↑n3:Int)>
 0)then R (.tuple [.agg [.str h,.nilSlice,.bool false,.bool false,.int u8 1],.bool true]) [.dead,.dead,.dead]else R (.tuple [.agg
 [.str h,.nilSlice,.bool false,.bool false,.int u8 3],.bool true]) [.dead,.dead,.dead]else bif okT n3 c3&&(tlD c3).all inU then bif
 (↑(ab (usaL c3)).length:Int)==0 then bif (↑(ab (usaL c3)).length:Int)==0 then bif decide ((↑n3:Int)>0)then bif decide ((↑n3:Int)>0)then R (.tuple
 [.agg [.str h,.slice 3 0 (ab (usaL c3)).length false 0 0,.bool false,.bool true,.int u8 1],.bool true]) [.dead,.dead,.dead,.row
 (aa 3 (tls (ab (usaL c3)))) 72 4]else R (.tuple [.agg [.str h,.slice 3 0 (ab (usaL c3)).length false 0 0,.bool false,.bool true,.int u8 3],
 .bool true]) [.dead,.dead,.dead,.row (aa 3 (tls (ab (usaL c3)))) 72 4]else bif decide ((↑n3:Int)>0)then R (.tuple [.agg [.str h,.slice 3
 0 (ab (usaL c3)).length false 0 0,.bool false,.bool false,.int u8 1],.bool true]) [.dead,.dead,.dead,.row (aa 3 (tls (ab (usaL
 c3)))) 72 4]else R (.tuple [.agg [.str h,.slice 3 0 (ab (usaL c3)).length false 0 0,.bool false,.bool false,.int u8 3],.bool true]) [.dead,
 .dead,.dead,.row (aa 3 (tls (ab (usaL c3)))) 72 4]else bif decide ((↑n3:Int)>0)then bif decide ((↑n3:Int)>0)then R (.tuple [.agg [.str h,
 .slice 3 0 (ab (usaL c3)).length false 0 0,.bool false,.bool true,.int u8 1],.bool true]) [.dead,.dead,.dead,.row (aa 3 (tls (ab
 (usaL c3)))) 72 4]else R (.tuple [.agg [.str h,.slice 3 0 (ab (usaL c3)).length false 0 0,.bool false,.bool true,.int u8 3],.bool true])
 [.dead,.dead,.dead,.row (aa 3 (tls (ab (usaL c3)))) 72 4]else bif decide ((↑n3:Int)>0)then R (.tuple [.agg [.str h,.slice 3 0 (ab
 (usaL c3)).length false 0 0,.bool false,.bool false,.int u8 1],.bool true]) [.dead,.dead,.dead,.row (aa 3 (tls (ab (usaL c3)))) 72
 4]else R (.tuple [.agg [.str h,.slice 3 0 (ab (usaL c3)).length false 0 0,.bool false,.bool false,.int u8 3],.bool true]) [.dead,.dead,
 .dead,.row (aa 3 (tls (ab (usaL c3)))) 72 4]else bif (↑(ab (usaL c3)).length:Int)==0 then bif decide ((↑n3:Int)>0)then bif decide ((↑n3:Int)
 >0)then R (.tuple [.agg [.str h,.slice 3 0 (ab (usaL c3)).length false 0 0,.bool false,.bool true,.int u8 1],.bool true]) [.dead,.dead,
 .dead,.row (aa 3 (tls (ab (usaL c3)))) 72 4]else R (.tuple [.agg [.str h,.slice 3 0 (ab (usaL c3)).length false 0 0,.bool false,.bool true,
 .int u8 3],.bool true]) [.dead,.dead,.dead,.row (aa 3 (tls (ab (usaL c3)))) 72 4]else bif decide ((↑n3:Int)>0)then R (.tuple
 [.agg [.str h,.slice 3 0 (ab (usaL c3)).length false 0 0,.bool false,.bool false,.int u8 1],.bool true]) [.dead,.dead,.dead,.row
 (aa 3 (tls (ab (usaL c3)))) 72 4]else R (.tuple [.agg [.str h,.slice 3 0 (ab (usaL c3)).length false 0 0,.bool false,.bool false,.int u8 3],
 .bool true]) [.dead,.dead,.dead,.row (aa 3 (tls (ab (usaL c3)))) 72 4]else bif decide ((↑n3:Int)>0)then bif decide ((↑n3:Int)>0)then R
 (.tuple [.agg [.str h,.slice 3 0 (ab (usaL c3)).length false 0 0,.bool false,.bool true,.int u8 1],.bool true]) [.dead,.dead,.dead,
 .row (aa 3 (tls (ab (usaL c3)))) 72 4]else R (.tuple [.agg [.str h,.slice 3 0 (ab (usaL c3)).length false 0 0,.bool false,.bool true,.int
 u8 3],.bool true]) [.dead,.dead,.dead,.row (aa 3 (tls (ab (usaL c3)))) 72 4]else bif decide ((↑n3:Int)>0)then R (.tuple [.agg
 [.str h,.slice 3 0 (ab (usaL c3)).length false 0 0,.bool false,.bool false,.int u8 1],.bool true]) [.dead,.dead,.dead,.row (aa 3
 (tls (ab (usaL c3)))) 72 4]else R (.tuple [.agg [.str h,.slice 3 0 (ab (usaL c3)).length false 0 0,.bool false,.bool false,.int u8 3],.bool
 true]) [.dead,.dead,.dead,.row (aa 3 (tls (ab (usaL c3)))) 72 4]else False else bif decide ((↑n3:Int)>0)then bif decide ((↑n3:Int)>0)then
 R (.tuple [.agg [.str h,.nilSlice,.bool false,.bool true,.int u8 1],.bool true]) [.dead,.dead,.dead]else R (.tuple [.agg [.str h,
 .nilSlice,.bool false,.bool true,.int u8 3],.bool true]) [.dead,.dead,.dead]else bif decide ((↑n3:Int)>0)then R (.tuple [.agg [.str
 h,.nilSlice,.bool false,.bool false,.int u8 1],.bool true]) [.dead,.dead,.dead]else R (.tuple [.agg [.str h,.nilSlice,.bool false,
 .bool false,.int u8 3],.bool true]) [.dead,.dead,.dead]else R (.tuple [.agg [.str h,.nilSlice,.bool false,.bool false,.int u8
 3],.bool true]) [.dead,.dead,.dead]else R (.tuple [.agg [.str h,.nilSlice,.bool false,.bool false,.int u8 3],.bool true]) [.dead,
 .dead,.dead]):=by kernel_rfl
theorem rtl_001(h:List UInt8)(mx:Bool)(co:Int)(se:Bool)(x1:Value)(n1:Nat)(c1:List V)(x2:Value)(n2:Nat)(c2:List V)(x3:Value)(n3:Nat)(c3:List V)(mo:Int)(x4:Value)(n4:Nat)(c4:List V)(ag:Int)(R:V→St→Prop):runM Qq RTL0 9 10 25 [.agg [.bool false,.bool false,.str h,.bool mx,.int .u8 co,.bool se,.lst x1 n1 c1,.lst x2 n2 c2,.lst x3 n3 c3,.bool true,.int .u8 mo,.lst x4 n4 c4,.int .i64 ag]] (fun v st=>R v (vis v st))=
  (
 bif co==1 then bif se then bif decide ((↑n3:Int)>0)then bif okT n3 c3&&(tlD c3).all inU&&(ab (usaL c3)).length.beq 0 then bif decide ((↑n3:Int)>0)then
 bif mo==3 then bif decide ((↑n3:Int)>0)then R (.tuple [.agg [.str h,.nilSlice,.bool (mo==3),.bool true,.int u8 1],.bool true]) [.dead,
 .dead,.dead]else R (.tuple [.agg [.str h,.nilSlice,.bool (mo==3),.bool true,.int u8 2],.bool true]) [.dead,.dead,.dead]else bif
 mo==2 then bif decide ((↑n3:Int)>0)then R (.tuple [.agg [.str h,.nilSlice,.bool (mo==3),.bool true,.int u8 1],.bool true]) [.dead,
 .dead,.dead]else R (.tuple [.agg [.str h,.nilSlice,.bool (mo==3),.bool true,.int u8 2],.bool true]) [.dead,.dead,.dead]else bif
 decide ((↑n3:Int)>0)then R (.tuple [.agg [.str h,.nilSlice,.bool (mo==3),.bool true,.int u8 1],.bool true]) [.dead,.dead,.dead]
 else R (.tuple [.agg [.str h,.nilSlice,.bool (mo==3),.bool true,.int u8 3],.bool true]) [.dead,.dead,.dead]else bif mo==3 then bif
 decide ((↑n3:Int)>0)then R (.tuple [.agg [.str h,.nilSlice,.bool (mo==3),.bool (mo==3),.int u8 1],.bool true]) [.dead,.dead,
 .dead]else R (.tuple [.agg [.str h,.nilSlice,.bool (mo==3),.bool (mo==3),.int u8 2],.bool true]) [.dead,.dead,.dead]else bif mo
 ==2 then bif decide ((↑n3:Int)>0)then R (.tuple [.agg [.str h,.nilSlice,.bool (mo==3),.bool (mo==3),.int u8 1],.bool true]) [.dead,
 .dead,.dead]else R (.tuple [.agg [.str h,.nilSlice,.bool (mo==3),.bool (mo==3),.int u8 2],.bool true]) [.dead,.dead,.dead]
 else bif decide ((↑n3:Int)>0)then R (.tuple [.agg [.str h,.nilSlice,.bool (mo==3),.bool (mo==3),.int u8 1],.bool true]) [.dead,.dead,
 .dead]else R (.tuple [.agg [.str h,.nilSlice,.bool (mo==3),.bool (mo==3),.int u8 3],.bool true]) [.dead,.dead,.dead]else bif okT
 n3 c3&&(tlD c3).all inU then bif (↑(ab (usaL c3)).length:Int)==0 then bif (↑(ab (usaL c3)).length:Int)==0 then bif decide ((↑n3:Int)>0)then bif mo==
 3 then bif decide ((↑n3:Int)>0)then R (.tuple [.agg [.str h,.slice 3 0 (ab (usaL c3)).length false 0 0,.bool (mo==3),.bool true,.int u8 1],
 .bool true]) [.dead,.dead,.dead,.row (aa 3 (tls (ab (usaL c3)))) 72 4]else R (.tuple [.agg [.str h,.slice 3 0 (ab (usaL c3)).length false
 0 0,.bool (mo==3),.bool true,.int u8 2],.bool true]) [.dead,.dead,.dead,.row (aa 3 (tls (ab (usaL c3)))) 72 4]else bif mo==2
 then bif decide ((↑n3:Int)>0)then R (.tuple [.agg [.str h,.slice 3 0 (ab (usaL c3)).length false 0 0,.bool (mo==3),.bool true,.int u8 1],
 .bool true]) [.dead,.dead,.dead,.row (aa 3 (tls (ab (usaL c3)))) 72 4]else R (.tuple [.agg [.str h,.slice 3 0 (ab (usaL c3)).length false
 0 0,.bool (mo==3),.bool true,.int u8 2],.bool true]) [.dead,.dead,.dead,.row (aa 3 (tls (ab (usaL c3)))) 72 4]else bif decide
 ((↑n3:Int)>0)then R (.tuple [.agg [.str h,.slice 3 0 (ab (usaL c3)).length false 0 0,.bool (mo==3),.bool true,.int u8 1],.bool true])
 [.dead,.dead,.dead,.row (aa 3 (tls (ab (usaL c3)))) 72 4]else R (.tuple [.agg [.str h,.slice 3 0 (ab (usaL c3)).length false 0 0,.bool
 (mo==3),.bool true,.int u8 3],.bool true]) [.dead,.dead,.dead,.row (aa 3 (tls (ab (usaL c3)))) 72 4]else bif mo==3 then bif
 decide ((↑n3:Int)>0)then R (.tuple [.agg [.str h,.slice 3 0 (ab (usaL c3)).length false 0 0,.bool (mo==3),.bool (mo==3),.int u8 1],.bool
 true]) [.dead,.dead,.dead,.row (aa 3 (tls (ab (usaL c3)))) 72 4]else R (.tuple [.agg [.str h,.slice 3 0 (ab (usaL c3)).length false 0 0,
 .bool (mo==3),.bool (mo==3),.int u8 2],.bool true]) [.dead,.dead,.dead,.row (aa 3 (tls (ab (usaL c3)))) 72 4]else bif mo==2
 then bif decide ((↑n3:Int)>0)then R (.tuple [.agg [.str h,.slice 3 0 (ab (usaL c3)).length false 0 0,.bool (mo==3),.bool (mo==3),.int u8
 1],.bool true]) [.dead,.dead,.dead,.row (aa 3 (tls (ab (usaL c3)))) 72 4]else R (.tuple [.agg [.str h,.slice 3 0 (ab (usaL c3)).length
 false 0 0,.bool (mo==3),.bool (mo==3),.int u8 2],.bool true]) [.dead,.dead,.dead,.row (aa 3 (tls (ab (usaL c3)))) 72 4]else bif
 decide ((↑n3:Int)>0)then R (.tuple [.agg [.str h,.slice 3 0 (ab (usaL c3)).length false 0 0,.bool (mo==3),.bool (mo==3),.int u8 1],.bool
 true]) [.dead,.dead,.dead,.row (aa 3 (tls (ab (usaL c3)))) 72 4]else R (.tuple [.agg [.str h,.slice 3 0 (ab (usaL c3)).length false 0 0,
 .bool (mo==3),.bool (mo==3),.int u8 3],.bool true]) [.dead,.dead,.dead,.row (aa 3 (tls (ab (usaL c3)))) 72 4]else bif decide
 ((↑n3:Int)>0)then bif mo==3 then bif decide ((↑n3:Int)>0)then R (.tuple [.agg [.str h,.slice 3 0 (ab (usaL c3)).length false 0 0,.bool false,.bool
 true,.int u8 1],.bool true]) [.dead,.dead,.dead,.row (aa 3 (tls (ab (usaL c3)))) 72 4]else R (.tuple [.agg [.str h,.slice 3 0
 (ab (usaL c3)).length false 0 0,.bool false,.bool true,.int u8 2],.bool true]) [.dead,.dead,.dead,.row (aa 3 (tls (ab (usaL
 c3)))) 72 4]else bif mo==2 then bif decide ((↑n3:Int)>0)then R (.tuple [.agg [.str h,.slice 3 0 (ab (usaL c3)).length false 0 0,.bool false,.bool
 true,.int u8 1],.bool true]) [.dead,.dead,.dead,.row (aa 3 (tls (ab (usaL c3)))) 72 4]else R (.tuple [.agg [.str h,.slice 3 0
 (ab (usaL c3)).length false 0 0,.bool false,.bool true,.int u8 2],.bool true]) [.dead,.dead,.dead,.row (aa 3 (tls (ab (usaL
 c3)))) 72 4]else bif decide ((↑n3:Int)>0)then R (.tuple [.agg [.str h,.slice 3 0 (ab (usaL c3)).length false 0 0,.bool false,.bool true,.int
 u8 1],.bool true]) [.dead,.dead,.dead,.row (aa 3 (tls (ab (usaL c3)))) 72 4]else R (.tuple [.agg [.str h,.slice 3 0 (ab (usaL
 c3)).length false 0 0,.bool false,.bool true,.int u8 3],.bool true]) [.dead,.dead,.dead,.row (aa 3 (tls (ab (usaL c3)))) 72 4]else
 bif mo==3 then bif decide ((↑n3:Int)>0)then R (.tuple [.agg [.str h,.slice 3 0 (ab (usaL c3)).length false 0 0,.bool false,.bool false,.int
 u8 1],.bool true]) [.dead,.dead,.dead,.row (aa 3 (tls (ab (usaL c3)))) 72 4]else R (.tuple [.agg [.str h,.slice 3 0 (ab (usaL
 c3)).length false 0 0,.bool false,.bool false,.int u8 2],.bool true]) [.dead,.dead,.dead,.row (aa 3 (tls (ab (usaL c3)))) 72 4]else
 bif mo==2 then bif decide ((↑n3:Int)>0)then R (.tuple [.agg [.str h,.slice 3 0 (ab (usaL c3)).length false 0 0,.bool false,.bool false,.int
 u8 1],.bool true]) [.dead,.dead,.dead,.row (aa 3 (tls (ab (usaL c3)))) 72 4]else R (.tuple [.agg [.str h,.slice 3 0 (ab (usaL
 c3)).length false 0 0,.bool false,.bool false,.int u8 2],.bool true]) [.dead,.dead,.dead,.row (aa 3 (tls (ab (usaL c3)))) 72 4]else
 bif decide ((↑n3:Int)>0)then R (.tuple [.agg [.str h,.slice 3 0 (ab (usaL c3)).length false 0 0,.bool false,.bool false,.int u8 1],.bool
 true]) [.dead,.dead,.dead,.row (aa 3 (tls (ab (usaL c3)))) 72 4]else R (.tuple [.agg [.str h,.slice 3 0 (ab (usaL c3)).length false 0 0,
 .bool false,.bool false,.int u8 3],.bool true]) [.dead,.dead,.dead,.row (aa 3 (tls (ab (usaL c3)))) 72 4]else bif (↑(ab (usaL
 c3)).length:Int)==0 then bif decide ((↑n3:Int)>0)then bif mo==3 then bif decide ((↑n3:Int)>0)then R (.tuple [.agg [.str h,.slice 3 0 (ab (usaL
 c3)).length false 0 0,.bool (mo==3),.bool true,.int u8 1],.bool true]) [.dead,.dead,.dead,.row (aa 3 (tls (ab (usaL c3)))) 72 4]
 else R (.tuple [.agg [.str h,.slice 3 0 (ab (usaL c3)).length false 0 0,.bool (mo==3),.bool true,.int u8 2],.bool true]) [.dead,.dead,
 .dead,.row (aa 3 (tls (ab (usaL c3)))) 72 4]else bif mo==2 then bif decide ((↑n3:Int)>0)then R (.tuple [.agg [.str h,.slice 3 0 (ab (usaL
 c3)).length false 0 0,.bool (mo==3),.bool true,.int u8 1],.bool true]) [.dead,.dead,.dead,.row (aa 3 (tls (ab (usaL c3)))) 72 4]
 else R (.tuple [.agg [.str h,.slice 3 0 (ab (usaL c3)).length false 0 0,.bool (mo==3),.bool true,.int u8 2],.bool true]) [.dead,.dead,
 .dead,.row (aa 3 (tls (ab (usaL c3)))) 72 4]else bif decide ((↑n3:Int)>0)then R (.tuple [.agg [.str h,.slice 3 0 (ab (usaL c3)).length false 0
 0,.bool (mo==3),.bool true,.int u8 1],.bool true]) [.dead,.dead,.dead,.row (aa 3 (tls (ab (usaL c3)))) 72 4]else R (.tuple
 [.agg [.str h,.slice 3 0 (ab (usaL c3)).length false 0 0,.bool (mo==3),.bool true,.int u8 3],.bool true]) [.dead,.dead,.dead,.row
 (aa 3 (tls (ab (usaL c3)))) 72 4]else bif mo==3 then bif decide ((↑n3:Int)>0)then R (.tuple [.agg [.str h,.slice 3 0 (ab (usaL c3)).length false 0
 0,.bool (mo==3),.bool (mo==3),.int u8 1],.bool true]) [.dead,.dead,.dead,.row (aa 3 (tls (ab (usaL c3)))) 72 4]else R (.tuple
 [.agg [.str h,.slice 3 0 (ab (usaL c3)).length false 0 0,.bool (mo==3),.bool (mo==3),.int u8 2],.bool true]) [.dead,.dead,.dead,
 .row (aa 3 (tls (ab (usaL c3)))) 72 4]else bif mo==2 then bif decide ((↑n3:Int)>0)then R (.tuple [.agg [.str h,.slice 3 0 (ab (usaL c3)).length
 false 0 0,.bool (mo==3),.bool (mo==3),.int u8 1],.bool true]) [.dead,.dead,.dead,.row (aa 3 (tls (ab (usaL c3)))) 72 4]else R
 (.tuple [.agg [.str h,.slice 3 0 (ab (usaL c3)).length false 0 0,.bool (mo==3),.bool (mo==3),.int u8 2],.bool true]) [.dead,.dead,
 .dead,.row (aa 3 (tls (ab (usaL c3)))) 72 4]else bif decide ((↑n3:Int)>0)then R (.tuple [.agg [.str h,.slice 3 0 (ab (usaL c3)).length false 0
 0,.bool (mo==3),.bool (mo==3),.int u8 1],.bool true]) [.dead,.dead,.dead,.row (aa 3 (tls (ab (usaL c3)))) 72 4]else R (.tuple
 [.agg [.str h,.slice 3 0 (ab (usaL c3)).length false 0 0,.bool (mo==3),.bool (mo==3),.int u8 3],.bool true]) [.dead,.dead,.dead,
 .row (aa 3 (tls (ab (usaL c3)))) 72 4]else bif decide ((↑n3:Int)>0)then bif mo==3 then bif decide ((↑n3:Int)>0)then R (.tuple [.agg [.str h,
 .slice 3 0 (ab (usaL c3)).length false 0 0,.bool false,.bool true,.int u8 1],.bool true]) [.dead,.dead,.dead,.row (aa 3 (tls (ab
 (usaL c3)))) 72 4]else R (.tuple [.agg [.str h,.slice 3 0 (ab (usaL c3)).length false 0 0,.bool false,.bool true,.int u8 2],.bool true])
 [.dead,.dead,.dead,.row (aa 3 (tls (ab (usaL c3)))) 72 4]else bif mo==2 then bif decide ((↑n3:Int)>0)then R (.tuple [.agg [.str h,
 .slice 3 0 (ab (usaL c3)).length false 0 0,.bool false,.bool true,.int u8 1],.bool true]) [.dead,.dead,.dead,.row (aa 3 (tls (ab
 (usaL c3)))) 72 4]else R (.tuple [.agg [.str h,.slice 3 0 (ab (usaL c3)).length false 0 0,.bool false,.bool true,.int u8 2],.bool true])
 [.dead,.dead,.dead,.row (aa 3 (tls (ab (usaL c3)))) 72 4]else bif decide ((↑n3:Int)>0)then R (.tuple [.agg [.str h,.slice 3 0 (ab
 (usaL c3)).length false 0 0,.bool false,.bool true,.int u8 1],.bool true]) [.dead,.dead,.dead,.row (aa 3 (tls (ab (usaL c3)))) 72 4]
 else R (.tuple [.agg [.str h,.slice 3 0 (ab (usaL c3)).length false 0 0,.bool false,.bool true,.int u8 3],.bool true]) [.dead,.dead,
 .dead,.row (aa 3 (tls (ab (usaL c3)))) 72 4]else bif mo==3 then bif decide ((↑n3:Int)>0)then R (.tuple [.agg [.str h,.slice 3 0 (ab (usaL
 c3)).length false 0 0,.bool false,.bool false,.int u8 1],.bool true]) [.dead,.dead,.dead,.row (aa 3 (tls (ab (usaL c3)))) 72 4]else
 R (.tuple [.agg [.str h,.slice 3 0 (ab (usaL c3)).length false 0 0,.bool false,.bool false,.int u8 2],.bool true]) [.dead,.dead,.dead,
 .row (aa 3 (tls (ab (usaL c3)))) 72 4]else bif mo==2 then bif decide ((↑n3:Int)>0)then R (.tuple [.agg [.str h,.slice 3 0 (ab (usaL c3)).length
 false 0 0,.bool false,.bool false,.int u8 1],.bool true]) [.dead,.dead,.dead,.row (aa 3 (tls (ab (usaL c3)))) 72 4]else R (.tuple
 [.agg [.str h,.slice 3 0 (ab (usaL c3)).length false 0 0,.bool false,.bool false,.int u8 2],.bool true]) [.dead,.dead,.dead,.row
 (aa 3 (tls (ab (usaL c3)))) 72 4]else bif decide ((↑n3:Int)>0)then R (.tuple [.agg [.str h,.slice 3 0 (ab (usaL c3)).length false 0 0,.bool false,
 .bool false,.int u8 1],.bool true]) [.dead,.dead,.dead,.row (aa 3 (tls (ab (usaL c3)))) 72 4]else R (.tuple [.agg [.str h,.slice
 3 0 (ab (usaL c3)).length false 0 0,.bool false,.bool false,.int u8 3],.bool true]) [.dead,.dead,.dead,.row (aa 3 (tls (ab (usaL
 c3)))) 72 4]else False else bif decide ((↑n3:Int)>0)then bif mo==3 then bif decide ((↑n3:Int)>0)then R (.tuple [.agg [.str h,.nilSlice,.bool (mo==
 3),.bool true,.int u8 1],.bool true]) [.dead,.dead,.dead]else R (.tuple [.agg [.str h,.nilSlice,.bool (mo==3),.bool true,.int
 u8 2],.bool true]) [.dead,.dead,.dead]else bif mo==2 then bif decide ((↑n3:Int)>0)then R (.tuple [.agg [.str h,.nilSlice,.bool (mo==
 3),.bool true,.int u8 1],.bool true]) [.dead,.dead,.dead]else R (.tuple [.agg [.str h,.nilSlice,.bool (mo==3),.bool true,.int
 u8 2],.bool true]) [.dead,.dead,.dead]else bif decide ((↑n3:Int)>0)then R (.tuple [.agg [.str h,.nilSlice,.bool (mo==3),.bool true,
 .int u8 1],.bool true]) [.dead,.dead,.dead]else R (.tuple [.agg [.str h,.nilSlice,.bool (mo==3),.bool true,.int u8 3],.bool
 true]) [.dead,.dead,.dead]else bif mo==3 then bif decide ((↑n3:Int)>0)then R (.tuple [.agg [.str h,.nilSlice,.bool (mo==3),.bool (mo==3),
 .int u8 1],.bool true]) [.dead,.dead,.dead]else R (.tuple [.agg [.str h,.nilSlice,.bool (mo==3),.bool (mo==3),.int u8 2],
 .bool true]) [.dead,.dead,.dead]else bif mo==2 then bif decide ((↑n3:Int)>0)then R (.tuple [.agg [.str h,.nilSlice,.bool (mo==3),.bool (mo
 ==3),.int u8 1],.bool true]) [.dead,.dead,.dead]else R (.tuple [.agg [.str h,.nilSlice,.bool (mo==3),.bool (mo==3),.int u8
 2],.bool true]) [.dead,.dead,.dead]else bif decide ((↑n3:Int)>0)then R (.tuple [.agg [.str h,.nilSlice,.bool (mo==3),.bool (mo==3),.int
 u8 1],.bool true]) [.dead,.dead,.dead]else R (.tuple [.agg [.str h,.nilSlice,.bool (mo==3),.bool (mo==3),.int u8 3],.bool
 true]) [.dead,.dead,.dead]else bif mo==3 then R (.tuple [.agg [.str h,.nilSlice,.bool (mo==3),.bool (mo==3),.int u8 2],.bool true])
 [.dead,.dead,.dead]else bif mo==2 then R (.tuple [.agg [.str h,.nilSlice,.bool (mo==3),.bool (mo==3),.int u8 2],.bool true])
 [.dead,.dead,.dead]else R (.tuple [.agg [.str h,.nilSlice,.bool (mo==3),.bool (mo==3),.int u8 3],.bool true]) [.dead,.dead,
 .dead]else bif mo==3 then R (.tuple [.agg [.str h,.nilSlice,.bool (mo==3),.bool (mo==3),.int u8 2],.bool true]) [.dead,.dead,
 .dead]else bif mo==2 then R (.tuple [.agg [.str h,.nilSlice,.bool (mo==3),.bool (mo==3),.int u8 2],.bool true]) [.dead,.dead,
 .dead]else R (.tuple [.agg [.str h,.nilSlice,.bool (mo==3),.bool (mo==3),.int u8 3],.bool true]) [.dead,.dead,.dead]):=by kernel_rfl
theorem rtl_010(h:List UInt8)(mx:Bool)(co:Int)(se:Bool)(x1:Value)(n1:Nat)(c1:List V)(x2:Value)(n2:Nat)(c2:List V)(x3:Value)(n3:Nat)(c3:List V)(mo:Int)(x4:Value)(n4:Nat)(c4:List V)(ag:Int)(R:V→St→Prop):runM Qq RTL0 9 10 25 [.agg [.bool false,.bool true,.str h,.bool mx,.int .u8 co,.bool se,.lst x1 n1 c1,.lst x2 n2 c2,.lst x3 n3 c3,.bool false,.int .u8 mo,.lst x4 n4 c4,.int .i64 ag]] (fun v st=>R v (vis v st))=
  (
 bif co==1 then bif se then bif decide ((↑n3:Int)>0)then bif okT n3 c3&&(tlD c3).all inU&&(ab (usaL c3)).length.beq 0 then bif !mx then R (.tuple [.agg
 [.str [],.nilSlice,.bool false,.bool false,.int u8 0],.bool false]) [.dead,.dead,.dead]else bif decide ((↑n3:Int)>0)then bif decide
 ((↑n3:Int)>0)then R (.tuple [.agg [.str h,.nilSlice,.bool true,.bool true,.int u8 1],.bool true]) [.dead,.dead,.dead]else R (.tuple
 [.agg [.str h,.nilSlice,.bool true,.bool true,.int u8 3],.bool true]) [.dead,.dead,.dead]else bif decide ((↑n3:Int)>0)then R (.tuple
 [.agg [.str h,.nilSlice,.bool true,.bool true,.int u8 1],.bool true]) [.dead,.dead,.dead]else R (.tuple [.agg [.str h,.nilSlice,
 .bool true,.bool true,.int u8 3],.bool true]) [.dead,.dead,.dead]else bif okT n3 c3&&(tlD c3).all inU then bif (↑(ab (usaL c3)).length:
 Int)==0 then bif !mx then R (.tuple [.agg [.str [],.nilSlice,.bool false,.bool false,.int u8 0],.bool false]) [.dead,.dead,.dead,
 .dead]else bif (↑(ab (usaL c3)).length:Int)==0 then bif decide ((↑n3:Int)>0)then bif decide ((↑n3:Int)>0)then R (.tuple [.agg [.str h,.slice 3 0
 (ab (usaL c3)).length false 0 0,.bool true,.bool true,.int u8 1],.bool true]) [.dead,.dead,.dead,.row (aa 3 (tls (ab (usaL c3))))
 72 4]else R (.tuple [.agg [.str h,.slice 3 0 (ab (usaL c3)).length false 0 0,.bool true,.bool true,.int u8 3],.bool true]) [.dead,.dead,
 .dead,.row (aa 3 (tls (ab (usaL c3)))) 72 4]else bif decide ((↑n3:Int)>0)then R (.tuple [.agg [.str h,.slice 3 0 (ab (usaL c3)).length false 0
 0,.bool true,.bool true,.int u8 1],.bool true]) [.dead,.dead,.dead,.row (aa 3 (tls (ab (usaL c3)))) 72 4]else R (.tuple [.agg
 [.str h,.slice 3 0 (ab (usaL c3)).length false 0 0,.bool true,.bool true,.int u8 3],.bool true]) [.dead,.dead,.dead,.row (aa 3
 (tls (ab (usaL c3)))) 72 4]else bif decide ((↑n3:Int)>0)then bif decide ((↑n3:Int)>0)then R (.tuple [.agg [.str h,.slice 3 0 (ab (usaL c3)).length
 false 0 0,.bool false,.bool true,.int u8 1],.bool true]) [.dead,.dead,.dead,.row (aa 3 (tls (ab (usaL c3)))) 72 4]else R (.tuple
 [.agg [.str h,.slice 3 0 (ab (usaL c3)).length false 0 0,.bool false,.bool true,.int u8 3],.bool true]) [.dead,.dead,.dead,.row
 (aa 3 (tls (ab (usaL c3)))) 72 4]else bif decide ((↑n3:Int)>0)then R (.tuple [.agg [.str h,.slice 3 0 (ab (usaL c3)).length false 0 0,.bool false,
 .bool false,.int u8 1],.bool true]) [.dead,.dead,.dead,.row (aa 3 (tls (ab (usaL c3)))) 72 4]else R (.tuple [.agg [.str h,.slice
 3 0 (ab (usaL c3)).length false 0 0,.bool false,.bool false,.int u8 3],.bool true]) [.dead,.dead,.dead,.row (aa 3 (tls (ab (usaL
 c3)))) 72 4]else bif (↑(ab (usaL c3)).length:Int)==0 then bif decide ((↑n3:Int)>0)then bif decide ((↑n3:Int)>0)then R (.tuple [.agg [.str h,.slice
 3 0 (ab (usaL c3)).length false 0 0,.bool true,.bool true,.int u8 1],.bool true]) [.dead,.dead,.dead,.row (aa 3 (tls (ab (usaL
 c3)))) 72 4]else R (.tuple [.agg [.str h,.slice 3 0 (ab (usaL c3)).length false 0 0,.bool true,.bool true,.int u8 3],.bool true]) [.dead,
 .dead,.dead,.row (aa 3 (tls (ab (usaL c3)))) 72 4]else bif decide ((↑n3:Int)>0)then R (.tuple [.agg [.str h,.slice 3 0 (ab (usaL
 c3)).length false 0 0,.bool true,.bool true,.int u8 1],.bool true]) [.dead,.dead,.dead,.row (aa 3 (tls (ab (usaL c3)))) 72 4]else R
 (.tuple [.agg [.str h,.slice 3 0 (ab (usaL c3)).length false 0 0,.bool true,.bool true,.int u8 3],.bool true]) [.dead,.dead,.dead,
 .row (aa 3 (tls (ab (usaL c3)))) 72 4]else bif decide ((↑n3:Int)>0)then bif decide ((↑n3:Int)>0)then R (.tuple [.agg [.str h,.slice 3 0 (ab
 (usaL c3)).length false 0 0,.bool false,.bool true,.int u8 1],.bool true]) [.dead,.dead,.dead,.row (aa 3 (tls (ab (usaL c3)))) 72 4]
 else R (.tuple [.agg [.str h,.slice 3 0 (ab (usaL c3)).length false 0 0,.bool false,.bool true,.int u8 3],.bool true]) [.dead,.dead,
 .dead,.row (aa 3 (tls (ab (usaL c3)))) 72 4]else bif decide ((↑n3:Int)>0)then R (.tuple [.agg [.str h,.slice 3 0 (ab (usaL c3)).length false 0
 0,.bool false,.bool false,.int u8 1],.bool true]) [.dead,.dead,.dead,.row (aa 3 (tls (ab (usaL c3)))) 72 4]else R (.tuple [.agg
 [.str h,.slice 3 0 (ab (usaL c3)).length false 0 0,.bool false,.bool false,.int u8 3],.bool true]) [.dead,.dead,.dead,.row (aa 3
 (tls (ab (usaL c3)))) 72 4]else False else bif !mx then R (.tuple [.agg [.str [],.nilSlice,.bool false,.bool false,.int u8 0],.bool false])
 [.dead,.dead,.dead]else bif decide ((↑n3:Int)>0)then bif decide ((↑n3:Int)>0)then R (.tuple [.agg [.str h,.nilSlice,.bool true,.bool true,
 .int u8 1],.bool true]) [.dead,.dead,.dead]else R (.tuple [.agg [.str h,.nilSlice,.bool true,.bool true,.int u8 3],.bool
 true]) [.dead,.dead,.dead]else bif decide ((↑n3:Int)>0)then R (.tuple [.agg [.str h,.nilSlice,.bool true,.bool true,.int u8 1],.bool
 true]) [.dead,.dead,.dead]else R (.tuple [.agg [.str h,.nilSlice,.bool true,.bool true,.int u8 3],.bool true]) [.dead,.dead,
 .dead]else bif !mx then R (.tuple [.agg [.str [],.nilSlice,.bool false,.bool false,.int u8 0],.bool false]) [.dead,.dead,.dead]else R
 (.tuple [.agg [.str h,.nilSlice,.bool true,.bool true,.int u8 3],.bool true]) [.dead,.dead,.dead]else bif !mx then R (.tuple [.agg
 [.str [],.nilSlice,.bool false,.bool false,.int u8 0],.bool false]) [.dead,.dead,.dead]else R (.tuple [.agg [.str h,.nilSlice,.bool
 true,.bool true,.int u8 3],.bool true]) [.dead,.dead,.dead]):=by kernel_rfl
theorem rtl_011(h:List UInt8)(mx:Bool)(co:Int)(se:Bool)(x1:Value)(n1:Nat)(c1:List V)(x2:Value)(n2:Nat)(c2:List V)(x3:Value)(n3:Nat)(c3:List V)(mo:Int)(x4:Value)(n4:Nat)(c4:List V)(ag:Int)(R:V→St→Prop):runM Qq RTL0 9 10 25 [.agg [.bool false,.bool true,.str h,.bool mx,.int .u8 co,.bool se,.lst x1 n1 c1,.lst x2 n2 c2,.lst x3 n3 c3,.bool true,.int .u8 mo,.lst x4 n4 c4,.int .i64 ag]] (fun v st=>R v (vis v st))=
  (
 bif co==1 then bif se then bif decide ((↑n3:Int)>0)then bif okT n3 c3&&(tlD c3).all inU&&(ab (usaL c3)).length.beq 0 then bif !mx then bif mo==3 then bif
 okS n4 c4&&(lenA c4&&aF h)then bif !polM (List.map al c4) h then R (.tuple [.agg [.str [],.nilSlice,.bool false,.bool false,.int u8 0],
 .bool false]) [.dead,.dead,.dead]else bif decide ((↑n3:Int)>0)then bif mo==3 then bif decide ((↑n3:Int)>0)then R (.tuple [.agg [.str h,
 .nilSlice,.bool true,.bool true,.int u8 1],.bool true]) [.dead,.dead,.dead]else R (.tuple [.agg [.str h,.nilSlice,.bool true,.bool
 true,.int u8 2],.bool true]) [.dead,.dead,.dead]else bif mo==2 then bif decide ((↑n3:Int)>0)then R (.tuple [.agg [.str h,.nilSlice,
 .bool true,.bool true,.int u8 1],.bool true]) [.dead,.dead,.dead]else R (.tuple [.agg [.str h,.nilSlice,.bool true,.bool true,.int
 u8 2],.bool true]) [.dead,.dead,.dead]else bif decide ((↑n3:Int)>0)then R (.tuple [.agg [.str h,.nilSlice,.bool true,.bool true,.int
 u8 1],.bool true]) [.dead,.dead,.dead]else R (.tuple [.agg [.str h,.nilSlice,.bool true,.bool true,.int u8 3],.bool true])
 [.dead,.dead,.dead]else bif mo==3 then bif decide ((↑n3:Int)>0)then R (.tuple [.agg [.str h,.nilSlice,.bool true,.bool true,.int u8
 1],.bool true]) [.dead,.dead,.dead]else R (.tuple [.agg [.str h,.nilSlice,.bool true,.bool true,.int u8 2],.bool true]) [.dead,
 .dead,.dead]else bif mo==2 then bif decide ((↑n3:Int)>0)then R (.tuple [.agg [.str h,.nilSlice,.bool true,.bool true,.int u8 1],.bool
 true]) [.dead,.dead,.dead]else R (.tuple [.agg [.str h,.nilSlice,.bool true,.bool true,.int u8 2],.bool true]) [.dead,.dead,
 .dead]else bif decide ((↑n3:Int)>0)then R (.tuple [.agg [.str h,.nilSlice,.bool true,.bool true,.int u8 1],.bool true]) [.dead,.dead,
 .dead]else R (.tuple [.agg [.str h,.nilSlice,.bool true,.bool true,.int u8 3],.bool true]) [.dead,.dead,.dead]else False else bif mo
 ==2 then bif okS n4 c4&&(lenA c4&&aF h)then bif !polM (List.map al c4) h then R (.tuple [.agg [.str [],.nilSlice,.bool false,.bool false,.int
 u8 0],.bool false]) [.dead,.dead,.dead]else bif decide ((↑n3:Int)>0)then bif mo==3 then bif decide ((↑n3:Int)>0)then R (.tuple [.agg
 [.str h,.nilSlice,.bool true,.bool true,.int u8 1],.bool true]) [.dead,.dead,.dead]else R (.tuple [.agg [.str h,.nilSlice,.bool
 true,.bool true,.int u8 2],.bool true]) [.dead,.dead,.dead]else bif mo==2 then bif decide ((↑n3:Int)>0)then R (.tuple [.agg [.str h,
 .nilSlice,.bool true,.bool true,.int u8 1],.bool true]) [.dead,.dead,.dead]else R (.tuple [.agg [.str h,.nilSlice,.bool true,.bool
 true,.int u8 2],.bool true]) [.dead,.dead,.dead]else bif decide ((↑n3:Int)>0)then R (.tuple [.agg [.str h,.nilSlice,.bool true,.bool
 true,.int u8 1],.bool true]) [.dead,.dead,.dead]else R (.tuple [.agg [.str h,.nilSlice,.bool true,.bool true,.int u8 3],.bool
 true]) [.dead,.dead,.dead]else bif mo==3 then bif decide ((↑n3:Int)>0)then R (.tuple [.agg [.str h,.nilSlice,.bool true,.bool true,.int
 u8 1],.bool true]) [.dead,.dead,.dead]else R (.tuple [.agg [.str h,.nilSlice,.bool true,.bool true,.int u8 2],.bool true])
 [.dead,.dead,.dead]else bif mo==2 then bif decide ((↑n3:Int)>0)then R (.tuple [.agg [.str h,.nilSlice,.bool true,.bool true,.int u8
 1],.bool true]) [.dead,.dead,.dead]else R (.tuple [.agg [.str h,.nilSlice,.bool true,.bool true,.int u8 2],.bool true]) [.dead,
 .dead,.dead]else bif decide ((↑n3:Int)>0)then R (.tuple [.agg [.str h,.nilSlice,.bool true,.bool true,.int u8 1],.bool true]) [.dead,
 .dead,.dead]else R (.tuple [.agg [.str h,.nilSlice,.bool true,.bool true,.int u8 3],.bool true]) [.dead,.dead,.dead]else False
 else R (.tuple [.agg [.str [],.nilSlice,.bool false,.bool false,.int u8 0],.bool false]) [.dead,.dead,.dead]else bif decide ((↑n3:Int)
 >0)then bif mo==3 then bif decide ((↑n3:Int)>0)then R (.tuple [.agg [.str h,.nilSlice,.bool true,.bool true,.int u8 1],.bool true])
 [.dead,.dead,.dead]else R (.tuple [.agg [.str h,.nilSlice,.bool true,.bool true,.int u8 2],.bool true]) [.dead,.dead,.dead]
 else bif mo==2 then bif decide ((↑n3:Int)>0)then R (.tuple [.agg [.str h,.nilSlice,.bool true,.bool true,.int u8 1],.bool true]) [.dead,
 .dead,.dead]else R (.tuple [.agg [.str h,.nilSlice,.bool true,.bool true,.int u8 2],.bool true]) [.dead,.dead,.dead]else bif
 decide ((↑n3:Int)>0)then R (.tuple [.agg [.str h,.nilSlice,.bool true,.bool true,.int u8 1],.bool true]) [.dead,.dead,.dead]else R
 (.tuple [.agg [.str h,.nilSlice,.bool true,.bool true,.int u8 3],.bool true]) [.dead,.dead,.dead]else bif mo==3 then bif decide ((↑n3:
 Int)>0)then R (.tuple [.agg [.str h,.nilSlice,.bool true,.bool true,.int u8 1],.bool true]) [.dead,.dead,.dead]else R (.tuple [.agg
 [.str h,.nilSlice,.bool true,.bool true,.int u8 2],.bool true]) [.dead,.dead,.dead]else bif mo==2 then bif decide ((↑n3:Int)>0)then
 R (.tuple [.agg [.str h,.nilSlice,.bool true,.bool true,.int u8 1],.bool true]) [.dead,.dead,.dead]else R (.tuple [.agg [.str h,
 .nilSlice,.bool true,.bool true,.int u8 2],.bool true]) [.dead,.dead,.dead]else bif decide ((↑n3:Int)>0)then R (.tuple [.agg [.str h,
 .nilSlice,.bool true,.bool true,.int u8 1],.bool true]) [.dead,.dead,.dead]else R (.tuple [.agg [.str h,.nilSlice,.bool true,.bool
 true,.int u8 3],.bool true]) [.dead,.dead,.dead]else bif okT n3 c3&&(tlD c3).all inU then bif (↑(ab (usaL c3)).length:Int)==0 then bif
 !mx then bif mo==3 then bif okS n4 c4&&(lenA c4&&aF h)then bif !polM (List.map al c4) h then R (.tuple [.agg [.str [],.nilSlice,.bool false,.bool
 false,.int u8 0],.bool false]) [.dead,.dead,.dead,.dead]else bif (↑(ab (usaL c3)).length:Int)==0 then bif decide ((↑n3:Int)>0)then
 bif mo==3 then bif decide ((↑n3:Int)>0)then R (.tuple [.agg [.str h,.slice 3 0 (ab (usaL c3)).length false 0 0,.bool true,.bool true,.int u8
 1],.bool true]) [.dead,.dead,.dead,.row (aa 3 (tls (ab (usaL c3)))) 72 4]else R (.tuple [.agg [.str h,.slice 3 0 (ab (usaL c3)).length
 false 0 0,.bool true,.bool true,.int u8 2],.bool true]) [.dead,.dead,.dead,.row (aa 3 (tls (ab (usaL c3)))) 72 4]else bif mo==2
 then bif decide ((↑n3:Int)>0)then R (.tuple [.agg [.str h,.slice 3 0 (ab (usaL c3)).length false 0 0,.bool true,.bool true,.int u8 1],.bool
 true]) [.dead,.dead,.dead,.row (aa 3 (tls (ab (usaL c3)))) 72 4]else R (.tuple [.agg [.str h,.slice 3 0 (ab (usaL c3)).length false 0 0,
 .bool true,.bool true,.int u8 2],.bool true]) [.dead,.dead,.dead,.row (aa 3 (tls (ab (usaL c3)))) 72 4]else bif decide ((↑n3:Int)
 >0)then R (.tuple [.agg [.str h,.slice 3 0 (ab (usaL c3)).length false 0 0,.bool true,.bool true,.int u8 1],.bool true]) [.dead,.dead,
 .dead,.row (aa 3 (tls (ab (usaL c3)))) 72 4]else R (.tuple [.agg [.str h,.slice 3 0 (ab (usaL c3)).length false 0 0,.bool true,.bool true,
 .int u8 3],.bool true]) [.dead,.dead,.dead,.row (aa 3 (tls (ab (usaL c3)))) 72 4]else bif mo==3 then bif decide ((↑n3:Int)>0)then
 R (.tuple [.agg [.str h,.slice 3 0 (ab (usaL c3)).length false 0 0,.bool true,.bool true,.int u8 1],.bool true]) [.dead,.dead,.dead,
 .row (aa 3 (tls (ab (usaL c3)))) 72 4]else R (.tuple [.agg [.str h,.slice 3 0 (ab (usaL c3)).length false 0 0,.bool true,.bool true,.int
 u8 2],.bool true]) [.dead,.dead,.dead,.row (aa 3 (tls (ab (usaL c3)))) 72 4]else bif mo==2 then bif decide ((↑n3:Int)>0)then R
 (.tuple [.agg [.str h,.slice 3 0 (ab (usaL c3)).length false 0 0,.bool true,.bool true,.int u8 1],.bool true]) [.dead,.dead,.dead,
 .row (aa 3 (tls (ab (usaL c3)))) 72 4]else R (.tuple [.agg [.str h,.slice 3 0 (ab (usaL c3)).length false 0 0,.bool true,.bool true,.int
 u8 2],.bool true]) [.dead,.dead,.dead,.row (aa 3 (tls (ab (usaL c3)))) 72 4]else bif decide ((↑n3:Int)>0)then R (.tuple [.agg
 [.str h,.slice 3 0 (ab (usaL c3)).length false 0 0,.bool true,.bool true,.int u8 1],.bool true]) [.dead,.dead,.dead,.row (aa 3
 (tls (ab (usaL c3)))) 72 4]else R (.tuple [.agg [.str h,.slice 3 0 (ab (usaL c3)).length false 0 0,.bool true,.bool true,.int u8 3],.bool
 true]) [.dead,.dead,.dead,.row (aa 3 (tls (ab (usaL c3)))) 72 4]else bif decide ((↑n3:Int)>0)then bif mo==3 then bif decide ((↑n3:Int)>
 0)then R (.tuple [.agg [.str h,.slice 3 0 (ab (usaL c3)).length false 0 0,.bool false,.bool true,.int u8 1],.bool true]) [.dead,.dead,
 .dead,.row (aa 3 (tls (ab (usaL c3)))) 72 4]else R (.tuple [.agg [.str h,.slice 3 0 (ab (usaL c3)).length false 0 0,.bool false,.bool true,
 .int u8 2],.bool true]) [.dead,.dead,.dead,.row (aa 3 (tls (ab (usaL c3)))) 72 4]else bif mo==2 then bif decide ((↑n3:Int)>0)then
 R (.tuple [.agg [.str h,.slice 3 0 (ab (usaL c3)).length false 0 0,.bool false,.bool true,.int u8 1],.bool true]) [.dead,.dead,.dead,
 .row (aa 3 (tls (ab (usaL c3)))) 72 4]else R (.tuple [.agg [.str h,.slice 3 0 (ab (usaL c3)).length false 0 0,.bool false,.bool true,.int
 u8 2],.bool true]) [.dead,.dead,.dead,.row (aa 3 (tls (ab (usaL c3)))) 72 4]else bif decide ((↑n3:Int)>0)then R (.tuple [.agg
 [.str h,.slice 3 0 (ab (usaL c3)).length false 0 0,.bool false,.bool true,.int u8 1],.bool true]) [.dead,.dead,.dead,.row (aa 3
 (tls (ab (usaL c3)))) 72 4]else R (.tuple [.agg [.str h,.slice 3 0 (ab (usaL c3)).length false 0 0,.bool false,.bool true,.int u8 3],.bool
 true]) [.dead,.dead,.dead,.row (aa 3 (tls (ab (usaL c3)))) 72 4]else bif mo==3 then bif decide ((↑n3:Int)>0)then R (.tuple [.agg [.str h,
 .slice 3 0 (ab (usaL c3)).length false 0 0,.bool false,.bool false,.int u8 1],.bool true]) [.dead,.dead,.dead,.row (aa 3 (tls
 (ab (usaL c3)))) 72 4]else R (.tuple [.agg [.str h,.slice 3 0 (ab (usaL c3)).length false 0 0,.bool false,.bool false,.int u8 2],.bool true])
 [.dead,.dead,.dead,.row (aa 3 (tls (ab (usaL c3)))) 72 4]else bif mo==2 then bif decide ((↑n3:Int)>0)then R (.tuple [.agg [.str h,
 .slice 3 0 (ab (usaL c3)).length false 0 0,.bool false,.bool false,.int u8 1],.bool true]) [.dead,.dead,.dead,.row (aa 3 (tls
 (ab (usaL c3)))) 72 4]else R (.tuple [.agg [.str h,.slice 3 0 (ab (usaL c3)).length false 0 0,.bool false,.bool false,.int u8 2],.bool true])
 [.dead,.dead,.dead,.row (aa 3 (tls (ab (usaL c3)))) 72 4]else bif decide ((↑n3:Int)>0)then R (.tuple [.agg [.str h,.slice 3 0 (ab
 (usaL c3)).length false 0 0,.bool false,.bool false,.int u8 1],.bool true]) [.dead,.dead,.dead,.row (aa 3 (tls (ab (usaL c3)))) 72
 4]else R (.tuple [.agg [.str h,.slice 3 0 (ab (usaL c3)).length false 0 0,.bool false,.bool false,.int u8 3],.bool true]) [.dead,.dead,
 .dead,.row (aa 3 (tls (ab (usaL c3)))) 72 4]else False else bif mo==2 then bif okS n4 c4&&(lenA c4&&aF h)then bif !polM (List.map al c4) h
 then R (.tuple [.agg [.str [],.nilSlice,.bool false,.bool false,.int u8 0],.bool false]) [.dead,.dead,.dead,.dead]else bif (↑(ab
 (usaL c3)).length:Int)==0 then bif decide ((↑n3:Int)>0)then bif mo==3 then bif decide ((↑n3:Int)>0)then R (.tuple [.agg [.str h,.slice 3 0 (ab
 (usaL c3)).length false 0 0,.bool true,.bool true,.int u8 1],.bool true]) [.dead,.dead,.dead,.row (aa 3 (tls (ab (usaL c3)))) 72 4]
 else R (.tuple [.agg [.str h,.slice 3 0 (ab (usaL c3)).length false 0 0,.bool true,.bool true,.int u8 2],.bool true]) [.dead,.dead,
 .dead,.row (aa 3 (tls (ab (usaL c3)))) 72 4]else bif mo==2 then bif decide ((↑n3:Int)>0)then R (.tuple [.agg [.str h,.slice 3 0 (ab (usaL
 c3)).length false 0 0,.bool true,.bool true,.int u8 1],.bool true]) [.dead,.dead,.dead,.row (aa 3 (tls (ab (usaL c3)))) 72 4]else R
 (.tuple [.agg [.str h,.slice 3 0 (ab (usaL c3)).length false 0 0,.bool true,.bool true,.int u8 2],.bool true]) [.dead,.dead,.dead,
 .row (aa 3 (tls (ab (usaL c3)))) 72 4]else bif decide ((↑n3:Int)>0)then R (.tuple [.agg [.str h,.slice 3 0 (ab (usaL c3)).length false 0 0,.bool
 true,.bool true,.int u8 1],.bool true]) [.dead,.dead,.dead,.row (aa 3 (tls (ab (usaL c3)))) 72 4]else R (.tuple [.agg [.str h,
 .slice 3 0 (ab (usaL c3)).length false 0 0,.bool true,.bool true,.int u8 3],.bool true]) [.dead,.dead,.dead,.row (aa 3 (tls (ab
 (usaL c3)))) 72 4]else bif mo==3 then bif decide ((↑n3:Int)>0)then R (.tuple [.agg [.str h,.slice 3 0 (ab (usaL c3)).length false 0 0,.bool true,.bool
 true,.int u8 1],.bool true]) [.dead,.dead,.dead,.row (aa 3 (tls (ab (usaL c3)))) 72 4]else R (.tuple [.agg [.str h,.slice 3 0
 (ab (usaL c3)).length false 0 0,.bool true,.bool true,.int u8 2],.bool true]) [.dead,.dead,.dead,.row (aa 3 (tls (ab (usaL c3))))
 72 4]else bif mo==2 then bif decide ((↑n3:Int)>0)then R (.tuple [.agg [.str h,.slice 3 0 (ab (usaL c3)).length false 0 0,.bool true,.bool true,.int
 u8 1],.bool true]) [.dead,.dead,.dead,.row (aa 3 (tls (ab (usaL c3)))) 72 4]else R (.tuple [.agg [.str h,.slice 3 0 (ab (usaL
 c3)).length false 0 0,.bool true,.bool true,.int u8 2],.bool true]) [.dead,.dead,.dead,.row (aa 3 (tls (ab (usaL c3)))) 72 4]else
 bif decide ((↑n3:Int)>0)then R (.tuple [.agg [.str h,.slice 3 0 (ab (usaL c3)).length false 0 0,.bool true,.bool true,.int u8 1],.bool true])
 [.dead,.dead,.dead,.row (aa 3 (tls (ab (usaL c3)))) 72 4]else R (.tuple [.agg [.str h,.slice 3 0 (ab (usaL c3)).length false 0 0,.bool
 true,.bool true,.int u8 3],.bool true]) [.dead,.dead,.dead,.row (aa 3 (tls (ab (usaL c3)))) 72 4]else bif decide ((↑n3:Int)>0)
 then bif mo==3 then bif decide ((↑n3:Int)>0)then R (.tuple [.agg [.str h,.slice 3 0 (ab (usaL c3)).length false 0 0,.bool false,.bool true,.int
 u8 1],.bool true]) [.dead,.dead,.dead,.row (aa 3 (tls (ab (usaL c3)))) 72 4]else R (.tuple [.agg [.str h,.slice 3 0 (ab (usaL
 c3)).length false 0 0,.bool false,.bool true,.int u8 2],.bool true]) [.dead,.dead,.dead,.row (aa 3 (tls (ab (usaL c3)))) 72 4]else
 bif mo==2 then bif decide ((↑n3:Int)>0)then R (.tuple [.agg [.str h,.slice 3 0 (ab (usaL c3)).length false 0 0,.bool false,.bool true,.int u8
 1],.bool true]) [.dead,.dead,.dead,.row (aa 3 (tls (ab (usaL c3)))) 72 4]else R (.tuple [.agg [.str h,.slice 3 0 (ab (usaL c3)).length
 false 0 0,.bool false,.bool true,.int u8 2],.bool true]) [.dead,.dead,.dead,.row (aa 3 (tls (ab (usaL c3)))) 72 4]else bif decide
 ((↑n3:Int)>0)then R (.tuple [.agg [.str h,.slice 3 0 (ab (usaL c3)).length false 0 0,.bool false,.bool true,.int u8 1],.bool true])
 [.dead,.dead,.dead,.row (aa 3 (tls (ab (usaL c3)))) 72 4]else R (.tuple [.agg [.str h,.slice 3 0 (ab (usaL c3)).length false 0 0,.bool
 false,.bool true,.int u8 3],.bool true]) [.dead,.dead,.dead,.row (aa 3 (tls (ab (usaL c3)))) 72 4]else bif mo==3 then bif decide
 ((↑n3:Int)>0)then R (.tuple [.agg [.str h,.slice 3 0 (ab (usaL c3)).length false 0 0,.bool false,.bool false,.int u8 1],.bool true])
 [.dead,.dead,.dead,.row (aa 3 (tls (ab (usaL c3)))) 72 4]else R (.tuple [.agg [.str h,.slice 3 0 (ab (usaL c3)).length false 0 0,.bool
 false,.bool false,.int u8 2],.bool true]) [.dead,.dead,.dead,.row (aa 3 (tls (ab (usaL c3)))) 72 4]else bif mo==2 then bif decide
 ((↑n3:Int)>0)then R (.tuple [.agg [.str h,.slice 3 0 (ab (usaL c3)).length false 0 0,.bool false,.bool false,.int u8 1],.bool true])
 [.dead,.dead,.dead,.row (aa 3 (tls (ab (usaL c3)))) 72 4]else R (.tuple [.agg [.str h,.slice 3 0 (ab (usaL c3)).length false 0 0,.bool
 false,.bool false,.int u8 2],.bool true]) [.dead,.dead,.dead,.row (aa 3 (tls (ab (usaL c3)))) 72 4]else bif decide ((↑n3:Int)>0)
 then R (.tuple [.agg [.str h,.slice 3 0 (ab (usaL c3)).length false 0 0,.bool false,.bool false,.int u8 1],.bool true]) [.dead,.dead,
 .dead,.row (aa 3 (tls (ab (usaL c3)))) 72 4]else R (.tuple [.agg [.str h,.slice 3 0 (ab (usaL c3)).length false 0 0,.bool false,.bool false,
 .int u8 3],.bool true]) [.dead,.dead,.dead,.row (aa 3 (tls (ab (usaL c3)))) 72 4]else False else R (.tuple [.agg [.str [],
 .nilSlice,.bool false,.bool false,.int u8 0],.bool false]) [.dead,.dead,.dead,.dead]else bif (↑(ab (usaL c3)).length:Int)==0 then
 bif decide ((↑n3:Int)>0)then bif mo==3 then bif decide ((↑n3:Int)>0)then R (.tuple [.agg [.str h,.slice 3 0 (ab (usaL c3)).length false 0 0,.bool
 true,.bool true,.int u8 1],.bool true]) [.dead,.dead,.dead,.row (aa 3 (tls (ab (usaL c3)))) 72 4]else R (.tuple [.agg [.str h,
 .slice 3 0 (ab (usaL c3)).length false 0 0,.bool true,.bool true,.int u8 2],.bool true]) [.dead,.dead,.dead,.row (aa 3 (tls (ab
 (usaL c3)))) 72 4]else bif mo==2 then bif decide ((↑n3:Int)>0)then R (.tuple [.agg [.str h,.slice 3 0 (ab (usaL c3)).length false 0 0,.bool true,.bool
 true,.int u8 1],.bool true]) [.dead,.dead,.dead,.row (aa 3 (tls (ab (usaL c3)))) 72 4]else R (.tuple [.agg [.str h,.slice 3 0
 (ab (usaL c3)).length false 0 0,.bool true,.bool true,.int u8 2],.bool true]) [.dead,.dead,.dead,.row (aa 3 (tls (ab (usaL c3))))
 72 4]else bif decide ((↑n3:Int)>0)then R (.tuple [.agg [.str h,.slice 3 0 (ab (usaL c3)).length false 0 0,.bool true,.bool true,.int u8 1],
 .bool true]) [.dead,.dead,.dead,.row (aa 3 (tls (ab (usaL c3)))) 72 4]else R (.tuple [.agg [.str h,.slice 3 0 (ab (usaL c3)).length false
 0 0,.bool true,.bool true,.int u8 3],.bool true]) [.dead,.dead,.dead,.row (aa 3 (tls (ab (usaL c3)))) 72 4]else bif mo==3 then
 bif decide ((↑n3:Int)>0)then R (.tuple [.agg [.str h,.slice 3 0 (ab (usaL c3)).length false 0 0,.bool true,.bool true,.int u8 1],.bool true])
 [.dead,.dead,.dead,.row (aa 3 (tls (ab (usaL c3)))) 72 4]else R (.tuple [.agg [.str h,.slice 3 0 (ab (usaL c3)).length false 0 0,.bool
 true,.bool true,.int u8 2],.bool true]) [.dead,.dead,.dead,.row (aa 3 (tls (ab (usaL c3)))) 72 4]else bif mo==2 then bif decide
 ((↑n3:Int)>0)then R (.tuple [.agg [.str h,.slice 3 0 (ab (usaL c3)).length false 0 0,.bool true,.bool true,.int u8 1],.bool true]) [.dead,
 .dead,.dead,.row (aa 3 (tls (ab (usaL c3)))) 72 4]else R (.tuple [.agg [.str h,.slice 3 0 (ab (usaL c3)).length false 0 0,.bool true,.bool
 true,.int u8 2],.bool true]) [.dead,.dead,.dead,.row (aa 3 (tls (ab (usaL c3)))) 72 4]else bif decide ((↑n3:Int)>0)then R (.tuple
 [.agg [.str h,.slice 3 0 (ab (usaL c3)).length false 0 0,.bool true,.bool true,.int u8 1],.bool true]) [.dead,.dead,.dead,.row
 (aa 3 (tls (ab (usaL c3)))) 72 4]else R (.tuple [.agg [.str h,.slice 3 0 (ab (usaL c3)).length false 0 0,.bool true,.bool true,.int u8 3],
 .bool true]) [.dead,.dead,.dead,.row (aa 3 (tls (ab (usaL c3)))) 72 4]else bif decide ((↑n3:Int)>0)then bif mo==3 then bif decide ((↑n3:
 Int)>0)then R (.tuple [.agg [.str h,.slice 3 0 (ab (usaL c3)).length false 0 0,.bool false,.bool true,.int u8 1],.bool true]) [.dead,
 .dead,.dead,.row (aa 3 (tls (ab (usaL c3)))) 72 4]else R (.tuple [.agg [.str h,.slice 3 0 (ab (usaL c3)).length false 0 0,.bool false,.bool
 true,.int u8 2],.bool true]) [.dead,.dead,.dead,.row (aa 3 (tls (ab (usaL c3)))) 72 4]else bif mo==2 then bif decide ((↑n3:Int)>
 0)then R (.tuple [.agg [.str h,.slice 3 0 (ab (usaL c3)).length false 0 0,.bool false,.bool true,.int u8 1],.bool true]) [.dead,.dead,
 .dead,.row (aa 3 (tls (ab (usaL c3)))) 72 4]else R (.tuple [.agg [.str h,.slice 3 0 (ab (usaL c3)).length false 0 0,.bool false,.bool true,
 .int u8 2],.bool true]) [.dead,.dead,.dead,.row (aa 3 (tls (ab (usaL c3)))) 72 4]else bif decide ((↑n3:Int)>0)then R (.tuple
 [.agg [.str h,.slice 3 0 (ab (usaL c3)).length false 0 0,.bool false,.bool true,.int u8 1],.bool true]) [.dead,.dead,.dead,.row
 (aa 3 (tls (ab (usaL c3)))) 72 4]else R (.tuple [.agg [.str h,.slice 3 0 (ab (usaL c3)).length false 0 0,.bool false,.bool true,.int u8 3],
 .bool true]) [.dead,.dead,.dead,.row (aa 3 (tls (ab (usaL c3)))) 72 4]else bif mo==3 then bif decide ((↑n3:Int)>0)then R (.tuple [.agg
 [.str h,.slice 3 0 (ab (usaL c3)).length false 0 0,.bool false,.bool false,.int u8 1],.bool true]) [.dead,.dead,.dead,.row (aa 3
 (tls (ab (usaL c3)))) 72 4]else R (.tuple [.agg [.str h,.slice 3 0 (ab (usaL c3)).length false 0 0,.bool false,.bool false,.int u8 2],.bool
 true]) [.dead,.dead,.dead,.row (aa 3 (tls (ab (usaL c3)))) 72 4]else bif mo==2 then bif decide ((↑n3:Int)>0)then R (.tuple [.agg [.str h,
 .slice 3 0 (ab (usaL c3)).length false 0 0,.bool false,.bool false,.int u8 1],.bool true]) [.dead,.dead,.dead,.row (aa 3 (tls
 (ab (usaL c3)))) 72 4]else R (.tuple [.agg [.str h,.slice 3 0 (ab (usaL c3)).length false 0 0,.bool false,.bool false,.int u8 2],.bool true])
 [.dead,.dead,.dead,.row (aa 3 (tls (ab (usaL c3)))) 72 4]else bif decide ((↑n3:Int)>0)then R (.tuple [.agg [.str h,.slice 3 0 (ab
 (usaL c3)).length false 0 0,.bool false,.bool false,.int u8 1],.bool true]) [.dead,.dead,.dead,.row (aa 3 (tls (ab (usaL c3)))) 72
 4]else R (.tuple [.agg [.str h,.slice 3 0 (ab (usaL c3)).length false 0 0,.bool false,.bool false,.int u8 3],.bool true]) [.dead,.dead,
 .dead,.row (aa 3 (tls (ab (usaL c3)))) 72 4]else bif (↑(ab (usaL c3)).length:Int)==0 then bif decide ((↑n3:Int)>0)then bif mo==3 then bif
 decide ((↑n3:Int)>0)then R (.tuple [.agg [.str h,.slice 3 0 (ab (usaL c3)).length false 0 0,.bool true,.bool true,.int u8 1],.bool true])
 [.dead,.dead,.dead,.row (aa 3 (tls (ab (usaL c3)))) 72 4]else R (.tuple [.agg [.str h,.slice 3 0 (ab (usaL c3)).length false 0 0,.bool
 true,.bool true,.int u8 2],.bool true]) [.dead,.dead,.dead,.row (aa 3 (tls (ab (usaL c3)))) 72 4]else bif mo==2 then bif decide
 ((↑n3:Int)>0)then R (.tuple [.agg [.str h,.slice 3 0 (ab (usaL c3)).length false 0 0,.bool true,.bool true,.int u8 1],.bool true]) [.dead,
 .dead,.dead,.row (aa 3 (tls (ab (usaL c3)))) 72 4]else R (.tuple [.agg [.str h,.slice 3 0 (ab (usaL c3)).length false 0 0,.bool true,.bool
 true,.int u8 2],.bool true]) [.dead,.dead,.dead,.row (aa 3 (tls (ab (usaL c3)))) 72 4]else bif decide ((↑n3:Int)>0)then R (.tuple
 [.agg [.str h,.slice 3 0 (ab (usaL c3)).length false 0 0,.bool true,.bool true,.int u8 1],.bool true]) [.dead,.dead,.dead,.row
 (aa 3 (tls (ab (usaL c3)))) 72 4]else R (.tuple [.agg [.str h,.slice 3 0 (ab (usaL c3)).length false 0 0,.bool true,.bool true,.int u8 3],
 .bool true]) [.dead,.dead,.dead,.row (aa 3 (tls (ab (usaL c3)))) 72 4]else bif mo==3 then bif decide ((↑n3:Int)>0)then R (.tuple [.agg
 [.str h,.slice 3 0 (ab (usaL c3)).length false 0 0,.bool true,.bool true,.int u8 1],.bool true]) [.dead,.dead,.dead,.row (aa 3
 (tls (ab (usaL c3)))) 72 4]else R (.tuple [.agg [.str h,.slice 3 0 (ab (usaL c3)).length false 0 0,.bool true,.bool true,.int u8 2],.bool
 true]) [.dead,.dead,.dead,.row (aa 3 (tls (ab (usaL c3)))) 72 4]else bif mo==2 then bif decide ((↑n3:Int)>0)then R (.tuple [.agg [.str h,
 .slice 3 0 (ab (usaL c3)).length false 0 0,.bool true,.bool true,.int u8 1],.bool true]) [.dead,.dead,.dead,.row (aa 3 (tls (ab
 (usaL c3)))) 72 4]else R (.tuple [.agg [.str h,.slice 3 0 (ab (usaL c3)).length false 0 0,.bool true,.bool true,.int u8 2],.bool true])
 [.dead,.dead,.dead,.row (aa 3 (tls (ab (usaL c3)))) 72 4]else bif decide ((↑n3:Int)>0)then R (.tuple [.agg [.str h,.slice 3 0 (ab
 (usaL c3)).length false 0 0,.bool true,.bool true,.int u8 1],.bool true]) [.dead,.dead,.dead,.row (aa 3 (tls (ab (usaL c3)))) 72 4]
 else R (.tuple [.agg [.str h,.slice 3 0 (ab (usaL c3)).length false 0 0,.bool true,.bool true,.int u8 3],.bool true]) [.dead,.dead,
 .dead,.row (aa 3 (tls (ab (usaL c3)))) 72 4]else bif decide ((↑n3:Int)>0)then bif mo==3 then bif decide ((↑n3:Int)>0)then R (.tuple [.agg
 [.str h,.slice 3 0 (ab (usaL c3)).length false 0 0,.bool false,.bool true,.int u8 1],.bool true]) [.dead,.dead,.dead,.row (aa 3
 (tls (ab (usaL c3)))) 72 4]else R (.tuple [.agg [.str h,.slice 3 0 (ab (usaL c3)).length false 0 0,.bool false,.bool true,.int u8 2],.bool
 true]) [.dead,.dead,.dead,.row (aa 3 (tls (ab (usaL c3)))) 72 4]else bif mo==2 then bif decide ((↑n3:Int)>0)then R (.tuple [.agg [.str h,
 .slice 3 0 (ab (usaL c3)).length false 0 0,.bool false,.bool true,.int u8 1],.bool true]) [.dead,.dead,.dead,.row (aa 3 (tls (ab
 (usaL c3)))) 72 4]else R (.tuple [.agg [.str h,.slice 3 0 (ab (usaL c3)).length false 0 0,.bool false,.bool true,.int u8 2],.bool true])
 [.dead,.dead,.dead,.row (aa 3 (tls (ab (usaL c3)))) 72 4]else bif decide ((↑n3:Int)>0)then R (.tuple [.agg [.str h,.slice 3 0 (ab
 (usaL c3)).length false 0 0,.bool false,.bool true,.int u8 1],.bool true]) [.dead,.dead,.dead,.row (aa 3 (tls (ab (usaL c3)))) 72 4]
 else R (.tuple [.agg [.str h,.slice 3 0 (ab (usaL c3)).length false 0 0,.bool false,.bool true,.int u8 3],.bool true]) [.dead,.dead,
 .dead,.row (aa 3 (tls (ab (usaL c3)))) 72 4]else bif mo==3 then bif decide ((↑n3:Int)>0)then R (.tuple [.agg [.str h,.slice 3 0 (ab (usaL
 c3)).length false 0 0,.bool false,.bool false,.int u8 1],.bool true]) [.dead,.dead,.dead,.row (aa 3 (tls (ab (usaL c3)))) 72 4]else
 R (.tuple [.agg [.str h,.slice 3 0 (ab (usaL c3)).length false 0 0,.bool false,.bool false,.int u8 2],.bool true]) [.dead,.dead,.dead,
 .row (aa 3 (tls (ab (usaL c3)))) 72 4]else bif mo==2 then bif decide ((↑n3:Int)>0)then R (.tuple [.agg [.str h,.slice 3 0 (ab (usaL c3)).length
 false 0 0,.bool false,.bool false,.int u8 1],.bool true]) [.dead,.dead,.dead,.row (aa 3 (tls (ab (usaL c3)))) 72 4]else R (.tuple
 [.agg [.str h,.slice 3 0 (ab (usaL c3)).length false 0 0,.bool false,.bool false,.int u8 2],.bool true]) [.dead,.dead,.dead,.row
 (aa 3 (tls (ab (usaL c3)))) 72 4]else bif decide ((↑n3:Int)>0)then R (.tuple [.agg [.str h,.slice 3 0 (ab (usaL c3)).length false 0 0,.bool false,
 .bool false,.int u8 1],.bool true]) [.dead,.dead,.dead,.row (aa 3 (tls (ab (usaL c3)))) 72 4]else R (.tuple [.agg [.str h,.slice
 3 0 (ab (usaL c3)).length false 0 0,.bool false,.bool false,.int u8 3],.bool true]) [.dead,.dead,.dead,.row (aa 3 (tls (ab (usaL
 c3)))) 72 4]else False else bif !mx then bif mo==3 then bif okS n4 c4&&(lenA c4&&aF h)then bif !polM (List.map al c4) h then R (.tuple [.agg [.str [],
 .nilSlice,.bool false,.bool false,.int u8 0],.bool false]) [.dead,.dead,.dead]else bif decide ((↑n3:Int)>0)then bif mo==3 then bif
 decide ((↑n3:Int)>0)then R (.tuple [.agg [.str h,.nilSlice,.bool true,.bool true,.int u8 1],.bool true]) [.dead,.dead,.dead]else R
 (.tuple [.agg [.str h,.nilSlice,.bool true,.bool true,.int u8 2],.bool true]) [.dead,.dead,.dead]else bif mo==2 then bif decide ((↑n3:
 Int)>0)then R (.tuple [.agg [.str h,.nilSlice,.bool true,.bool true,.int u8 1],.bool true]) [.dead,.dead,.dead]else R (.tuple [.agg
 [.str h,.nilSlice,.bool true,.bool true,.int u8 2],.bool true]) [.dead,.dead,.dead]else bif decide ((↑n3:Int)>0)then R (.tuple [.agg
 [.str h,.nilSlice,.bool true,.bool true,.int u8 1],.bool true]) [.dead,.dead,.dead]else R (.tuple [.agg [.str h,.nilSlice,.bool
 true,.bool true,.int u8 3],.bool true]) [.dead,.dead,.dead]else bif mo==3 then bif decide ((↑n3:Int)>0)then R (.tuple [.agg [.str h,
 .nilSlice,.bool true,.bool true,.int u8 1],.bool true]) [.dead,.dead,.dead]else R (.tuple [.agg [.str h,.nilSlice,.bool true,.bool
 true,.int u8 2],.bool true]) [.dead,.dead,.dead]else bif mo==2 then bif decide ((↑n3:Int)>0)then R (.tuple [.agg [.str h,.nilSlice,
 .bool true,.bool true,.int u8 1],.bool true]) [.dead,.dead,.dead]else R (.tuple [.agg [.str h,.nilSlice,.bool true,.bool true,.int
 u8 2],.bool true]) [.dead,.dead,.dead]else bif decide ((↑n3:Int)>0)then R (.tuple [.agg [.str h,.nilSlice,.bool true,.bool true,.int
 u8 1],.bool true]) [.dead,.dead,.dead]else R (.tuple [.agg [.str h,.nilSlice,.bool true,.bool true,.int u8 3],.bool true])
 [.dead,.dead,.dead]else False else bif mo==2 then bif okS n4 c4&&(lenA c4&&aF h)then bif !polM (List.map al c4) h then R (.tuple [.agg [.str
 [],.nilSlice,.bool false,.bool false,.int u8 0],.bool false]) [.dead,.dead,.dead]else bif decide ((↑n3:Int)>0)then bif mo==3 then bif
 decide ((↑n3:Int)>0)then R (.tuple [.agg [.str h,.nilSlice,.bool true,.bool true,.int u8 1],.bool true]) [.dead,.dead,.dead]else R
 (.tuple [.agg [.str h,.nilSlice,.bool true,.bool true,.int u8 2],.bool true]) [.dead,.dead,.dead]else bif mo==2 then bif decide ((↑n3:
 Int)>0)then R (.tuple [.agg [.str h,.nilSlice,.bool true,.bool true,.int u8 1],.bool true]) [.dead,.dead,.dead]else R (.tuple [.agg
 [.str h,.nilSlice,.bool true,.bool true,.int u8 2],.bool true]) [.dead,.dead,.dead]else bif decide ((↑n3:Int)>0)then R (.tuple [.agg
 [.str h,.nilSlice,.bool true,.bool true,.int u8 1],.bool true]) [.dead,.dead,.dead]else R (.tuple [.agg [.str h,.nilSlice,.bool
 true,.bool true,.int u8 3],.bool true]) [.dead,.dead,.dead]else bif mo==3 then bif decide ((↑n3:Int)>0)then R (.tuple [.agg [.str h,
 .nilSlice,.bool true,.bool true,.int u8 1],.bool true]) [.dead,.dead,.dead]else R (.tuple [.agg [.str h,.nilSlice,.bool true,.bool
 true,.int u8 2],.bool true]) [.dead,.dead,.dead]else bif mo==2 then bif decide ((↑n3:Int)>0)then R (.tuple [.agg [.str h,.nilSlice,
 .bool true,.bool true,.int u8 1],.bool true]) [.dead,.dead,.dead]else R (.tuple [.agg [.str h,.nilSlice,.bool true,.bool true,.int
 u8 2],.bool true]) [.dead,.dead,.dead]else bif decide ((↑n3:Int)>0)then R (.tuple [.agg [.str h,.nilSlice,.bool true,.bool true,.int
 u8 1],.bool true]) [.dead,.dead,.dead]else R (.tuple [.agg [.str h,.nilSlice,.bool true,.bool true,.int u8 3],.bool true])
 [.dead,.dead,.dead]else False else R (.tuple [.agg [.str [],.nilSlice,.bool false,.bool false,.int u8 0],.bool false]) [.dead,
 .dead,.dead]else bif decide ((↑n3:Int)>0)then bif mo==3 then bif decide ((↑n3:Int)>0)then R (.tuple [.agg [.str h,.nilSlice,.bool true,.bool
 true,.int u8 1],.bool true]) [.dead,.dead,.dead]else R (.tuple [.agg [.str h,.nilSlice,.bool true,.bool true,.int u8 2],.bool
 true]) [.dead,.dead,.dead]else bif mo==2 then bif decide ((↑n3:Int)>0)then R (.tuple [.agg [.str h,.nilSlice,.bool true,.bool true,.int
 u8 1],.bool true]) [.dead,.dead,.dead]else R (.tuple [.agg [.str h,.nilSlice,.bool true,.bool true,.int u8 2],.bool true])
 [.dead,.dead,.dead]else bif decide ((↑n3:Int)>0)then R (.tuple [.agg [.str h,.nilSlice,.bool true,.bool true,.int u8 1],.bool true])
 [.dead,.dead,.dead]else R (.tuple [.agg [.str h,.nilSlice,.bool true,.bool true,.int u8 3],.bool true]) [.dead,.dead,.dead]
 else bif mo==3 then bif decide ((↑n3:Int)>0)then R (.tuple [.agg [.str h,.nilSlice,.bool true,.bool true,.int u8 1],.bool true]) [.dead,
 .dead,.dead]else R (.tuple [.agg [.str h,.nilSlice,.bool true,.bool true,.int u8 2],.bool true]) [.dead,.dead,.dead]else bif mo
 ==2 then bif decide ((↑n3:Int)>0)then R (.tuple [.agg [.str h,.nilSlice,.bool true,.bool true,.int u8 1],.bool true]) [.dead,.dead,
 .dead]else R (.tuple [.agg [.str h,.nilSlice,.bool true,.bool true,.int u8 2],.bool true]) [.dead,.dead,.dead]else bif decide ((↑n3:
 Int)>0)then R (.tuple [.agg [.str h,.nilSlice,.bool true,.bool true,.int u8 1],.bool true]) [.dead,.dead,.dead]else R (.tuple [.agg
 [.str h,.nilSlice,.bool true,.bool true,.int u8 3],.bool true]) [.dead,.dead,.dead]else bif !mx then bif mo==3 then bif okS n4 c4&&
 (lenA c4&&aF h)then bif !polM (List.map al c4) h then R (.tuple [.agg [.str [],.nilSlice,.bool false,.bool false,.int u8 0],.bool false])
 [.dead,.dead,.dead]else bif mo==3 then R (.tuple [.agg [.str h,.nilSlice,.bool true,.bool true,.int u8 2],.bool true]) [.dead,
 .dead,.dead]else bif mo==2 then R (.tuple [.agg [.str h,.nilSlice,.bool true,.bool true,.int u8 2],.bool true]) [.dead,.dead,
 .dead]else R (.tuple [.agg [.str h,.nilSlice,.bool true,.bool true,.int u8 3],.bool true]) [.dead,.dead,.dead]else False else bif mo
 ==2 then bif okS n4 c4&&(lenA c4&&aF h)then bif !polM (List.map al c4) h then R (.tuple [.agg [.str [],.nilSlice,.bool false,.bool false,.int
 u8 0],.bool false]) [.dead,.dead,.dead]else bif mo==3 then R (.tuple [.agg [.str h,.nilSlice,.bool true,.bool true,.int u8 2],
 .bool true]) [.dead,.dead,.dead]else bif mo==2 then R (.tuple [.agg [.str h,.nilSlice,.bool true,.bool true,.int u8 2],.bool true])
 [.dead,.dead,.dead]else R (.tuple [.agg [.str h,.nilSlice,.bool true,.bool true,.int u8 3],.bool true]) [.dead,.dead,.dead]
 else False else R (.tuple [.agg [.str [],.nilSlice,.bool false,.bool false,.int u8 0],.bool false]) [.dead,.dead,.dead]else bif mo==3
 then R (.tuple [.agg [.str h,.nilSlice,.bool true,.bool true,.int u8 2],.bool true]) [.dead,.dead,.dead]else bif mo==2 then R (.tuple
 [.agg [.str h,.nilSlice,.bool true,.bool true,.int u8 2],.bool true]) [.dead,.dead,.dead]else R (.tuple [.agg [.str h,.nilSlice,
 .bool true,.bool true,.int u8 3],.bool true]) [.dead,.dead,.dead]else bif !mx then bif mo==3 then bif okS n4 c4&&(lenA c4&&aF h)then
 bif !polM (List.map al c4) h then R (.tuple [.agg [.str [],.nilSlice,.bool false,.bool false,.int u8 0],.bool false]) [.dead,.dead,
 .dead]else bif mo==3 then R (.tuple [.agg [.str h,.nilSlice,.bool true,.bool true,.int u8 2],.bool true]) [.dead,.dead,.dead]else
 bif mo==2 then R (.tuple [.agg [.str h,.nilSlice,.bool true,.bool true,.int u8 2],.bool true]) [.dead,.dead,.dead]else R (.tuple
 [.agg [.str h,.nilSlice,.bool true,.bool true,.int u8 3],.bool true]) [.dead,.dead,.dead]else False else bif mo==2 then bif okS n4 c4&&
 (lenA c4&&aF h)then bif !polM (List.map al c4) h then R (.tuple [.agg [.str [],.nilSlice,.bool false,.bool false,.int u8 0],.bool false])
 [.dead,.dead,.dead]else bif mo==3 then R (.tuple [.agg [.str h,.nilSlice,.bool true,.bool true,.int u8 2],.bool true]) [.dead,
 .dead,.dead]else bif mo==2 then R (.tuple [.agg [.str h,.nilSlice,.bool true,.bool true,.int u8 2],.bool true]) [.dead,.dead,
 .dead]else R (.tuple [.agg [.str h,.nilSlice,.bool true,.bool true,.int u8 3],.bool true]) [.dead,.dead,.dead]else False else R
 (.tuple [.agg [.str [],.nilSlice,.bool false,.bool false,.int u8 0],.bool false]) [.dead,.dead,.dead]else bif mo==3 then R (.tuple
 [.agg [.str h,.nilSlice,.bool true,.bool true,.int u8 2],.bool true]) [.dead,.dead,.dead]else bif mo==2 then R (.tuple [.agg [.str h,
 .nilSlice,.bool true,.bool true,.int u8 2],.bool true]) [.dead,.dead,.dead]else R (.tuple [.agg [.str h,.nilSlice,.bool true,.bool
 true,.int u8 3],.bool true]) [.dead,.dead,.dead]):=by kernel_rfl
theorem rtl_110(h:List UInt8)(mx:Bool)(co:Int)(se:Bool)(x1:Value)(n1:Nat)(c1:List V)(x2:Value)(n2:Nat)(c2:List V)(x3:Value)(n3:Nat)(c3:List V)(mo:Int)(x4:Value)(n4:Nat)(c4:List V)(ag:Int)(R:V→St→Prop):runM Qq RTL0 9 10 25 [.agg [.bool true,.bool true,.str h,.bool mx,.int .u8 co,.bool se,.lst x1 n1 c1,.lst x2 n2 c2,.lst x3 n3 c3,.bool false,.int .u8 mo,.lst x4 n4 c4,.int .i64 ag]] (fun v st=>R v (vis v st))=
  (
 bif co==1 then bif se then bif decide ((↑n3:Int)>0)then bif okT n3 c3&&(tlD c3).all inU&&(ab (usaL c3)).length.beq 0 then bif !mx then R (.tuple [.agg
 [.str [],.nilSlice,.bool false,.bool false,.int u8 0],.bool false]) [.dead,.dead,.dead]else bif decide ((↑n3:Int)>0)then bif decide
 ((↑n3:Int)>0)then R (.tuple [.agg [.str h,.nilSlice,.bool true,.bool true,.int u8 1],.bool true]) [.dead,.dead,.dead]else R (.tuple
 [.agg [.str h,.nilSlice,.bool true,.bool true,.int u8 3],.bool true]) [.dead,.dead,.dead]else bif decide ((↑n3:Int)>0)then R (.tuple
 [.agg [.str h,.nilSlice,.bool true,.bool true,.int u8 1],.bool true]) [.dead,.dead,.dead]else R (.tuple [.agg [.str h,.nilSlice,
 .bool true,.bool true,.int u8 3],.bool true]) [.dead,.dead,.dead]else bif okT n3 c3&&(tlD c3).all inU then bif (↑(ab (usaL c3)).length:
 Int)==0 then bif !mx then R (.tuple [.agg [.str [],.nilSlice,.bool false,.bool false,.int u8 0],.bool false]) [.dead,.dead,.dead,
 .dead]else bif (↑(ab (usaL c3)).length:Int)==0 then bif decide ((↑n3:Int)>0)then bif decide ((↑n3:Int)>0)then R (.tuple [.agg [.str h,.slice 3 0
 (ab (usaL c3)).length false 0 0,.bool true,.bool true,.int u8 1],.bool true]) [.dead,.dead,.dead,.row (aa 3 (tls (ab (usaL c3))))
 72 4]else R (.tuple [.agg [.str h,.slice 3 0 (ab (usaL c3)).length false 0 0,.bool true,.bool true,.int u8 3],.bool true]) [.dead,.dead,
 .dead,.row (aa 3 (tls (ab (usaL c3)))) 72 4]else bif decide ((↑n3:Int)>0)then R (.tuple [.agg [.str h,.slice 3 0 (ab (usaL c3)).length false 0
 0,.bool true,.bool true,.int u8 1],.bool true]) [.dead,.dead,.dead,.row (aa 3 (tls (ab (usaL c3)))) 72 4]else R (.tuple [.agg
 [.str h,.slice 3 0 (ab (usaL c3)).length false 0 0,.bool true,.bool true,.int u8 3],.bool true]) [.dead,.dead,.dead,.row (aa 3
 (tls (ab (usaL c3)))) 72 4]else bif decide ((↑n3:Int)>0)then bif decide ((↑n3:Int)>0)then R (.tuple [.agg [.str h,.slice 3 0 (ab (usaL c3)).length
 false 0 0,.bool false,.bool true,.int u8 1],.bool true]) [.dead,.dead,.dead,.row (aa 3 (tls (ab (usaL c3)))) 72 4]else R (.tuple
 [.agg [.str h,.slice 3 0 (ab (usaL c3)).length false 0 0,.bool false,.bool true,.int u8 3],.bool true]) [.dead,.dead,.dead,.row
 (aa 3 (tls (ab (usaL c3)))) 72 4]else bif decide ((↑n3:Int)>0)then R (.tuple [.agg [.str h,.slice 3 0 (ab (usaL c3)).length false 0 0,.bool false,
 .bool false,.int u8 1],.bool true]) [.dead,.dead,.dead,.row (aa 3 (tls (ab (usaL c3)))) 72 4]else R (.tuple [.agg [.str h,.slice
 3 0 (ab (usaL c3)).length false 0 0,.bool false,.bool false,.int u8 3],.bool true]) [.dead,.dead,.dead,.row (aa 3 (tls (ab (usaL
 c3)))) 72 4]else bif (↑(ab (usaL c3)).length:Int)==0 then bif decide ((↑n3:Int)>0)then bif decide ((↑n3:Int)>0)then R (.tuple [.agg [.str h,.slice
 3 0 (ab (usaL c3)).length false 0 0,.bool true,.bool true,.int u8 1],.bool true]) [.dead,.dead,.dead,.row (aa 3 (tls (ab (usaL
 c3)))) 72 4]else R (.tuple [.agg [.str h,.slice 3 0 (ab (usaL c3)).length false 0 0,.bool true,.bool true,.int u8 3],.bool true]) [.dead,
 .dead,.dead,.row (aa 3 (tls (ab (usaL c3)))) 72 4]else bif decide ((↑n3:Int)>0)then R (.tuple [.agg [.str h,.slice 3 0 (ab (usaL
 c3)).length false 0 0,.bool true,.bool true,.int u8 1],.bool true]) [.dead,.dead,.dead,.row (aa 3 (tls (ab (usaL c3)))) 72 4]else R
 (.tuple [.agg [.str h,.slice 3 0 (ab (usaL c3)).length false 0 0,.bool true,.bool true,.int u8 3],.bool true]) [.dead,.dead,.dead,
 .row (aa 3 (tls (ab (usaL c3)))) 72 4]else bif decide ((↑n3:Int)>0)then bif decide ((↑n3:Int)>0)then R (.tuple [.agg [.str h,.slice 3 0 (ab
 (usaL c3)).length false 0 0,.bool false,.bool true,.int u8 1],.bool true]) [.dead,.dead,.dead,.row (aa 3 (tls (ab (usaL c3)))) 72 4]
 else R (.tuple [.agg [.str h,.slice 3 0 (ab (usaL c3)).length false 0 0,.bool false,.bool true,.int u8 3],.bool true]) [.dead,.dead,
 .dead,.row (aa 3 (tls (ab (usaL c3)))) 72 4]else bif decide ((↑n3:Int)>0)then R (.tuple [.agg [.str h,.slice 3 0 (ab (usaL c3)).length false 0
 0,.bool false,.bool false,.int u8 1],.bool true]) [.dead,.dead,.dead,.row (aa 3 (tls (ab (usaL c3)))) 72 4]else R (.tuple [.agg
 [.str h,.slice 3 0 (ab (usaL c3)).length false 0 0,.bool false,.bool false,.int u8 3],.bool true]) [.dead,.dead,.dead,.row (aa 3
 (tls (ab (usaL c3)))) 72 4]else False else bif !mx then R (.tuple [.agg [.str [],.nilSlice,.bool false,.bool false,.int u8 0],.bool false])
 [.dead,.dead,.dead]else bif decide ((↑n3:Int)>0)then bif decide ((↑n3:Int)>0)then R (.tuple [.agg [.str h,.nilSlice,.bool true,.bool true,
 .int u8 1],.bool true]) [.dead,.dead,.dead]else R (.tuple [.agg [.str h,.nilSlice,.bool true,.bool true,.int u8 3],.bool
 true]) [.dead,.dead,.dead]else bif decide ((↑n3:Int)>0)then R (.tuple [.agg [.str h,.nilSlice,.bool true,.bool true,.int u8 1],.bool
 true]) [.dead,.dead,.dead]else R (.tuple [.agg [.str h,.nilSlice,.bool true,.bool true,.int u8 3],.bool true]) [.dead,.dead,
 .dead]else bif !mx then R (.tuple [.agg [.str [],.nilSlice,.bool false,.bool false,.int u8 0],.bool false]) [.dead,.dead,.dead]else R
 (.tuple [.agg [.str h,.nilSlice,.bool true,.bool true,.int u8 3],.bool true]) [.dead,.dead,.dead]else bif !mx then R (.tuple [.agg
 [.str [],.nilSlice,.bool false,.bool false,.int u8 0],.bool false]) [.dead,.dead,.dead]else R (.tuple [.agg [.str h,.nilSlice,.bool
 true,.bool true,.int u8 3],.bool true]) [.dead,.dead,.dead]):=by kernel_rfl
theorem rtl_111(h:List UInt8)(mx:Bool)(co:Int)(se:Bool)(x1:Value)(n1:Nat)(c1:List V)(x2:Value)(n2:Nat)(c2:List V)(x3:Value)(n3:Nat)(c3:List V)(mo:Int)(x4:Value)(n4:Nat)(c4:List V)(ag:Int)(R:V→St→Prop):runM Qq RTL0 9 10 25 [.agg [.bool true,.bool true,.str h,.bool mx,.int .u8 co,.bool se,.lst x1 n1 c1,.lst x2 n2 c2,.lst x3 n3 c3,.bool true,.int .u8 mo,.lst x4 n4 c4,.int .i64 ag]] (fun v st=>R v (vis v st))=
  (
 bif co==1 then bif se then bif decide ((↑n3:Int)>0)then bif okT n3 c3&&(tlD c3).all inU&&(ab (usaL c3)).length.beq 0 then bif !mx then bif mo==3 then bif
 okS n4 c4&&(lenA c4&&aF h)then bif !polM (List.map al c4) h then R (.tuple [.agg [.str [],.nilSlice,.bool false,.bool false,.int u8 0],
 .bool false]) [.dead,.dead,.dead]else bif decide ((↑n3:Int)>0)then bif mo==3 then bif decide ((↑n3:Int)>0)then R (.tuple [.agg [.str h,
 .nilSlice,.bool true,.bool true,.int u8 1],.bool true]) [.dead,.dead,.dead]else R (.tuple [.agg [.str h,.nilSlice,.bool true,.bool
 true,.int u8 2],.bool true]) [.dead,.dead,.dead]else bif mo==2 then bif decide ((↑n3:Int)>0)then R (.tuple [.agg [.str h,.nilSlice,
 .bool true,.bool true,.int u8 1],.bool true]) [.dead,.dead,.dead]else R (.tuple [.agg [.str h,.nilSlice,.bool true,.bool true,.int
 u8 2],.bool true]) [.dead,.dead,.dead]else bif decide ((↑n3:Int)>0)then R (.tuple [.agg [.str h,.nilSlice,.bool true,.bool true,.int
 u8 1],.bool true]) [.dead,.dead,.dead]else R (.tuple [.agg [.str h,.nilSlice,.bool true,.bool true,.int u8 3],.bool true])
 [.dead,.dead,.dead]else bif mo==3 then bif decide ((↑n3:Int)>0)then R (.tuple [.agg [.str h,.nilSlice,.bool true,.bool true,.int u8
 1],.bool true]) [.dead,.dead,.dead]else R (.tuple [.agg [.str h,.nilSlice,.bool true,.bool true,.int u8 2],.bool true]) [.dead,
 .dead,.dead]else bif mo==2 then bif decide ((↑n3:Int)>0)then R (.tuple [.agg [.str h,.nilSlice,.bool true,.bool true,.int u8 1],.bool
 true]) [.dead,.dead,.dead]else R (.tuple [.agg [.str h,.nilSlice,.bool true,.bool true,.int u8 2],.bool true]) [.dead,.dead,
 .dead]else bif decide ((↑n3:Int)>0)then R (.tuple [.agg [.str h,.nilSlice,.bool true,.bool true,.int u8 1],.bool true]) [.dead,.dead,
 .dead]else R (.tuple [.agg [.str h,.nilSlice,.bool true,.bool true,.int u8 3],.bool true]) [.dead,.dead,.dead]else False else bif mo
 ==2 then bif okS n4 c4&&(lenA c4&&aF h)then bif !polM (List.map al c4) h then R (.tuple [.agg [.str [],.nilSlice,.bool false,.bool false,.int
 u8 0],.bool false]) [.dead,.dead,.dead]else bif decide ((↑n3:Int)>0)then bif mo==3 then bif decide ((↑n3:Int)>0)then R (.tuple [.agg
 [.str h,.nilSlice,.bool true,.bool true,.int u8 1],.bool true]) [.dead,.dead,.dead]else R (.tuple [.agg [.str h,.nilSlice,.bool
 true,.bool true,.int u8 2],.bool true]) [.dead,.dead,.dead]else bif mo==2 then bif decide ((↑n3:Int)>0)then R (.tuple [.agg [.str h,
 .nilSlice,.bool true,.bool true,.int u8 1],.bool true]) [.dead,.dead,.dead]else R (.tuple [.agg [.str h,.nilSlice,.bool true,.bool
 true,.int u8 2],.bool true]) [.dead,.dead,.dead]else bif decide ((↑n3:Int)>0)then R (.tuple [.agg [.str h,.nilSlice,.bool true,.bool
 true,.int u8 1],.bool true]) [.dead,.dead,.dead]else R (.tuple [.agg [.str h,.nilSlice,.bool true,.bool true,.int u8 3],.bool
 true]) [.dead,.dead,.dead]else bif mo==3 then bif decide ((↑n3:Int)>0)then R (.tuple [.agg [.str h,.nilSlice,.bool true,.bool true,.int
 u8 1],.bool true]) [.dead,.dead,.dead]else R (.tuple [.agg [.str h,.nilSlice,.bool true,.bool true,.int u8 2],.bool true])
 [.dead,.dead,.dead]else bif mo==2 then bif decide ((↑n3:Int)>0)then R (.tuple [.agg [.str h,.nilSlice,.bool true,.bool true,.int u8
 1],.bool true]) [.dead,.dead,.dead]else R (.tuple [.agg [.str h,.nilSlice,.bool true,.bool true,.int u8 2],.bool true]) [.dead,
 .dead,.dead]else bif decide ((↑n3:Int)>0)then R (.tuple [.agg [.str h,.nilSlice,.bool true,.bool true,.int u8 1],.bool true]) [.dead,
 .dead,.dead]else R (.tuple [.agg [.str h,.nilSlice,.bool true,.bool true,.int u8 3],.bool true]) [.dead,.dead,.dead]else False
 else R (.tuple [.agg [.str [],.nilSlice,.bool false,.bool false,.int u8 0],.bool false]) [.dead,.dead,.dead]else bif decide ((↑n3:Int)
 >0)then bif mo==3 then bif decide ((↑n3:Int)>0)then R (.tuple [.agg [.str h,.nilSlice,.bool true,.bool true,.int u8 1],.bool true])
 [.dead,.dead,.dead]else R (.tuple [.agg [.str h,.nilSlice,.bool true,.bool true,.int u8 2],.bool true]) [.dead,.dead,.dead]
 else bif mo==2 then bif decide ((↑n3:Int)>0)then R (.tuple [.agg [.str h,.nilSlice,.bool true,.bool true,.int u8 1],.bool true]) [.dead,
 .dead,.dead]else R (.tuple [.agg [.str h,.nilSlice,.bool true,.bool true,.int u8 2],.bool true]) [.dead,.dead,.dead]else bif
 decide ((↑n3:Int)>0)then R (.tuple [.agg [.str h,.nilSlice,.bool true,.bool true,.int u8 1],.bool true]) [.dead,.dead,.dead]else R
 (.tuple [.agg [.str h,.nilSlice,.bool true,.bool true,.int u8 3],.bool true]) [.dead,.dead,.dead]else bif mo==3 then bif decide ((↑n3:
 Int)>0)then R (.tuple [.agg [.str h,.nilSlice,.bool true,.bool true,.int u8 1],.bool true]) [.dead,.dead,.dead]else R (.tuple [.agg
 [.str h,.nilSlice,.bool true,.bool true,.int u8 2],.bool true]) [.dead,.dead,.dead]else bif mo==2 then bif decide ((↑n3:Int)>0)then
 R (.tuple [.agg [.str h,.nilSlice,.bool true,.bool true,.int u8 1],.bool true]) [.dead,.dead,.dead]else R (.tuple [.agg [.str h,
 .nilSlice,.bool true,.bool true,.int u8 2],.bool true]) [.dead,.dead,.dead]else bif decide ((↑n3:Int)>0)then R (.tuple [.agg [.str h,
 .nilSlice,.bool true,.bool true,.int u8 1],.bool true]) [.dead,.dead,.dead]else R (.tuple [.agg [.str h,.nilSlice,.bool true,.bool
 true,.int u8 3],.bool true]) [.dead,.dead,.dead]else bif okT n3 c3&&(tlD c3).all inU then bif (↑(ab (usaL c3)).length:Int)==0 then bif
 !mx then bif mo==3 then bif okS n4 c4&&(lenA c4&&aF h)then bif !polM (List.map al c4) h then R (.tuple [.agg [.str [],.nilSlice,.bool false,.bool
 false,.int u8 0],.bool false]) [.dead,.dead,.dead,.dead]else bif (↑(ab (usaL c3)).length:Int)==0 then bif decide ((↑n3:Int)>0)then
 bif mo==3 then bif decide ((↑n3:Int)>0)then R (.tuple [.agg [.str h,.slice 3 0 (ab (usaL c3)).length false 0 0,.bool true,.bool true,.int u8
 1],.bool true]) [.dead,.dead,.dead,.row (aa 3 (tls (ab (usaL c3)))) 72 4]else R (.tuple [.agg [.str h,.slice 3 0 (ab (usaL c3)).length
 false 0 0,.bool true,.bool true,.int u8 2],.bool true]) [.dead,.dead,.dead,.row (aa 3 (tls (ab (usaL c3)))) 72 4]else bif mo==2
 then bif decide ((↑n3:Int)>0)then R (.tuple [.agg [.str h,.slice 3 0 (ab (usaL c3)).length false 0 0,.bool true,.bool true,.int u8 1],.bool
 true]) [.dead,.dead,.dead,.row (aa 3 (tls (ab (usaL c3)))) 72 4]else R (.tuple [.agg [.str h,.slice 3 0 (ab (usaL c3)).length false 0 0,
 .bool true,.bool true,.int u8 2],.bool true]) [.dead,.dead,.dead,.row (aa 3 (tls (ab (usaL c3)))) 72 4]else bif decide ((↑n3:Int)
 >0)then R (.tuple [.agg [.str h,.slice 3 0 (ab (usaL c3)).length false 0 0,.bool true,.bool true,.int u8 1],.bool true]) [.dead,.dead,
 .dead,.row (aa 3 (tls (ab (usaL c3)))) 72 4]else R (.tuple [.agg [.str h,.slice 3 0 (ab (usaL c3)).length false 0 0,.bool true,.bool true,
 .int u8 3],.bool true]) [.dead,.dead,.dead,.row (aa 3 (tls (ab (usaL c3)))) 72 4]else bif mo==3 then bif decide ((↑n3:Int)>0)then
 R (.tuple [.agg [.str h,.slice 3 0 (ab (usaL c3)).length false 0 0,.bool true,.bool true,.int u8 1],.bool true]) [.dead,.dead,.dead,
 .row (aa 3 (tls (ab (usaL c3)))) 72 4]else R (.tuple [.agg [.str h,.slice 3 0 (ab (usaL c3)).length false 0 0,.bool true,.bool true,.int
 u8 2],.bool true]) [.dead,.dead,.dead,.row (aa 3 (tls (ab (usaL c3)))) 72 4]else bif mo==2 then bif decide ((↑n3:Int)>0)then R
 (.tuple [.agg [.str h,.slice 3 0 (ab (usaL c3)).length false 0 0,.bool true,.bool true,.int u8 1],.bool true]) [.dead,.dead,.dead,
 .row (aa 3 (tls (ab (usaL c3)))) 72 4]else R (.tuple [.agg [.str h,.slice 3 0 (ab (usaL c3)).length false 0 0,.bool true,.bool true,.int
 u8 2],.bool true]) [.dead,.dead,.dead,.row (aa 3 (tls (ab (usaL c3)))) 72 4]else bif decide ((↑n3:Int)>0)then R (.tuple [.agg
 [.str h,.slice 3 0 (ab (usaL c3)).length false 0 0,.bool true,.bool true,.int u8 1],.bool true]) [.dead,.dead,.dead,.row (aa 3
 (tls (ab (usaL c3)))) 72 4]else R (.tuple [.agg [.str h,.slice 3 0 (ab (usaL c3)).length false 0 0,.bool true,.bool true,.int u8 3],.bool
 true]) [.dead,.dead,.dead,.row (aa 3 (tls (ab (usaL c3)))) 72 4]else bif decide ((↑n3:Int)>0)then bif mo==3 then bif decide ((↑n3:Int)>
 0)then R (.tuple [.agg [.str h,.slice 3 0 (ab (usaL c3)).length false 0 0,.bool false,.bool true,.int u8 1],.bool true]) [.dead,.dead,
 .dead,.row (aa 3 (tls (ab (usaL c3)))) 72 4]else R (.tuple [.agg [.str h,.slice 3 0 (ab (usaL c3)).length false 0 0,.bool false,.bool true,
 .int u8 2],.bool true]) [.dead,.dead,.dead,.row (aa 3 (tls (ab (usaL c3)))) 72 4]else bif mo==2 then bif decide ((↑n3:Int)>0)then
 R (.tuple [.agg [.str h,.slice 3 0 (ab (usaL c3)).length false 0 0,.bool false,.bool true,.int u8 1],.bool true]) [.dead,.dead,.dead,
 .row (aa 3 (tls (ab (usaL c3)))) 72 4]else R (.tuple [.agg [.str h,.slice 3 0 (ab (usaL c3)).length false 0 0,.bool false,.bool true,.int
 u8 2],.bool true]) [.dead,.dead,.dead,.row (aa 3 (tls (ab (usaL c3)))) 72 4]else bif decide ((↑n3:Int)>0)then R (.tuple [.agg
 [.str h,.slice 3 0 (ab (usaL c3)).length false 0 0,.bool false,.bool true,.int u8 1],.bool true]) [.dead,.dead,.dead,.row (aa 3
 (tls (ab (usaL c3)))) 72 4]else R (.tuple [.agg [.str h,.slice 3 0 (ab (usaL c3)).length false 0 0,.bool false,.bool true,.int u8 3],.bool
 true]) [.dead,.dead,.dead,.row (aa 3 (tls (ab (usaL c3)))) 72 4]else bif mo==3 then bif decide ((↑n3:Int)>0)then R (.tuple [.agg [.str h,
 .slice 3 0 (ab (usaL c3)).length false 0 0,.bool false,.bool false,.int u8 1],.bool true]) [.dead,.dead,.dead,.row (aa 3 (tls
 (ab (usaL c3)))) 72 4]else R (.tuple [.agg [.str h,.slice 3 0 (ab (usaL c3)).length false 0 0,.bool false,.bool false,.int u8 2],.bool true])
 [.dead,.dead,.dead,.row (aa 3 (tls (ab (usaL c3)))) 72 4]else bif mo==2 then bif decide ((↑n3:Int)>0)then R (.tuple [.agg [.str h,
 .slice 3 0 (ab (usaL c3)).length false 0 0,.bool false,.bool false,.int u8 1],.bool true]) [.dead,.dead,.dead,.row (aa 3 (tls
 (ab (usaL c3)))) 72 4]else R (.tuple [.agg [.str h,.slice 3 0 (ab (usaL c3)).length false 0 0,.bool false,.bool false,.int u8 2],.bool true])
 [.dead,.dead,.dead,.row (aa 3 (tls (ab (usaL c3)))) 72 4]else bif decide ((↑n3:Int)>0)then R (.tuple [.agg [.str h,.slice 3 0 (ab
 (usaL c3)).length false 0 0,.bool false,.bool false,.int u8 1],.bool true]) [.dead,.dead,.dead,.row (aa 3 (tls (ab (usaL c3)))) 72
 4]else R (.tuple [.agg [.str h,.slice 3 0 (ab (usaL c3)).length false 0 0,.bool false,.bool false,.int u8 3],.bool true]) [.dead,.dead,
 .dead,.row (aa 3 (tls (ab (usaL c3)))) 72 4]else False else bif mo==2 then bif okS n4 c4&&(lenA c4&&aF h)then bif !polM (List.map al c4) h
 then R (.tuple [.agg [.str [],.nilSlice,.bool false,.bool false,.int u8 0],.bool false]) [.dead,.dead,.dead,.dead]else bif (↑(ab
 (usaL c3)).length:Int)==0 then bif decide ((↑n3:Int)>0)then bif mo==3 then bif decide ((↑n3:Int)>0)then R (.tuple [.agg [.str h,.slice 3 0 (ab
 (usaL c3)).length false 0 0,.bool true,.bool true,.int u8 1],.bool true]) [.dead,.dead,.dead,.row (aa 3 (tls (ab (usaL c3)))) 72 4]
 else R (.tuple [.agg [.str h,.slice 3 0 (ab (usaL c3)).length false 0 0,.bool true,.bool true,.int u8 2],.bool true]) [.dead,.dead,
 .dead,.row (aa 3 (tls (ab (usaL c3)))) 72 4]else bif mo==2 then bif decide ((↑n3:Int)>0)then R (.tuple [.agg [.str h,.slice 3 0 (ab (usaL
 c3)).length false 0 0,.bool true,.bool true,.int u8 1],.bool true]) [.dead,.dead,.dead,.row (aa 3 (tls (ab (usaL c3)))) 72 4]else R
 (.tuple [.agg [.str h,.slice 3 0 (ab (usaL c3)).length false 0 0,.bool true,.bool true,.int u8 2],.bool true]) [.dead,.dead,.dead,
 .row (aa 3 (tls (ab (usaL c3)))) 72 4]else bif decide ((↑n3:Int)>0)then R (.tuple [.agg [.str h,.slice 3 0 (ab (usaL c3)).length false 0 0,.bool
 true,.bool true,.int u8 1],.bool true]) [.dead,.dead,.dead,.row (aa 3 (tls (ab (usaL c3)))) 72 4]else R (.tuple [.agg [.str h,
 .slice 3 0 (ab (usaL c3)).length false 0 0,.bool true,.bool true,.int u8 3],.bool true]) [.dead,.dead,.dead,.row (aa 3 (tls (ab
 (usaL c3)))) 72 4]else bif mo==3 then bif decide ((↑n3:Int)>0)then R (.tuple [.agg [.str h,.slice 3 0 (ab (usaL c3)).length false 0 0,.bool true,.bool
 true,.int u8 1],.bool true]) [.dead,.dead,.dead,.row (aa 3 (tls (ab (usaL c3)))) 72 4]else R (.tuple [.agg [.str h,.slice 3 0
 (ab (usaL c3)).length false 0 0,.bool true,.bool true,.int u8 2],.bool true]) [.dead,.dead,.dead,.row (aa 3 (tls (ab (usaL c3))))
 72 4]else bif mo==2 then bif decide ((↑n3:Int)>0)then R (.tuple [.agg [.str h,.slice 3 0 (ab (usaL c3)).length false 0 0,.bool true,.bool true,.int
 u8 1],.bool true]) [.dead,.dead,.dead,.row (aa 3 (tls (ab (usaL c3)))) 72 4]else R (.tuple [.agg [.str h,.slice 3 0 (ab (usaL
 c3)).length false 0 0,.bool true,.bool true,.int u8 2],.bool true]) [.dead,.dead,.dead,.row (aa 3 (tls (ab (usaL c3)))) 72 4]else
 bif decide ((↑n3:Int)>0)then R (.tuple [.agg [.str h,.slice 3 0 (ab (usaL c3)).length false 0 0,.bool true,.bool true,.int u8 1],.bool true])
 [.dead,.dead,.dead,.row (aa 3 (tls (ab (usaL c3)))) 72 4]else R (.tuple [.agg [.str h,.slice 3 0 (ab (usaL c3)).length false 0 0,.bool
 true,.bool true,.int u8 3],.bool true]) [.dead,.dead,.dead,.row (aa 3 (tls (ab (usaL c3)))) 72 4]else bif decide ((↑n3:Int)>0)
 then bif mo==3 then bif decide ((↑n3:Int)>0)then R (.tuple [.agg [.str h,.slice 3 0 (ab (usaL c3)).length false 0 0,.bool false,.bool true,.int
 u8 1],.bool true]) [.dead,.dead,.dead,.row (aa 3 (tls (ab (usaL c3)))) 72 4]else R (.tuple [.agg [.str h,.slice 3 0 (ab (usaL
 c3)).length false 0 0,.bool false,.bool true,.int u8 2],.bool true]) [.dead,.dead,.dead,.row (aa 3 (tls (ab (usaL c3)))) 72 4]else
 bif mo==2 then bif decide ((↑n3:Int)>0)then R (.tuple [.agg [.str h,.slice 3 0 (ab (usaL c3)).length false 0 0,.bool false,.bool true,.int u8
 1],.bool true]) [.dead,.dead,.dead,.row (aa 3 (tls (ab (usaL c3)))) 72 4]else R (.tuple [.agg [.str h,.slice 3 0 (ab (usaL c3)).length
 false 0 0,.bool false,.bool true,.int u8 2],.bool true]) [.dead,.dead,.dead,.row (aa 3 (tls (ab (usaL c3)))) 72 4]else bif decide
 ((↑n3:Int)>0)then R (.tuple [.agg [.str h,.slice 3 0 (ab (usaL c3)).length false 0 0,.bool false,.bool true,.int u8 1],.bool true])
 [.dead,.dead,.dead,.row (aa 3 (tls (ab (usaL c3)))) 72 4]else R (.tuple [.agg [.str h,.slice 3 0 (ab (usaL c3)).length false 0 0,.bool
 false,.bool true,.int u8 3],.bool true]) [.dead,.dead,.dead,.row (aa 3 (tls (ab (usaL c3)))) 72 4]else bif mo==3 then bif decide
 ((↑n3:Int)>0)then R (.tuple [.agg [.str h,.slice 3 0 (ab (usaL c3)).length false 0 0,.bool false,.bool false,.int u8 1],.bool true])
 [.dead,.dead,.dead,.row (aa 3 (tls (ab (usaL c3)))) 72 4]else R (.tuple [.agg [.str h,.slice 3 0 (ab (usaL c3)).length false 0 0,.bool
 false,.bool false,.int u8 2],.bool true]) [.dead,.dead,.dead,.row (aa 3 (tls (ab (usaL c3)))) 72 4]else bif mo==2 then bif decide
 ((↑n3:Int)>0)then R (.tuple [.agg [.str h,.slice 3 0 (ab (usaL c3)).length false 0 0,.bool false,.bool false,.int u8 1],.bool true])
 [.dead,.dead,.dead,.row (aa 3 (tls (ab (usaL c3)))) 72 4]else R (.tuple [.agg [.str h,.slice 3 0 (ab (usaL c3)).length false 0 0,.bool
 false,.bool false,.int u8 2],.bool true]) [.dead,.dead,.dead,.row (aa 3 (tls (ab (usaL c3)))) 72 4]else bif decide ((↑n3:Int)>0)
 then R (.tuple [.agg [.str h,.slice 3 0 (ab (usaL c3)).length false 0 0,.bool false,.bool false,.int u8 1],.bool true]) [.dead,.dead,
 .dead,.row (aa 3 (tls (ab (usaL c3)))) 72 4]else R (.tuple [.agg [.str h,.slice 3 0 (ab (usaL c3)).length false 0 0,.bool false,.bool false,
 .int u8 3],.bool true]) [.dead,.dead,.dead,.row (aa 3 (tls (ab (usaL c3)))) 72 4]else False else R (.tuple [.agg [.str [],
 .nilSlice,.bool false,.bool false,.int u8 0],.bool false]) [.dead,.dead,.dead,.dead]else bif (↑(ab (usaL c3)).length:Int)==0 then
 bif decide ((↑n3:Int)>0)then bif mo==3 then bif decide ((↑n3:Int)>0)then R (.tuple [.agg [.str h,.slice 3 0 (ab (usaL c3)).length false 0 0,.bool
 true,.bool true,.int u8 1],.bool true]) [.dead,.dead,.dead,.row (aa 3 (tls (ab (usaL c3)))) 72 4]else R (.tuple [.agg [.str h,
 .slice 3 0 (ab (usaL c3)).length false 0 0,.bool true,.bool true,.int u8 2],.bool true]) [.dead,.dead,.dead,.row (aa 3 (tls (ab
 (usaL c3)))) 72 4]else bif mo==2 then bif decide ((↑n3:Int)>0)then R (.tuple [.agg [.str h,.slice 3 0 (ab (usaL c3)).length false 0 0,.bool true,.bool
 true,.int u8 1],.bool true]) [.dead,.dead,.dead,.row (aa 3 (tls (ab (usaL c3)))) 72 4]else R (.tuple [.agg [.str h,.slice 3 0
 (ab (usaL c3)).length false 0 0,.bool true,.bool true,.int u8 2],.bool true]) [.dead,.dead,.dead,.row (aa 3 (tls (ab (usaL c3))))
 72 4]else bif decide ((↑n3:Int)>0)then R (.tuple [.agg [.str h,.slice 3 0 (ab (usaL c3)).length false 0 0,.bool true,.bool true,.int u8 1],
 .bool true]) [.dead,.dead,.dead,.row (aa 3 (tls (ab (usaL c3)))) 72 4]else R (.tuple [.agg [.str h,.slice 3 0 (ab (usaL c3)).length false
 0 0,.bool true,.bool true,.int u8 3],.bool true]) [.dead,.dead,.dead,.row (aa 3 (tls (ab (usaL c3)))) 72 4]else bif mo==3 then
 bif decide ((↑n3:Int)>0)then R (.tuple [.agg [.str h,.slice 3 0 (ab (usaL c3)).length false 0 0,.bool true,.bool true,.int u8 1],.bool true])
 [.dead,.dead,.dead,.row (aa 3 (tls (ab (usaL c3)))) 72 4]else R (.tuple [.agg [.str h,.slice 3 0 (ab (usaL c3)).length false 0 0,.bool
 true,.bool true,.int u8 2],.bool true]) [.dead,.dead,.dead,.row (aa 3 (tls (ab (usaL c3)))) 72 4]else bif mo==2 then bif decide
 ((↑n3:Int)>0)then R (.tuple [.agg [.str h,.slice 3 0 (ab (usaL c3)).length false 0 0,.bool true,.bool true,.int u8 1],.bool true]) [.dead,
 .dead,.dead,.row (aa 3 (tls (ab (usaL c3)))) 72 4]else R (.tuple [.agg [.str h,.slice 3 0 (ab (usaL c3)).length false 0 0,.bool true,.bool
 true,.int u8 2],.bool true]) [.dead,.dead,.dead,.row (aa 3 (tls (ab (usaL c3)))) 72 4]else bif decide ((↑n3:Int)>0)then R (.tuple
 [.agg [.str h,.slice 3 0 (ab (usaL c3)).length false 0 0,.bool true,.bool true,.int u8 1],.bool true]) [.dead,.dead,.dead,.row
 (aa 3 (tls (ab (usaL c3)))) 72 4]else R (.tuple [.agg [.str h,.slice 3 0 (ab (usaL c3)).length false 0 0,.bool true,.bool true,.int u8 3],
 .bool true]) [.dead,.dead,.dead,.row (aa 3 (tls (ab (usaL c3)))) 72 4]else bif decide ((↑n3:Int)>0)then bif mo==3 then bif decide ((↑n3:
 Int)>0)then R (.tuple [.agg [.str h,.slice 3 0 (ab (usaL c3)).length false 0 0,.bool false,.bool true,.int u8 1],.bool true]) [.dead,
 .dead,.dead,.row (aa 3 (tls (ab (usaL c3)))) 72 4]else R (.tuple [.agg [.str h,.slice 3 0 (ab (usaL c3)).length false 0 0,.bool false,.bool
 true,.int u8 2],.bool true]) [.dead,.dead,.dead,.row (aa 3 (tls (ab (usaL c3)))) 72 4]else bif mo==2 then bif decide ((↑n3:Int)>
 0)then R (.tuple [.agg [.str h,.slice 3 0 (ab (usaL c3)).length false 0 0,.bool false,.bool true,.int u8 1],.bool true]) [.dead,.dead,
 .dead,.row (aa 3 (tls (ab (usaL c3)))) 72 4]else R (.tuple [.agg [.str h,.slice 3 0 (ab (usaL c3)).length false 0 0,.bool false,.bool true,
 .int u8 2],.bool true]) [.dead,.dead,.dead,.row (aa 3 (tls (ab (usaL c3)))) 72 4]else bif decide ((↑n3:Int)>0)then R (.tuple
 [.agg [.str h,.slice 3 0 (ab (usaL c3)).length false 0 0,.bool false,.bool true,.int u8 1],.bool true]) [.dead,.dead,.dead,.row
 (aa 3 (tls (ab (usaL c3)))) 72 4]else R (.tuple [.agg [.str h,.slice 3 0 (ab (usaL c3)).length false 0 0,.bool false,.bool true,.int u8 3],
 .bool true]) [.dead,.dead,.dead,.row (aa 3 (tls (ab (usaL c3)))) 72 4]else bif mo==3 then bif decide ((↑n3:Int)>0)then R (.tuple [.agg
 [.str h,.slice 3 0 (ab (usaL c3)).length false 0 0,.bool false,.bool false,.int u8 1],.bool true]) [.dead,.dead,.dead,.row (aa 3
 (tls (ab (usaL c3)))) 72 4]else R (.tuple [.agg [.str h,.slice 3 0 (ab (usaL c3)).length false 0 0,.bool false,.bool false,.int u8 2],.bool
 true]) [.dead,.dead,.dead,.row (aa 3 (tls (ab (usaL c3)))) 72 4]else bif mo==2 then bif decide ((↑n3:Int)>0)then R (.tuple [.agg [.str h,
 .slice 3 0 (ab (usaL c3)).length false 0 0,.bool false,.bool false,.int u8 1],.bool true]) [.dead,.dead,.dead,.row (aa 3 (tls
 (ab (usaL c3)))) 72 4]else R (.tuple [.agg [.str h,.slice 3 0 (ab (usaL c3)).length false 0 0,.bool false,.bool false,.int u8 2],.bool true])
 [.dead,.dead,.dead,.row (aa 3 (tls (ab (usaL c3)))) 72 4]else bif decide ((↑n3:Int)>0)then R (.tuple [.agg [.str h,.slice 3 0 (ab
 (usaL c3)).length false 0 0,.bool false,.bool false,.int u8 1],.bool true]) [.dead,.dead,.dead,.row (aa 3 (tls (ab (usaL c3)))) 72
 4]else R (.tuple [.agg [.str h,.slice 3 0 (ab (usaL c3)).length false 0 0,.bool false,.bool false,.int u8 3],.bool true]) [.dead,.dead,
 .dead,.row (aa 3 (tls (ab (usaL c3)))) 72 4]else bif (↑(ab (usaL c3)).length:Int)==0 then bif decide ((↑n3:Int)>0)then bif mo==3 then bif
 decide ((↑n3:Int)>0)then R (.tuple [.agg [.str h,.slice 3 0 (ab (usaL c3)).length false 0 0,.bool true,.bool true,.int u8 1],.bool true])
 [.dead,.dead,.dead,.row (aa 3 (tls (ab (usaL c3)))) 72 4]else R (.tuple [.agg [.str h,.slice 3 0 (ab (usaL c3)).length false 0 0,.bool
 true,.bool true,.int u8 2],.bool true]) [.dead,.dead,.dead,.row (aa 3 (tls (ab (usaL c3)))) 72 4]else bif mo==2 then bif decide
 ((↑n3:Int)>0)then R (.tuple [.agg [.str h,.slice 3 0 (ab (usaL c3)).length false 0 0,.bool true,.bool true,.int u8 1],.bool true]) [.dead,
 .dead,.dead,.row (aa 3 (tls (ab (usaL c3)))) 72 4]else R (.tuple [.agg [.str h,.slice 3 0 (ab (usaL c3)).length false 0 0,.bool true,.bool
 true,.int u8 2],.bool true]) [.dead,.dead,.dead,.row (aa 3 (tls (ab (usaL c3)))) 72 4]else bif decide ((↑n3:Int)>0)then R (.tuple
 [.agg [.str h,.slice 3 0 (ab (usaL c3)).length false 0 0,.bool true,.bool true,.int u8 1],.bool true]) [.dead,.dead,.dead,.row
 (aa 3 (tls (ab (usaL c3)))) 72 4]else R (.tuple [.agg [.str h,.slice 3 0 (ab (usaL c3)).length false 0 0,.bool true,.bool true,.int u8 3],
 .bool true]) [.dead,.dead,.dead,.row (aa 3 (tls (ab (usaL c3)))) 72 4]else bif mo==3 then bif decide ((↑n3:Int)>0)then R (.tuple [.agg
 [.str h,.slice 3 0 (ab (usaL c3)).length false 0 0,.bool true,.bool true,.int u8 1],.bool true]) [.dead,.dead,.dead,.row (aa 3
 (tls (ab (usaL c3)))) 72 4]else R (.tuple [.agg [.str h,.slice 3 0 (ab (usaL c3)).length false 0 0,.bool true,.bool true,.int u8 2],.bool
 true]) [.dead,.dead,.dead,.row (aa 3 (tls (ab (usaL c3)))) 72 4]else bif mo==2 then bif decide ((↑n3:Int)>0)then R (.tuple [.agg [.str h,
 .slice 3 0 (ab (usaL c3)).length false 0 0,.bool true,.bool true,.int u8 1],.bool true]) [.dead,.dead,.dead,.row (aa 3 (tls (ab
 (usaL c3)))) 72 4]else R (.tuple [.agg [.str h,.slice 3 0 (ab (usaL c3)).length false 0 0,.bool true,.bool true,.int u8 2],.bool true])
 [.dead,.dead,.dead,.row (aa 3 (tls (ab (usaL c3)))) 72 4]else bif decide ((↑n3:Int)>0)then R (.tuple [.agg [.str h,.slice 3 0 (ab
 (usaL c3)).length false 0 0,.bool true,.bool true,.int u8 1],.bool true]) [.dead,.dead,.dead,.row (aa 3 (tls (ab (usaL c3)))) 72 4]
 else R (.tuple [.agg [.str h,.slice 3 0 (ab (usaL c3)).length false 0 0,.bool true,.bool true,.int u8 3],.bool true]) [.dead,.dead,
 .dead,.row (aa 3 (tls (ab (usaL c3)))) 72 4]else bif decide ((↑n3:Int)>0)then bif mo==3 then bif decide ((↑n3:Int)>0)then R (.tuple [.agg
 [.str h,.slice 3 0 (ab (usaL c3)).length false 0 0,.bool false,.bool true,.int u8 1],.bool true]) [.dead,.dead,.dead,.row (aa 3
 (tls (ab (usaL c3)))) 72 4]else R (.tuple [.agg [.str h,.slice 3 0 (ab (usaL c3)).length false 0 0,.bool false,.bool true,.int u8 2],.bool
 true]) [.dead,.dead,.dead,.row (aa 3 (tls (ab (usaL c3)))) 72 4]else bif mo==2 then bif decide ((↑n3:Int)>0)then R (.tuple [.agg [.str h,
 .slice 3 0 (ab (usaL c3)).length false 0 0,.bool false,.bool true,.int u8 1],.bool true]) [.dead,.dead,.dead,.row (aa 3 (tls (ab
 (usaL c3)))) 72 4]else R (.tuple [.agg [.str h,.slice 3 0 (ab (usaL c3)).length false 0 0,.bool false,.bool true,.int u8 2],.bool true])
 [.dead,.dead,.dead,.row (aa 3 (tls (ab (usaL c3)))) 72 4]else bif decide ((↑n3:Int)>0)then R (.tuple [.agg [.str h,.slice 3 0 (ab
 (usaL c3)).length false 0 0,.bool false,.bool true,.int u8 1],.bool true]) [.dead,.dead,.dead,.row (aa 3 (tls (ab (usaL c3)))) 72 4]
 else R (.tuple [.agg [.str h,.slice 3 0 (ab (usaL c3)).length false 0 0,.bool false,.bool true,.int u8 3],.bool true]) [.dead,.dead,
 .dead,.row (aa 3 (tls (ab (usaL c3)))) 72 4]else bif mo==3 then bif decide ((↑n3:Int)>0)then R (.tuple [.agg [.str h,.slice 3 0 (ab (usaL
 c3)).length false 0 0,.bool false,.bool false,.int u8 1],.bool true]) [.dead,.dead,.dead,.row (aa 3 (tls (ab (usaL c3)))) 72 4]else
 R (.tuple [.agg [.str h,.slice 3 0 (ab (usaL c3)).length false 0 0,.bool false,.bool false,.int u8 2],.bool true]) [.dead,.dead,.dead,
 .row (aa 3 (tls (ab (usaL c3)))) 72 4]else bif mo==2 then bif decide ((↑n3:Int)>0)then R (.tuple [.agg [.str h,.slice 3 0 (ab (usaL c3)).length
 false 0 0,.bool false,.bool false,.int u8 1],.bool true]) [.dead,.dead,.dead,.row (aa 3 (tls (ab (usaL c3)))) 72 4]else R (.tuple
 [.agg [.str h,.slice 3 0 (ab (usaL c3)).length false 0 0,.bool false,.bool false,.int u8 2],.bool true]) [.dead,.dead,.dead,.row
 (aa 3 (tls (ab (usaL c3)))) 72 4]else bif decide ((↑n3:Int)>0)then R (.tuple [.agg [.str h,.slice 3 0 (ab (usaL c3)).length false 0 0,.bool false,
 .bool false,.int u8 1],.bool true]) [.dead,.dead,.dead,.row (aa 3 (tls (ab (usaL c3)))) 72 4]else R (.tuple [.agg [.str h,.slice
 3 0 (ab (usaL c3)).length false 0 0,.bool false,.bool false,.int u8 3],.bool true]) [.dead,.dead,.dead,.row (aa 3 (tls (ab (usaL
 c3)))) 72 4]else False else bif !mx then bif mo==3 then bif okS n4 c4&&(lenA c4&&aF h)then bif !polM (List.map al c4) h then R (.tuple [.agg [.str [],
 .nilSlice,.bool false,.bool false,.int u8 0],.bool false]) [.dead,.dead,.dead]else bif decide ((↑n3:Int)>0)then bif mo==3 then bif
 decide ((↑n3:Int)>0)then R (.tuple [.agg [.str h,.nilSlice,.bool true,.bool true,.int u8 1],.bool true]) [.dead,.dead,.dead]else R
 (.tuple [.agg [.str h,.nilSlice,.bool true,.bool true,.int u8 2],.bool true]) [.dead,.dead,.dead]else bif mo==2 then bif decide ((↑n3:
 Int)>0)then R (.tuple [.agg [.str h,.nilSlice,.bool true,.bool true,.int u8 1],.bool true]) [.dead,.dead,.dead]else R (.tuple [.agg
 [.str h,.nilSlice,.bool true,.bool true,.int u8 2],.bool true]) [.dead,.dead,.dead]else bif decide ((↑n3:Int)>0)then R (.tuple [.agg
 [.str h,.nilSlice,.bool true,.bool true,.int u8 1],.bool true]) [.dead,.dead,.dead]else R (.tuple [.agg [.str h,.nilSlice,.bool
 true,.bool true,.int u8 3],.bool true]) [.dead,.dead,.dead]else bif mo==3 then bif decide ((↑n3:Int)>0)then R (.tuple [.agg [.str h,
 .nilSlice,.bool true,.bool true,.int u8 1],.bool true]) [.dead,.dead,.dead]else R (.tuple [.agg [.str h,.nilSlice,.bool true,.bool
 true,.int u8 2],.bool true]) [.dead,.dead,.dead]else bif mo==2 then bif decide ((↑n3:Int)>0)then R (.tuple [.agg [.str h,.nilSlice,
 .bool true,.bool true,.int u8 1],.bool true]) [.dead,.dead,.dead]else R (.tuple [.agg [.str h,.nilSlice,.bool true,.bool true,.int
 u8 2],.bool true]) [.dead,.dead,.dead]else bif decide ((↑n3:Int)>0)then R (.tuple [.agg [.str h,.nilSlice,.bool true,.bool true,.int
 u8 1],.bool true]) [.dead,.dead,.dead]else R (.tuple [.agg [.str h,.nilSlice,.bool true,.bool true,.int u8 3],.bool true])
 [.dead,.dead,.dead]else False else bif mo==2 then bif okS n4 c4&&(lenA c4&&aF h)then bif !polM (List.map al c4) h then R (.tuple [.agg [.str
 [],.nilSlice,.bool false,.bool false,.int u8 0],.bool false]) [.dead,.dead,.dead]else bif decide ((↑n3:Int)>0)then bif mo==3 then bif
 decide ((↑n3:Int)>0)then R (.tuple [.agg [.str h,.nilSlice,.bool true,.bool true,.int u8 1],.bool true]) [.dead,.dead,.dead]else R
 (.tuple [.agg [.str h,.nilSlice,.bool true,.bool true,.int u8 2],.bool true]) [.dead,.dead,.dead]else bif mo==2 then bif decide ((↑n3:
 Int)>0)then R (.tuple [.agg [.str h,.nilSlice,.bool true,.bool true,.int u8 1],.bool true]) [.dead,.dead,.dead]else R (.tuple [.agg
 [.str h,.nilSlice,.bool true,.bool true,.int u8 2],.bool true]) [.dead,.dead,.dead]else bif decide ((↑n3:Int)>0)then R (.tuple [.agg
 [.str h,.nilSlice,.bool true,.bool true,.int u8 1],.bool true]) [.dead,.dead,.dead]else R (.tuple [.agg [.str h,.nilSlice,.bool
 true,.bool true,.int u8 3],.bool true]) [.dead,.dead,.dead]else bif mo==3 then bif decide ((↑n3:Int)>0)then R (.tuple [.agg [.str h,
 .nilSlice,.bool true,.bool true,.int u8 1],.bool true]) [.dead,.dead,.dead]else R (.tuple [.agg [.str h,.nilSlice,.bool true,.bool
 true,.int u8 2],.bool true]) [.dead,.dead,.dead]else bif mo==2 then bif decide ((↑n3:Int)>0)then R (.tuple [.agg [.str h,.nilSlice,
 .bool true,.bool true,.int u8 1],.bool true]) [.dead,.dead,.dead]else R (.tuple [.agg [.str h,.nilSlice,.bool true,.bool true,.int
 u8 2],.bool true]) [.dead,.dead,.dead]else bif decide ((↑n3:Int)>0)then R (.tuple [.agg [.str h,.nilSlice,.bool true,.bool true,.int
 u8 1],.bool true]) [.dead,.dead,.dead]else R (.tuple [.agg [.str h,.nilSlice,.bool true,.bool true,.int u8 3],.bool true])
 [.dead,.dead,.dead]else False else R (.tuple [.agg [.str [],.nilSlice,.bool false,.bool false,.int u8 0],.bool false]) [.dead,
 .dead,.dead]else bif decide ((↑n3:Int)>0)then bif mo==3 then bif decide ((↑n3:Int)>0)then R (.tuple [.agg [.str h,.nilSlice,.bool true,.bool
 true,.int u8 1],.bool true]) [.dead,.dead,.dead]else R (.tuple [.agg [.str h,.nilSlice,.bool true,.bool true,.int u8 2],.bool
 true]) [.dead,.dead,.dead]else bif mo==2 then bif decide ((↑n3:Int)>0)then R (.tuple [.agg [.str h,.nilSlice,.bool true,.bool true,.int
 u8 1],.bool true]) [.dead,.dead,.dead]else R (.tuple [.agg [.str h,.nilSlice,.bool true,.bool true,.int u8 2],.bool true])
 [.dead,.dead,.dead]else bif decide ((↑n3:Int)>0)then R (.tuple [.agg [.str h,.nilSlice,.bool true,.bool true,.int u8 1],.bool true])
 [.dead,.dead,.dead]else R (.tuple [.agg [.str h,.nilSlice,.bool true,.bool true,.int u8 3],.bool true]) [.dead,.dead,.dead]
 else bif mo==3 then bif decide ((↑n3:Int)>0)then R (.tuple [.agg [.str h,.nilSlice,.bool true,.bool true,.int u8 1],.bool true]) [.dead,
 .dead,.dead]else R (.tuple [.agg [.str h,.nilSlice,.bool true,.bool true,.int u8 2],.bool true]) [.dead,.dead,.dead]else bif mo
 ==2 then bif decide ((↑n3:Int)>0)then R (.tuple [.agg [.str h,.nilSlice,.bool true,.bool true,.int u8 1],.bool true]) [.dead,.dead,
 .dead]else R (.tuple [.agg [.str h,.nilSlice,.bool true,.bool true,.int u8 2],.bool true]) [.dead,.dead,.dead]else bif decide ((↑n3:
 Int)>0)then R (.tuple [.agg [.str h,.nilSlice,.bool true,.bool true,.int u8 1],.bool true]) [.dead,.dead,.dead]else R (.tuple [.agg
 [.str h,.nilSlice,.bool true,.bool true,.int u8 3],.bool true]) [.dead,.dead,.dead]else bif !mx then bif mo==3 then bif okS n4 c4&&
 (lenA c4&&aF h)then bif !polM (List.map al c4) h then R (.tuple [.agg [.str [],.nilSlice,.bool false,.bool false,.int u8 0],.bool false])
 [.dead,.dead,.dead]else bif mo==3 then R (.tuple [.agg [.str h,.nilSlice,.bool true,.bool true,.int u8 2],.bool true]) [.dead,
 .dead,.dead]else bif mo==2 then R (.tuple [.agg [.str h,.nilSlice,.bool true,.bool true,.int u8 2],.bool true]) [.dead,.dead,
 .dead]else R (.tuple [.agg [.str h,.nilSlice,.bool true,.bool true,.int u8 3],.bool true]) [.dead,.dead,.dead]else False else bif mo
 ==2 then bif okS n4 c4&&(lenA c4&&aF h)then bif !polM (List.map al c4) h then R (.tuple [.agg [.str [],.nilSlice,.bool false,.bool false,.int
 u8 0],.bool false]) [.dead,.dead,.dead]else bif mo==3 then R (.tuple [.agg [.str h,.nilSlice,.bool true,.bool true,.int u8 2],
 .bool true]) [.dead,.dead,.dead]else bif mo==2 then R (.tuple [.agg [.str h,.nilSlice,.bool true,.bool true,.int u8 2],.bool true])
 [.dead,.dead,.dead]else R (.tuple [.agg [.str h,.nilSlice,.bool true,.bool true,.int u8 3],.bool true]) [.dead,.dead,.dead]
 else False else R (.tuple [.agg [.str [],.nilSlice,.bool false,.bool false,.int u8 0],.bool false]) [.dead,.dead,.dead]else bif mo==3
 then R (.tuple [.agg [.str h,.nilSlice,.bool true,.bool true,.int u8 2],.bool true]) [.dead,.dead,.dead]else bif mo==2 then R (.tuple
 [.agg [.str h,.nilSlice,.bool true,.bool true,.int u8 2],.bool true]) [.dead,.dead,.dead]else R (.tuple [.agg [.str h,.nilSlice,
 .bool true,.bool true,.int u8 3],.bool true]) [.dead,.dead,.dead]else bif !mx then bif mo==3 then bif okS n4 c4&&(lenA c4&&aF h)then
 bif !polM (List.map al c4) h then R (.tuple [.agg [.str [],.nilSlice,.bool false,.bool false,.int u8 0],.bool false]) [.dead,.dead,
 .dead]else bif mo==3 then R (.tuple [.agg [.str h,.nilSlice,.bool true,.bool true,.int u8 2],.bool true]) [.dead,.dead,.dead]else
 bif mo==2 then R (.tuple [.agg [.str h,.nilSlice,.bool true,.bool true,.int u8 2],.bool true]) [.dead,.dead,.dead]else R (.tuple
 [.agg [.str h,.nilSlice,.bool true,.bool true,.int u8 3],.bool true]) [.dead,.dead,.dead]else False else bif mo==2 then bif okS n4 c4&&
 (lenA c4&&aF h)then bif !polM (List.map al c4) h then R (.tuple [.agg [.str [],.nilSlice,.bool false,.bool false,.int u8 0],.bool false])
 [.dead,.dead,.dead]else bif mo==3 then R (.tuple [.agg [.str h,.nilSlice,.bool true,.bool true,.int u8 2],.bool true]) [.dead,
 .dead,.dead]else bif mo==2 then R (.tuple [.agg [.str h,.nilSlice,.bool true,.bool true,.int u8 2],.bool true]) [.dead,.dead,
 .dead]else R (.tuple [.agg [.str h,.nilSlice,.bool true,.bool true,.int u8 3],.bool true]) [.dead,.dead,.dead]else False else R
 (.tuple [.agg [.str [],.nilSlice,.bool false,.bool false,.int u8 0],.bool false]) [.dead,.dead,.dead]else bif mo==3 then R (.tuple
 [.agg [.str h,.nilSlice,.bool true,.bool true,.int u8 2],.bool true]) [.dead,.dead,.dead]else bif mo==2 then R (.tuple [.agg [.str h,
 .nilSlice,.bool true,.bool true,.int u8 2],.bool true]) [.dead,.dead,.dead]else R (.tuple [.agg [.str h,.nilSlice,.bool true,.bool
 true,.int u8 3],.bool true]) [.dead,.dead,.dead]):=by kernel_rfl
def fW(k:Nat)(pl rq:Bool)(h:List UInt8)(n3:Nat)(c3:List V)(ha:Bool)(mo:Int):V×St:=match k with
 |0=>(.tuple [.agg [.str [],.nilSlice,.bool false,.bool false,.int .u8 0],.bool false],[])
 |1=>(.tuple [.agg [.str h,.slice 0 0 (ab (usaL c3)).length false 0 0,.bool false,.bool true,.int .u8 1],.bool true],[.row (tls (ab (usaL c3))) 72 4])
 |2=>(.tuple [.agg [.str h,.nilSlice,.bool (rq||efB pl rq ha mo),.bool true,.int .u8 1],.bool true],[])
 |_=>(.tuple [.agg [.str h,.nilSlice,.bool (rq||efB pl rq ha mo),.bool (rq||efB pl rq ha mo),.int .u8 (kdI pl rq false ha mo)],.bool true],[])
def dl(h:List UInt8)(n3:Nat)(c3:List V)(n4:Nat)(c4:List V):Bool:=(okT n3 c3&&(tlD c3).all inU)&&(okS n4 c4&&(lenA c4&&aF h))
def rtellT:List V→Option (Qx)
 |[.agg [.bool pl,.bool rq,.str h,.bool mx,.int .u8 co,.bool se,.lst _ _ _,.lst _ _ _,.lst _ n3 c3,.bool ha,.int .u8 mo,.lst _ n4 c4,.int .i64 _]]=>
  some [(dl h n3 c3 n4 c4&&notB pl rq mx co se n3 c3 ha mo c4 h,fW 0 pl rq h n3 c3 ha mo),(dl h n3 c3 n4 c4&&(secB pl rq co se n3&&!(ab (usaL c3)).isEmpty),fW 1 pl rq h n3 c3 ha mo),(dl h n3 c3 n4 c4&&secB pl rq co se n3,fW 2 pl rq h n3 c3 ha mo),(dl h n3 c3 n4 c4,fW 3 pl rq h n3 c3 ha mo)]
 |_=>none
theorem bc{h:List UInt8}{n:Nat}{x y z w:V}{q:List TL}(hx:x.flat=true)(hy:y.flat=true)(hz:z.flat=true)(hw:w.flat=true):Fits 0 [.tuple [.agg [.str h,.slice 0 0 n false 0 0,x,y,z],w]] [.row (tls q) 72 4] [some (.tuple [.agg [.str h,.slice 3 0 n false 0 0,x,y,z],w])] [.dead,.dead,.dead,.row (aa 3 (tls q)) 72 4]:=
 rt_row (b:=3) hx hy hz hw (bR q) _ (by show some (Blk.row (aa 3 (tls q)) _ 4)=_;rw[shT])
theorem aZ{v:V}(hv:ax [v]=true)(st:St):Fits 0 [v] [] [some v] st:=bZ [v] hv _ rfl st
set_option maxHeartbeats 4000000 in
theorem rtell_main(pl rq:Bool)(h:List UInt8)(mx:Bool)(co:Int)(se:Bool)(x1:Value)(n1:Nat)(c1:List V)(x2:Value)(n2:Nat)(c2:List V)(x3:Value)(n3:Nat)(c3:List V)(ha:Bool)(mo:Int)(x4:Value)(n4:Nat)(c4:List V)(ag:Int)(hk1:(okT n3 c3&&(tlD c3).all inU)=true)(hk2:(okS n4 c4&&(lenA c4&&aF h))=true)(o:V×St)
  (ho:aO [(notB pl rq mx co se n3 c3 ha mo c4 h,fW 0 pl rq h n3 c3 ha mo),(secB pl rq co se n3&&!(ab (usaL c3)).isEmpty,fW 1 pl rq h n3 c3 ha mo),(secB pl rq co se n3,fW 2 pl rq h n3 c3 ha mo),(true,fW 3 pl rq h n3 c3 ha mo)]=some o):
  FnSat Qq 25 [.agg [.bool pl,.bool rq,.str h,.bool mx,.int .u8 co,.bool se,.lst x1 n1 c1,.lst x2 n2 c2,.lst x3 n3 c3,.bool ha,.int .u8 mo,.lst x4 n4 c4,.int .i64 ag]] [] (Is o):=by
 have hE:(((ab (usaL c3)).length:Int)==0)=(ab (usaL c3)).isEmpty:=by cases ab (usaL c3)<;>simp<;>omega
 have hB:(ab (usaL c3)).length.beq 0=(ab (usaL c3)).isEmpty:=by cases ab (usaL c3)<;>rfl
 unfold notB fW dZ secB knB kdI efB syB at ho;have hI:∀S:Bool,(bif S then ab (usaL c3)else([]:List TL)).isEmpty=(bif S then(ab (usaL c3)).isEmpty else true):=fun S=>by cases S<;>rfl
 simp only[hI]at ho;cases pl<;>cases rq<;>cases ha
 case false.false.false=>
  have e:=rtl_000 h mx co se x1 n1 c1 x2 n2 c2 x3 n3 c3 mo x4 n4 c4 ag (fun u st=>Fits 0 [o.1] o.2 [some u] st);refine eD aI fA (lim:=9) (n:=10) ?_;rw[e];clear e;simp only[hE,hB,hk1,hk2,ay,ac];generalize (ab (usaL c3)).isEmpty=E at*
  generalize decide ((n3:Int)>0)=N at*
  generalize (co==1)=C at*
  generalize (mo==3)=M3 at*
  generalize (mo==2)=M2 at*
  generalize polM (c4.map al) h=PM at*
  cases C
  ·simp only[ai,ac];cases mx<;>cases PM<;>cases M3<;>cases M2<;>cases ho<;>first|exact aZ rfl _|exact bc rfl rfl rfl rfl
  cases se
  ·simp only[ai,ac];cases mx<;>cases PM<;>cases M3<;>cases M2<;>cases ho<;>first|exact aZ rfl _|exact bc rfl rfl rfl rfl
  cases N
  ·simp only[ai,ac];cases mx<;>cases PM<;>cases M3<;>cases M2<;>cases ho<;>first|exact aZ rfl _|exact bc rfl rfl rfl rfl
  cases E
  ·simp only[ai,ac];cases mx<;>cases PM<;>cases M3<;>cases M2<;>cases ho<;>first|exact aZ rfl _|exact bc rfl rfl rfl rfl
  ·simp only[ai,ac];cases mx<;>cases PM<;>cases M3<;>cases M2<;>cases ho<;>first|exact aZ rfl _|exact bc rfl rfl rfl rfl
 case false.false.true=>
  have e:=rtl_001 h mx co se x1 n1 c1 x2 n2 c2 x3 n3 c3 mo x4 n4 c4 ag (fun u st=>Fits 0 [o.1] o.2 [some u] st);refine eD aI fA (lim:=9) (n:=10) ?_;rw[e];clear e;simp only[hE,hB,hk1,hk2,ay,ac];generalize (ab (usaL c3)).isEmpty=E at*
  generalize decide ((n3:Int)>0)=N at*
  generalize (co==1)=C at*
  generalize (mo==3)=M3 at*
  generalize (mo==2)=M2 at*
  generalize polM (c4.map al) h=PM at*
  cases C
  ·simp only[ai,ac];cases mx<;>cases PM<;>cases M3<;>cases M2<;>cases ho<;>first|exact aZ rfl _|exact bc rfl rfl rfl rfl
  cases se
  ·simp only[ai,ac];cases mx<;>cases PM<;>cases M3<;>cases M2<;>cases ho<;>first|exact aZ rfl _|exact bc rfl rfl rfl rfl
  cases N
  ·simp only[ai,ac];cases mx<;>cases PM<;>cases M3<;>cases M2<;>cases ho<;>first|exact aZ rfl _|exact bc rfl rfl rfl rfl
  cases E
  ·simp only[ai,ac];cases mx<;>cases PM<;>cases M3<;>cases M2<;>cases ho<;>first|exact aZ rfl _|exact bc rfl rfl rfl rfl
  ·simp only[ai,ac];cases mx<;>cases PM<;>cases M3<;>cases M2<;>cases ho<;>first|exact aZ rfl _|exact bc rfl rfl rfl rfl
 case false.true.false=>
  have e:=rtl_010 h mx co se x1 n1 c1 x2 n2 c2 x3 n3 c3 mo x4 n4 c4 ag (fun u st=>Fits 0 [o.1] o.2 [some u] st);refine eD aI fA (lim:=9) (n:=10) ?_;rw[e];clear e;simp only[hE,hB,hk1,hk2,ay,ac];generalize (ab (usaL c3)).isEmpty=E at*
  generalize decide ((n3:Int)>0)=N at*
  generalize (co==1)=C at*
  generalize (mo==3)=M3 at*
  generalize (mo==2)=M2 at*
  generalize polM (c4.map al) h=PM at*
  cases C
  ·simp only[ai,ac];cases mx<;>cases PM<;>cases M3<;>cases M2<;>cases ho<;>first|exact aZ rfl _|exact bc rfl rfl rfl rfl
  cases se
  ·simp only[ai,ac];cases mx<;>cases PM<;>cases M3<;>cases M2<;>cases ho<;>first|exact aZ rfl _|exact bc rfl rfl rfl rfl
  cases N
  ·simp only[ai,ac];cases mx<;>cases PM<;>cases M3<;>cases M2<;>cases ho<;>first|exact aZ rfl _|exact bc rfl rfl rfl rfl
  cases E
  ·simp only[ai,ac];cases mx<;>cases PM<;>cases M3<;>cases M2<;>cases ho<;>first|exact aZ rfl _|exact bc rfl rfl rfl rfl
  ·simp only[ai,ac];cases mx<;>cases PM<;>cases M3<;>cases M2<;>cases ho<;>first|exact aZ rfl _|exact bc rfl rfl rfl rfl
 case false.true.true=>
  have e:=rtl_011 h mx co se x1 n1 c1 x2 n2 c2 x3 n3 c3 mo x4 n4 c4 ag (fun u st=>Fits 0 [o.1] o.2 [some u] st);refine eD aI fA (lim:=9) (n:=10) ?_;rw[e];clear e;simp only[hE,hB,hk1,hk2,ay,ac];generalize (ab (usaL c3)).isEmpty=E at*
  generalize decide ((n3:Int)>0)=N at*
  generalize (co==1)=C at*
  generalize (mo==3)=M3 at*
  generalize (mo==2)=M2 at*
  generalize polM (c4.map al) h=PM at*
  cases C
  ·simp only[ai,ac];cases mx<;>cases PM<;>cases M3<;>cases M2<;>cases ho<;>first|exact aZ rfl _|exact bc rfl rfl rfl rfl
  cases se
  ·simp only[ai,ac];cases mx<;>cases PM<;>cases M3<;>cases M2<;>cases ho<;>first|exact aZ rfl _|exact bc rfl rfl rfl rfl
  cases N
  ·simp only[ai,ac];cases mx<;>cases PM<;>cases M3<;>cases M2<;>cases ho<;>first|exact aZ rfl _|exact bc rfl rfl rfl rfl
  cases E
  ·simp only[ai,ac];cases mx<;>cases PM<;>cases M3<;>cases M2<;>cases ho<;>first|exact aZ rfl _|exact bc rfl rfl rfl rfl
  ·simp only[ai,ac];cases mx<;>cases PM<;>cases M3<;>cases M2<;>cases ho<;>first|exact aZ rfl _|exact bc rfl rfl rfl rfl
 case true.true.false=>
  have e:=rtl_110 h mx co se x1 n1 c1 x2 n2 c2 x3 n3 c3 mo x4 n4 c4 ag (fun u st=>Fits 0 [o.1] o.2 [some u] st);refine eD aI fA (lim:=9) (n:=10) ?_;rw[e];clear e;simp only[hE,hB,hk1,hk2,ay,ac];generalize (ab (usaL c3)).isEmpty=E at*
  generalize decide ((n3:Int)>0)=N at*
  generalize (co==1)=C at*
  generalize (mo==3)=M3 at*
  generalize (mo==2)=M2 at*
  generalize polM (c4.map al) h=PM at*
  cases C
  ·simp only[ai,ac];cases mx<;>cases PM<;>cases M3<;>cases M2<;>cases ho<;>first|exact aZ rfl _|exact bc rfl rfl rfl rfl
  cases se
  ·simp only[ai,ac];cases mx<;>cases PM<;>cases M3<;>cases M2<;>cases ho<;>first|exact aZ rfl _|exact bc rfl rfl rfl rfl
  cases N
  ·simp only[ai,ac];cases mx<;>cases PM<;>cases M3<;>cases M2<;>cases ho<;>first|exact aZ rfl _|exact bc rfl rfl rfl rfl
  cases E
  ·simp only[ai,ac];cases mx<;>cases PM<;>cases M3<;>cases M2<;>cases ho<;>first|exact aZ rfl _|exact bc rfl rfl rfl rfl
  ·simp only[ai,ac];cases mx<;>cases PM<;>cases M3<;>cases M2<;>cases ho<;>first|exact aZ rfl _|exact bc rfl rfl rfl rfl
 case true.true.true=>
  have e:=rtl_111 h mx co se x1 n1 c1 x2 n2 c2 x3 n3 c3 mo x4 n4 c4 ag (fun u st=>Fits 0 [o.1] o.2 [some u] st);refine eD aI fA (lim:=9) (n:=10) ?_;rw[e];clear e;simp only[hE,hB,hk1,hk2,ay,ac];generalize (ab (usaL c3)).isEmpty=E at*
  generalize decide ((n3:Int)>0)=N at*
  generalize (co==1)=C at*
  generalize (mo==3)=M3 at*
  generalize (mo==2)=M2 at*
  generalize polM (c4.map al) h=PM at*
  cases C
  ·simp only[ai,ac];cases mx<;>cases PM<;>cases M3<;>cases M2<;>cases ho<;>first|exact aZ rfl _|exact bc rfl rfl rfl rfl
  cases se
  ·simp only[ai,ac];cases mx<;>cases PM<;>cases M3<;>cases M2<;>cases ho<;>first|exact aZ rfl _|exact bc rfl rfl rfl rfl
  cases N
  ·simp only[ai,ac];cases mx<;>cases PM<;>cases M3<;>cases M2<;>cases ho<;>first|exact aZ rfl _|exact bc rfl rfl rfl rfl
  cases E
  ·simp only[ai,ac];cases mx<;>cases PM<;>cases M3<;>cases M2<;>cases ho<;>first|exact aZ rfl _|exact bc rfl rfl rfl rfl
  ·simp only[ai,ac];cases mx<;>cases PM<;>cases M3<;>cases M2<;>cases ho<;>first|exact aZ rfl _|exact bc rfl rfl rfl rfl
 case true.false.false=>
  have e:=rtl_p h mx co se x1 n1 c1 x2 n2 c2 x3 n3 c3 false mo x4 n4 c4 ag (fun u st=>Fits 0 [o.1] o.2 [some u] st);refine eD aI fA (lim:=9) (n:=10) ?_;rw[e];clear e;cases ho;exact aZ rfl _
 case true.false.true=>
  have e:=rtl_p h mx co se x1 n1 c1 x2 n2 c2 x3 n3 c3 true mo x4 n4 c4 ag (fun u st=>Fits 0 [o.1] o.2 [some u] st);refine eD aI fA (lim:=9) (n:=10) ?_;rw[e];clear e;cases ho;exact aZ rfl _
theorem rtellT_ok(args:List V)(L:Qx)(o:V×St)(h:rtellT args=some L)(ho:aO L=some o):FnSat Qq 25 args [] (Is o):=by
 unfold rtellT at h;split at h
 ·rename_i pl rq hh mx co se x1 n1 c1 x2 n2 c2 x3 n3 c3 ha mo x4 n4 c4 ag;cases h;cases hk:dl hh n3 c3 n4 c4 with
  |false=>rw[hk]at ho;simp[aO]at ho
  |true=>
  rw[hk,ay,ay,ay]at ho;unfold dl at hk;rw[af]at hk;exact rtell_main pl rq hh mx co se x1 n1 c1 x2 n2 c2 x3 n3 c3 ha mo x4 n4 c4 ag hk.1 hk.2 o ho
 ·cases h
def kF(h h':List UInt8)(x y:Value)(n m:Nat)(cs ds:List V)(a b a' b':Bool)(t t':Int):=[Blk.row [V.str h,V.lst x n cs,V.bool a,V.bool b,V.int u8 t] 43 5,Blk.row [V.str h',V.lst y m ds,V.bool a',V.bool b',V.int u8 t'] 43 5]
def mh(i:Int):=[some (V.ptr 0 0),some (V.ptr 1 0),some (V.bool false),some (V.int i64 i)]
theorem rns_round(h:List UInt8)(x:Value)(n:Nat)(cs:List V)(a b:Bool)(t:Int)(h':List UInt8)(y:Value)(m:Nat)(ds:List V)(a' b':Bool)(t':Int)(i:Int)(R:Qz):aJ Qq G0 9 10 (ar 9) 29 58 [2,3,4,5] [.ptr 0 0,.ptr 1 0,.bool false,.int .i64 i] [.row [.str h,.lst x n cs,.bool a,.bool b,.int .u8 t] 43 5,.row [.str h',.lst y m ds,.bool a',.bool b',.int .u8 t'] 43 5] R=
 (
 bif decide (i<(↑n:Int))then bif decide (0≤i)&&decide (i<(↑n:Int))then bif (i.toNat*4+4).ble cs.length then bif aj u8 (cs.getD
 (i.toNat*4+0) (.bool false))then bif aj u8 (cs.getD (i.toNat*4+1) (.bool false))then bif aj u8 (cs.getD (i.toNat*4+2)
 (.bool false))then bif aw (cs.getD (i.toNat*4+3) (.bool false))then bif decide (0≤i)&&decide (i<(↑m:Int))then bif (i.toNat*4+4).ble
 ds.length then bif aj u8 (ds.getD (i.toNat*4+0) (.bool false))then bif aj u8 (ds.getD (i.toNat*4+1) (.bool false))then bif
 aj u8 (ds.getD (i.toNat*4+2) (.bool false))then bif aw (ds.getD (i.toNat*4+3) (.bool false))then bif au (cs.getD (i.toNat*4+
 0) (.bool false))==au (ds.getD (i.toNat*4+0) (.bool false))then bif au (cs.getD (i.toNat*4+1) (.bool false))==au (ds.getD (i.toNat*
 4+1) (.bool false))then bif au (cs.getD (i.toNat*4+2) (.bool false))==au (ds.getD (i.toNat*4+2) (.bool false))then bif al (cs.getD
 (i.toNat*4+3) (.bool false))==al (ds.getD (i.toNat*4+3) (.bool false))then R .normal [some (.ptr 0 0),some (.ptr 1 0),some (.bool
 false),some (.int i64 (i64.wrap (i+1)))] (kF h h' x y n m cs ds a b a' b' t t')else R .ret (mh i) (kF h h' x y n m cs ds a b a'
 b' t t')else R .ret (mh i) (kF h h' x y n m cs ds a b a' b' t t')else R .ret (mh i) (kF h h' x y n m cs ds a b a' b' t t')else R .ret
 (mh i) (kF h h' x y n m cs ds a b a' b' t t')else False else False else False else False else False else False else False else False else False else False
 else False else False else R (.exit 0) (mh i) (kF h h' x y n m cs ds a b a' b' t t')):=by kernel_rfl
structure NR where
 h:List UInt8
 x:Value
 n:Nat
 cs:List V
 a:Bool
 b:Bool
 t:Int
def nrB(c:NR):Blk:=.row [.str c.h,.lst c.x c.n c.cs,.bool c.a,.bool c.b,.int .u8 c.t] 43 5
structure RNS where
 p:NR
 q:NR
 i:Nat
def rnsV(y:RNS):List V:=[.ptr 0 0,.ptr 1 0,.bool false,.int .i64 y.i]
def rnsJ(y:RNS):St:=[nrB y.p,nrB y.q]
def gy(y:RNS):Bool:=okT y.p.n y.p.cs&&(okT y.p.n y.q.cs&&(Nat.beq y.q.n y.p.n&&Nat.ble y.i y.p.n))
def rnsMu(y:RNS):Nat:=y.p.n-y.i
def rnsDec:List (Option V)→St→Option RNS
 |[some (.ptr p 0),some (.ptr q 0),some (.bool false),some (.int .i64 0)],st=>match st[p]?,st[q]? with
  |some (.row [.str h,.lst x n cs,.bool a,.bool b,.int .u8 t] _ _),some (.row [.str h',.lst y m ds,.bool a',.bool b',.int .u8 t'] _ _)=>some ⟨⟨h,x,n,cs,a,b,t⟩,⟨h',y,m,ds,a',b',t'⟩,0⟩
  |_,_=>none
 |_,_=>none
def kr(e:Bool)(K:Exit→List V→St→Prop):Prop:=
 bif e then ∀j:Int,K (.exit 0) [.ptr 0 0,.ptr 1 0,.bool false,.int .i64 j] [.dead,.dead]else ∀j:Int,K .ret [.ptr 0 0,.ptr 1 0,.bool false,.int .i64 j] [.dead,.dead]
def nQ:Asks RNS:=fun y K=>kr (eA y.p.cs y.q.cs y.i) K
theorem rns_fits(p q:NR)(j:Int):Fits 0 [.ptr 0 0,.ptr 1 0,.bool false,.int .i64 j] [nrB p,nrB q] [some (.ptr 0 0),some (.ptr 1 0),some (.bool false),some (.int .i64 j)] [nrB p,nrB q]:=
 ⟨[0,1],[.ptr 0 0,.ptr 1 0,.bool false,.int .i64 j],rfl,rfl,FitsM.of ⟨.inr ⟨_,.inl rfl,rfl⟩,.inr ⟨_,.inl rfl,rfl⟩,trivial⟩,by simp,fun i hi=>by omega⟩
theorem rns_out(j:Int)(st:St):Fits 0 [.ptr 0 0,.ptr 1 0,.bool false,.int .i64 j] [.dead,.dead] [some (.ptr 0 0),some (.ptr 1 0),some (.bool false),some (.int .i64 j)] st:=
 ⟨[0,1],[.ptr 0 0,.ptr 1 0,.bool false,.int .i64 j],rfl,rfl,FitsM.of ⟨.inl rfl,.inl rfl,trivial⟩,by decide,fun i hi=>by omega⟩
theorem rns_roundOk(y:RNS)(hx:gy y=true):aJ Qq G0 9 10 (ar 9) 29 58 [2,3,4,5] (rnsV y) (rnsJ y) (aQ 0 gy rnsV rnsJ rnsMu nQ y):=by
 obtain⟨⟨h,x,n,cs,a,b,t⟩,⟨h',y,m,ds,a',b',t'⟩,i⟩:=y;unfold gy at hx;simp only[af]at hx;have hx1:okT n cs=true:=hx.1;have hx2:okT n ds=true:=hx.2.1;have hm:m=n:=aC hx.2.2.1;have p1:i≤n:=aD hx.2.2.2;obtain⟨l,rfl,rfl,p2,p3⟩:=bN hx1;obtain⟨k,rfl,hlk,p4,p5⟩:=bN hx2;subst hm;show aJ Qq G0 9 10 (ar 9) 29 58 [2,3,4,5] [.ptr 0 0,.ptr 1 0,.bool false,.int .i64 i] [.row [.str h,.lst x l.length (tls l),.bool a,.bool b,.int .u8 t] 43 5,.row [.str h',.lst y l.length (tls k),.bool a',.bool b',.int .u8 t'] 43 5] _;rw[rns_round];unfold mh kF;have ha:∀j,eA (tls l) (tls k) j=eqsB (l.drop j) (k.drop j):=fun j=>by
  unfold eA;rw[bf,bf]
 have out:∀K,nQ ⟨⟨h,x,l.length,tls l,a,b,t⟩,⟨h',y,l.length,tls k,a',b',t'⟩,i⟩ K→kr (eqsB (l.drop i) (k.drop i)) K:=fun K hK=>by
  have hK:kr (eA (tls l) (tls k) i) K:=hK;rw[ha]at hK;exact hK
 cases hd:l.drop i with
 |nil=>
  have hi:i=l.length:=by
   have:=congrArg List.length hd;rw[List.length_drop]at this;simp at this;omega
  have hk:k.drop i=[]:=List.drop_eq_nil_of_le (by omega);rw[decide_eq_false (show ¬((i:Int)<(l.length:Int)) by omega),ai];refine⟨_,_,fun K hK=>?_,rns_out i _⟩;have hK:=out K hK;rw[hd,hk]at hK;exact hK i
 |cons c r=>
  have dropT:∀{l r:List TL} {c:TL},l.drop i=c::r→l.drop (i+1)=r∧i<l.length:=fun{l r c} h=>by
   refine⟨?_,?_⟩
   ·rw[←List.drop_drop,h];rfl
   ·have:=congrArg List.length h;rw[List.length_drop]at this;simp at this;omega
  obtain⟨e2,e3⟩:=dropT hd;obtain⟨a0,a1,a2,a3,a4⟩:=i4 hd;obtain⟨c',r',hd'⟩:∃c' r',k.drop i=c'::r':=by
   cases h:k.drop i with
   |nil=>
    have:=congrArg List.length h;rw[List.length_drop]at this;simp at this;omega
   |cons a b=>exact⟨a,b,rfl⟩
  obtain⟨f2,f3⟩:=dropT hd';obtain⟨b0,b1,b2,b3,b4⟩:=i4 hd';have q1:decide ((i:Int)<(l.length:Int))=true:=az (by omega);have q2:decide ((0:Int)≤(i:Int))=true:=az (by omega);simp only[q1,q2,bK,a0,a1,a2,a3,a4,b0,b1,b2,b3,b4,aw,aj,al,au,decide_true,ac,Bool.and_true,show i64.wrap ((i:Int)+1)=((i+1:Nat):Int) by rw[IntWalk.i64_in _ ⟨by omega,by omega⟩];omega];have hcons:eqsB (l.drop i) (k.drop i)=(eqB c c'&&eqsB r r'):=by rw[hd,hd'];rfl
  have away:eqB c c'=false→aQ 0 gy rnsV rnsJ rnsMu nQ ⟨⟨h,x,l.length,tls l,a,b,t⟩,⟨h',y,l.length,tls k,a',b',t'⟩,i⟩ Exit.ret [some (.ptr 0 0),some (.ptr 1 0),some (.bool false),some (.int .i64 i)] [.row [.str h,.lst x l.length (tls l),.bool a,.bool b,.int .u8 t] 43 5,.row [.str h',.lst y l.length (tls k),.bool a',.bool b',.int .u8 t'] 43 5]:=fun hc=>by
   refine⟨_,_,fun K hK=>?_,rns_out i _⟩;have hK:=out K hK;rw[hcons,hc]at hK;exact hK i
  have hB:eqB c c'=((c.u==c'.u)&&((c.s==c'.s)&&((c.m==c'.m)&&(c.d==c'.d)))):=rfl;refine ao (fun g1=>?_) (fun g1=>away (by rw[hB,g1];rfl));refine ao (fun g2=>?_) (fun g2=>away (by rw[hB,g1,g2];rfl));refine ao (fun g3=>?_) (fun g3=>away (by rw[hB,g1,g2,g3];rfl));refine ao (fun g4=>?_) (fun g4=>away (by rw[hB,g1,g2,g3,g4];rfl));refine⟨⟨⟨h,x,l.length,tls l,a,b,t⟩,⟨h',y,l.length,tls k,a',b',t'⟩,i+1⟩,?_,rns_fits ⟨h,x,l.length,tls l,a,b,t⟩ ⟨h',y,l.length,tls k,a',b',t'⟩ _,by simp only[rnsMu];omega,fun K hK=>?_⟩
  ·unfold gy;simp only[af];exact⟨hx1,hx2,Nat.beq_refl _,ap (show i+1≤l.length by omega)⟩
  ·have hK:=out K hK;show kr (eA (tls l) (tls k) (i+1)) K;rw[ha,e2,f2];rw[hcons,hB,g1,g2,g3,g4,ay,ay,ay,ay]at hK;exact hK
def lkRNS:Nat→Trans→Trans:=bq 58 (dc 0 (szOf Qq 29) [2,3,4,5] rnsDec gy rnsV rnsJ nQ) (ar 9)
theorem lkRNS_ok:ba Qq 0 lkRNS 29:=by
 unfold lkRNS;exact cx (bJ 9 0 29) (by kernel_rfl) fun f st Q h=>bO (P:=Qq) (T:=G0) (k:=0) (lim:=9) (n:=10) (g:=29) (p0:=58) (lk:=ar 9) aI G0_ok (bt 9 _ _) rnsMu rns_roundOk h
def RNS1:Tab:=⟨noT,noL,er (bk 9) 29 0 lkRNS⟩
theorem RNS1_ok:TabOk3 Qq RNS1:=⟨aW,aX,cD (aE 9) lkRNS_ok⟩
theorem rns_tree(h:List UInt8)(x:Value)(n:Nat)(cs:List V)(a b:Bool)(t:Int)(h':List UInt8)(y:Value)(m:Nat)(ds:List V)(a' b':Bool)(t':Int)(R:V→Prop):runW Qq RNS1 9 10 29 [.agg [.str h,.lst x n cs,.bool a,.bool b,.int .u8 t],.agg [.str h',.lst y m ds,.bool a',.bool b',.int .u8 t']] R=
  (
 bif !h==h' then R (.bool false)else bif !a==a' then R (.bool false)else bif !b==b' then R (.bool false)else bif t !=t' then R (.bool false)else bif (↑n:
 Int)!=(↑m:Int)then R (.bool false)else Fits 0 [.ptr 0 0,.ptr 1 0,.bool false,.int i64 0] [.row [.str h,.lst x n cs,.bool a,.bool b,.int
 u8 t] 43 5,.row [.str h',.lst y m ds,.bool a',.bool b',.int u8 t'] 43 5] [some (.ptr 0 0),some (.ptr 1 0),some (.bool false),some
 (.int i64 0)] [.row [.str h,.lst x n cs,.bool a,.bool b,.int u8 t] 43 5,.row [.str h',.lst y m ds,.bool a',.bool b',.int
 u8 t'] 43 5]∧bif gy {p:={h:=h,x:=x,n:=n,cs:=cs,a:=a,b:=b,t:=t},q:={h:=h',x:=y,n:=m,cs:=ds,a:=a',b:=b',t:=t'},i:=0}
 then bif eA cs ds 0 then ∀(j:Int),R (.bool true)else ∀(j:Int),R (.bool false)else False):=by kernel_rfl
theorem rns_sat(h:List UInt8)(x:Value)(l:List TL)(a b:Bool)(t:Int)(h':List UInt8)(y:Value)(k:List TL)(a' b':Bool)(t':Int)(h1:l.length≤9223372036854775807)(h2:k.length≤9223372036854775807):
  FnSat Qq 29 [.agg [.str h,lstT x l,.bool a,.bool b,.int .u8 t],.agg [.str h',lstT y k,.bool a',.bool b',.int .u8 t']] [] (Is (.bool (nsB h l a b t h' k a' b' t'),[])):=by
 refine aP (lim:=9) (n:=10) aI RNS1_ok rfl rfl ?_;unfold lstT;rw[rns_tree];have hs:eA (tls l) (tls k) 0=eqsB l k:=by unfold eA;rw[bf,bf];rfl
 rw[hs];unfold nsB;refine ao (fun h=>?_) (fun h=>?_)
 ·rw[Bool.not_eq_true']at h;rw[h];rfl
 rw[Bool.not_eq_false']at h;rw[h];refine ao (fun h=>?_) (fun h=>?_)
 ·rw[Bool.not_eq_true']at h;rw[h];rfl
 rw[Bool.not_eq_false']at h;rw[h];refine ao (fun h=>?_) (fun h=>?_)
 ·rw[Bool.not_eq_true']at h;rw[h];rfl
 rw[Bool.not_eq_false']at h;rw[h];refine ao (fun h=>?_) (fun h=>?_)
 ·have h:(t==t')=false:=by simpa[bne]using h
  rw[h];rfl
 have h:(t==t')=true:=by simpa[bne]using h
 rw[h];simp only[ay];refine ao (fun h=>?_) (fun h=>?_)
 ·have h:(l.length:Int)≠k.length:=by simpa using h
  rw[lS (fun e=>h (by rw[e]))]
 ·have h:(l.length:Int)=k.length:=by simpa using h
  have h:l.length=k.length:=by omega
  refine⟨rns_fits ⟨_,_,_,_,_,_,_⟩ ⟨_,_,_,_,_,_,_⟩ 0,ah ?_ ?_⟩
  ·unfold gy;simp only[af];exact⟨dT h1,h▸dT h2,h▸Nat.beq_refl _,ap (Nat.zero_le _)⟩
  ·cases eqsB l k with
   |false=>intro _;rfl
   |true=>intro _;rfl
theorem rnsGV_ok(args:List V)(s:St)(L:Qx)(o:V×St)(h:nsGV nsOK nsV args s=some L)(ho:aO L=some o):FnSat Qq 29 args s (Is o):=by
 unfold nsGV at h;split at h
 ·rename_i hh p a b t hh' q a' b' t';cases h;obtain⟨hb,rfl⟩:=a7 ho;unfold nsOK at hb;split at hb
  ·rename_i c l d k hv hw;have hL:nsV hh p a b t hh' q a' b' t' s=nsB hh l a b t hh' k a' b' t':=by unfold nsV;rw[hv,hw]
   rw[hL];simp only[af]at hb;obtain⟨rfl,rfl,h1,h2⟩:=hb;refine jp rfl fun B W0 w m rargs hr ha=>?_;obtain⟨x1,r1,q1,q2,rfl⟩:=aq ha;obtain⟨x2,r2,q3,q4,rfl⟩:=aq q2;obtain⟨y1,g1⟩:=kD (Ψ:=Frz.of w) (m':=[]) (f:=fun y=>lstT y l) (fun y hy=>fG hr hv hy) [.str hh] rfl (b:=[.bool a,.bool b,.int .u8 t]) rfl q1;obtain⟨y2,g2⟩:=kD (Ψ:=Frz.of w) (m':=[]) (f:=fun y=>lstT y k) (fun y hy=>fG hr hw hy) [.str hh'] rfl (b:=[.bool a',.bool b',.int .u8 t']) rfl q3;have g3:=bU (Ψ:=Frz.of w) (m':=[]) _ _ rfl q4;exact⟨_,@aL _ (Frz.of w) [] _ _ _ _ g1 (@aL _ (Frz.of w) [] _ _ _ _ g2 g3),@rns_sat (Frz.of w) hh y1 l a b t hh' y2 k a' b' t' (aD h1) (aD h2)⟩
  ·cases hb
 ·cases h
end Go.Proofs.YtebkeppoicllmaaGreatDoor
namespace Go.Proofs.YtebkeppoicllmaaGreatDoor
open Go Go.Vm Go.RowKit
variable [Φ:Frz]
def jy(p0:Nat)(d:Fr→St→Bool)(T:Trans)(lk:Nat→Trans→Trans):Nat→Trans→Trans:=fun p body f st Q=>bif Nat.beq p p0&&d f st then T f st Q else lk p body f st Q
section
variable {P:Program} {ro:Option Nat} {k:Nat}
theorem bT{p0:Nat}{ct:Fr→St→Bool}{T:Trans}{lk:Nat→Trans→Trans}:∀(c:Code) (p:Nat),dp P ro k lk p c→(∀c'∈bj p0 p c,∀f st Q,T f st Q→CodeSatW P ro k (.loop c') f st Q)→dp P ro k (jy p0 ct T lk) p c
 |.seq a b,p,h,hT=>⟨bT a _ h.1 fun c' hc=>hT c' (by simp only[bj,List.mem_append];exact .inl hc),bT b _ h.2 fun c' hc=>hT c' (by simp only[bj,List.mem_append];exact .inr hc)⟩
 |.cond _ a b,p,h,hT=>⟨bT a _ h.1 fun c' hc=>hT c' (by simp only[bj,List.mem_append];exact .inl hc),bT b _ h.2 fun c' hc=>hT c' (by simp only[bj,List.mem_append];exact .inr hc)⟩
 |.block _ c,p,h,hT=>bT c _ h fun c' hc=>hT c' (by simp only[bj];exact hc)
 |.scope c,p,h,hT=>bT c _ h fun c' hc=>hT c' (by simp only[bj];exact hc)
 |.loop c,p,h,hT=>by
  refine⟨bT c _ h.1 fun c' hc=>hT c' (by simp only[bj,List.mem_append];exact .inr hc),fun body hb f st Q hq=>?_⟩;unfold jy at hq;cases hp:(Nat.beq p p0&&ct f st)with
  |true=>
   rw[hp,ac]at hq;rw[af]at hp;exact hT c (by simp[bj,aC hp.1]) f st Q hq
  |false=>
   rw[hp,ai]at hq;exact h.2 body hb f st Q hq
 |.skip,_,_,_|.label _,_,_,_|.ret,_,_,_|.exit _,_,_,_|.region ..,_,_,_|.rangeFunc ..,_,_,_|.goto _,_,_,_|.refuse _,_,_,_=>trivial
end
end Go.Proofs.YtebkeppoicllmaaGreatDoor
namespace Go.Proofs.YtebkeppoicllmaaGreatDoor
open Go.IntKind (u8 u16 u32 u64 i8 i16 i32 i64)
open Go Go.Vm Go.RowKit
variable [Φ:Frz]
theorem sp_round(A B O W K:Blk)(own:V)(was:Bool)(r:Int)(h:List UInt8)(a1 b1:Bool)(t1:Int)(N:Nat)(cs ds:List V)(h':List UInt8)(a2 b2:Bool)(t2:Int)(i:Int)(R:Qz):aJ Qq G0 9 10 (ar 9) 5 512638 [2,3,4,5,6,7,8,9,11,16] [.ptr 0 0,.ptr 1 0,.bool false,own,.ptr 3 0,.bool was,.int .i64 r,.ptr 5 0,.ptr 7 0,.int .i64 i] [A,B,O,W,K,.row [.str h,.slice 6 0 N false 0 0,.bool a1,.bool b1,.int .u8 t1] 38 5,.row cs 72 4,.row [.str h',.slice 8 0 N false 0 0,.bool a2,.bool b2,.int .u8 t2] 38 5,.row ds 72 4] R=
  (
 bif decide (i<(↑N:Int))then bif decide (0≤i)&&decide (i<(↑N:Int))then bif true&&(0+i.toNat*4+3+1).ble cs.length then bif decide (0≤i)&&decide
 (i<(↑N:Int))then bif true&&(0+i.toNat*4+0+1).ble ds.length then R .normal [some (.ptr 0 0),some (.ptr 1 0),some (.bool false),some own,some
 (.ptr 3 0),some (.bool was),some (.int i64 r),some (.ptr 5 0),some (.ptr 7 0),some (.int i64 (i64.wrap (i+1)))] [A,B,O,W,K,
 .row [.str h,.slice 6 0 N false 0 0,.bool a1,.bool b1,.int u8 t1] 38 5,.row (cN (0+i.toNat*4+3) [.str [115,112,111,105,108,116]]
 cs) 72 4,.row [.str h',.slice 8 0 N false 0 0,.bool a2,.bool b2,.int u8 t2] 38 5,.row (cN (0+i.toNat*4+0) [.int u8 77] ds) 72
 4]else False else False else False else False else R (.exit 2) [some (.ptr 0 0),some (.ptr 1 0),some (.bool false),some own,some (.ptr 3 0),some (.bool
 was),some (.int i64 r),some (.ptr 5 0),some (.ptr 7 0),some (.int i64 i)] [A,B,O,W,K,.row [.str h,.slice 6 0 N false 0 0,.bool a1,
 .bool b1,.int u8 t1] 38 5,.row cs 72 4,.row [.str h',.slice 8 0 N false 0 0,.bool a2,.bool b2,.int u8 t2] 38 5,.row ds 72 4]):=by kernel_rfl
theorem mM{off:Nat}{vs cs:List V}(h:off+vs.length≤cs.length):(cN off vs cs).length=cs.length:=by
 unfold cN;rw[List.length_append,List.length_append,List.length_take,List.length_drop];omega
theorem lL:∀{a:List V} (n:Nat),ax a=true→ax (a.take n)=true
 |_,0,_=>by simp[ax]
 |[],_+1,_=>by simp[ax]
 |v::a,n+1,h=>by
  simp only[ax,af]at h;simp only[List.take_succ_cons,ax,af];exact⟨h.1,lL n h.2⟩
theorem lM:∀{a:List V} (n:Nat),ax a=true→ax (a.drop n)=true
 |_,0,h=>h
 |[],_+1,_=>by simp[ax]
 |v::a,n+1,h=>by
  simp only[ax,af]at h;exact lM n h.2
theorem ni{off:Nat}{vs cs:List V}(h1:ax vs=true)(h2:ax cs=true):ax (cN off vs cs)=true:=
 jS (jS (lL _ h2) h1) (lM _ h2)
structure NTS where
 pl:Bool
 rq:Bool
 h:List UInt8
 mx:Bool
 co:Int
 se:Bool
 x1:Value
 n1:Nat
 c1:List V
 x2:Value
 n2:Nat
 c2:List V
 x3:Value
 n3:Nat
 c3:List V
 ha:Bool
 mo:Int
 x4:Value
 n4:Nat
 c4:List V
 ag:Int
 hb:List UInt8
 xb:Value
 nb:Nat
 cb:List V
 b1:Bool
 b2:Bool
 b3:Int
 on:Nat
 oc:List V
 wh:List UInt8
 wn:Option Nat
 wk:List V
 w1:Bool
 w2:Bool
 w3:Int
 was:Bool
def wkV:Option Nat→V
 |none=>.nilSlice
 |some n=>.slice 4 0 n false 0 0
def wkB:Option Nat→List V→Blk
 |none,_=>.dead
 |some _,k=>.row k 72 4
def ntA(y:NTS):Blk:=.row [.bool y.pl,.bool y.rq,.str y.h,.bool y.mx,.int .u8 y.co,.bool y.se,.lst y.x1 y.n1 y.c1,.lst y.x2 y.n2 y.c2,.lst y.x3 y.n3 y.c3,.bool y.ha,.int .u8 y.mo,.lst y.x4 y.n4 y.c4,.int .i64 y.ag] 58 13
def ntB(y:NTS):Blk:=.row [.str y.hb,.lst y.xb y.nb y.cb,.bool y.b1,.bool y.b2,.int .u8 y.b3] 38 5
def ntO(y:NTS):Blk:=.row y.oc 72 4
def ntW(y:NTS):Blk:=.row [.str y.wh,wkV y.wn,.bool y.w1,.bool y.w2,.int .u8 y.w3] 43 5
def ntJ(y:NTS):St:=[ntA y,ntB y,ntO y,ntW y,wkB y.wn y.wk]
def iq(y:NTS):Bool:=ax y.oc&&ax y.wk
structure SPX where
 y:NTS
 r:Int
 h:List UInt8
 a1:Bool
 b1:Bool
 t1:Int
 N:Nat
 cs:List V
 ds:List V
 h':List UInt8
 a2:Bool
 b2:Bool
 t2:Int
 i:Nat
def spV(x:SPX):List V:=[.ptr 0 0,.ptr 1 0,.bool false,.slice 2 0 x.y.on false 0 0,.ptr 3 0,.bool x.y.was,.int .i64 x.r,.ptr 5 0,.ptr 7 0,.int .i64 x.i]
def spJ(x:SPX):St:=ntJ x.y++[.row [.str x.h,.slice 6 0 x.N false 0 0,.bool x.a1,.bool x.b1,.int .u8 x.t1] 38 5,.row x.cs 72 4,.row [.str x.h',.slice 8 0 x.N false 0 0,.bool x.a2,.bool x.b2,.int .u8 x.t2] 38 5,.row x.ds 72 4]
def d7(x:SPX):Bool:=iq x.y&&((ax x.cs&&ax x.ds)&&((Nat.beq x.cs.length (x.N*4)&&Nat.beq x.ds.length (x.N*4))&&(Nat.ble x.i x.N&&Nat.ble x.N 9223372036854775807)))
def spMu(x:SPX):Nat:=x.N-x.i
def spOutG(y:NTS)(r:Int)(K:Exit→List V→St→Prop):Prop:=∀j:Int,K (.exit 2) [.ptr 0 0,.ptr 1 0,.bool false,.slice 2 0 y.on false 0 0,.ptr 3 0,.bool y.was,.int .i64 r,.ptr 5 0,.ptr 7 0,.int .i64 j] (ntJ y++[.dead,.dead,.dead,.dead])
def spOut:Asks SPX:=fun x K=>spOutG x.y x.r K
theorem kz{y:NTS}(hp:iq y=true){σ:List Nat}{st:St}(h:∀i,i<5→st[i]?=(ntJ y)[i]?)(h4:σ[4]?=some 4):FitsL σ st [0,1,2,3,4] (ntJ y):=by
 unfold iq at hp;rw[af]at hp;refine⟨.inr ⟨_,.inl rfl,h 0 (by omega)⟩,.inr ⟨_,.inl rfl,h 1 (by omega)⟩,fb hp.1 (h 2 (by omega)),.inr ⟨_,.inl ?_,h 3 (by omega)⟩,?_,trivial⟩
 ·unfold ntW;cases hw:y.wn with
  |none=>rfl
  |some n=>simp only[renB,renL,renV,wkV,h4]
 ·cases hw:y.wn with
  |none=>exact .inl rfl
  |some n=>
   have h5:=h 4 (by omega);unfold ntJ at h5;rw[hw]at h5;exact fb hp.2 h5
theorem sp_fits(x:SPX)(hp:d7 x=true):Fits 0 (spV x) (spJ x) ((spV x).map some) (spJ x):=by
 unfold d7 at hp;simp only[af]at hp;obtain⟨h0,⟨h1,h2⟩,_⟩:=hp;refine⟨[0,1,2,3,4,5,6,7,8],spV x,rfl,rfl,FitsM.of ?_,by decide,fun i hi=>by omega⟩;obtain⟨q0,q1,q2,q3,q4,_⟩:=kz h0 (σ:=[0,1,2,3,4,5,6,7,8]) (st:=spJ x) (fun i hi=>by
  match i,hi with
  |0,_|1,_|2,_|3,_|4,_=>rfl) rfl
 exact⟨q0,q1,q2,q3,q4,.inr ⟨_,.inl rfl,rfl⟩,fb h1 rfl,.inr ⟨_,.inl rfl,rfl⟩,fb h2 rfl,trivial⟩
theorem sp_out(y:NTS)(h0:iq y=true)(r j:Int)(n1 n2 n3 n4:Blk):Fits 0 [.ptr 0 0,.ptr 1 0,.bool false,.slice 2 0 y.on false 0 0,.ptr 3 0,.bool y.was,.int .i64 r,.ptr 5 0,.ptr 7 0,.int .i64 j] (ntJ y++[.dead,.dead,.dead,.dead]) [some (.ptr 0 0),some (.ptr 1 0),some (.bool false),some (.slice 2 0 y.on false 0 0),some (.ptr 3 0),some (.bool y.was),some (.int .i64 r),some (.ptr 5 0),some (.ptr 7 0),some (.int .i64 j)] (ntJ y++[n1,n2,n3,n4]):=by
 refine⟨[0,1,2,3,4,5,6,7,8],[.ptr 0 0,.ptr 1 0,.bool false,.slice 2 0 y.on false 0 0,.ptr 3 0,.bool y.was,.int .i64 r,.ptr 5 0,.ptr 7 0,.int .i64 j],rfl,rfl,FitsM.of ?_,by decide,fun i hi=>by omega⟩;obtain⟨q0,q1,q2,q3,q4,_⟩:=kz h0 (σ:=[0,1,2,3,4,5,6,7,8]) (st:=ntJ y++[n1,n2,n3,n4]) (fun i hi=>by
  match i,hi with
  |0,_|1,_|2,_|3,_|4,_=>rfl) rfl
 exact⟨q0,q1,q2,q3,q4,.inl rfl,.inl rfl,.inl rfl,.inl rfl,trivial⟩
theorem sp_roundOk(x:SPX)(hx:d7 x=true):aJ Qq G0 9 10 (ar 9) 5 512638 [2,3,4,5,6,7,8,9,11,16] (spV x) (spJ x) (aQ 0 d7 spV spJ spMu spOut x):=by
 have hx':=hx;obtain⟨y,r,h,a1,b1,t1,N,cs,ds,h',a2,b2,t2,i⟩:=x;unfold d7 at hx;simp only[af]at hx;obtain⟨h0,⟨h1,h2⟩,⟨h3,h4⟩,h5,h6⟩:=hx;have h3:cs.length=N*4:=aC h3;have h4:ds.length=N*4:=aC h4;have h5:i≤N:=aD h5;have h6:N≤9223372036854775807:=aD h6;show aJ Qq G0 9 10 (ar 9) 5 512638 [2,3,4,5,6,7,8,9,11,16] [.ptr 0 0,.ptr 1 0,.bool false,.slice 2 0 y.on false 0 0,.ptr 3 0,.bool y.was,.int .i64 r,.ptr 5 0,.ptr 7 0,.int .i64 i] [ntA y,ntB y,ntO y,ntW y,wkB y.wn y.wk,.row [.str h,.slice 6 0 N false 0 0,.bool a1,.bool b1,.int .u8 t1] 38 5,.row cs 72 4,.row [.str h',.slice 8 0 N false 0 0,.bool a2,.bool b2,.int .u8 t2] 38 5,.row ds 72 4] _;rw[sp_round];by_cases hi:(i:Int)<(N:Int)
 ·have d0:decide ((i:Int)<(N:Int))=true:=az hi;have d1:decide ((0:Int)≤(i:Int))=true:=az (by omega);have l1:(0+i*4+3+1).ble cs.length=true:=ap (by omega);have l2:(0+i*4+0+1).ble ds.length=true:=ap (by omega);have w:i64.wrap ((i:Int)+1)=((i+1:Nat):Int):=by rw[IntWalk.i64_in _ ⟨by omega,by omega⟩];omega
  simp only[d0,d1,bK,l1,l2,w,Bool.and_self,ac];have hp':d7 ⟨y,r,h,a1,b1,t1,N,cN (0+i*4+3) [V.str [115,112,111,105,108,116]] cs,cN (0+i*4+0) [V.int u8 77] ds,h',a2,b2,t2,i+1⟩=true:=by
   unfold d7;simp only[af];refine⟨h0,⟨ni rfl h1,ni rfl h2⟩,⟨?_,?_⟩,ap (show i+1≤N by omega),ap h6⟩
   ·rw[mM (by simp;omega),h3];exact Nat.beq_refl _
   ·rw[mM (by simp;omega),h4];exact Nat.beq_refl _
  exact⟨⟨y,r,h,a1,b1,t1,N,cN (0+i*4+3) [V.str [115,112,111,105,108,116]] cs,cN (0+i*4+0) [V.int u8 77] ds,h',a2,b2,t2,i+1⟩,hp',sp_fits _ hp',by simp only[spMu];omega,fun K hK=>hK⟩
 ·have d0:decide ((i:Int)<(N:Int))=false:=decide_eq_false hi;simp only[d0,ai];exact⟨_,_,fun K hK=>hK i,sp_out y h0 r i _ _ _ _⟩
def wkI:V→St→Option (Option Nat×List V)
 |.nilSlice,_=>some (none,[])
 |.slice k 0 n false 0 0,st=>match st[k]? with
  |some (.row cs _ _)=>some (some n,cs)
  |_=>none
 |_,_=>none
def rowI(st:St)(k:Nat):Option (List V):=match st[k]? with
 |some (.row cs _ _)=>some cs
 |some (.ro _ cs)=>some cs
 |_=>none
def ntI(a b o on w:Nat)(was:Bool)(st:St):Option NTS:=match rowI st a with
 |some [.bool pl,.bool rq,.str h,.bool mx,.int .u8 co,.bool se,.lst x1 n1 c1,.lst x2 n2 c2,.lst x3 n3 c3,.bool ha,.int .u8 mo,.lst x4 n4 c4,.int .i64 ag]=>match rowI st b with
  |some [.str hb,.lst xb nb cb,.bool b1,.bool b2,.int .u8 b3]=>match rowI st o with
   |some oc=>match rowI st w with
    |some [.str wh,wv,.bool w1,.bool w2,.int .u8 w3]=>match wkI wv st with
     |some (wn,wk)=>some ⟨pl,rq,h,mx,co,se,x1,n1,c1,x2,n2,c2,x3,n3,c3,ha,mo,x4,n4,c4,ag,hb,xb,nb,cb,b1,b2,b3,on,oc,wh,wn,wk,w1,w2,w3,was⟩
     |none=>none
    |_=>none
   |none=>none
  |_=>none
 |_=>none
def spDec:List (Option V)→St→Option SPX
 |[some (.ptr a 0),some (.ptr b 0),some (.bool false),some (.slice o 0 on false 0 0),some (.ptr w 0),some (.bool was),some (.int .i64 r),some (.ptr n 0),some (.ptr c 0),some (.int .i64 0)],st=>match ntI a b o on w was st with
  |some y=>match rowI st n with
   |some [.str h,.slice p 0 N false 0 0,.bool a1,.bool b1,.int .u8 t1]=>match rowI st c with
    |some [.str h',.slice q 0 _ false 0 0,.bool a2,.bool b2,.int .u8 t2]=>match rowI st p with
     |some cs=>match rowI st q with
      |some ds=>some ⟨y,r,h,a1,b1,t1,N,cs,ds,h',a2,b2,t2,0⟩
      |none=>none
     |none=>none
    |_=>none
   |_=>none
  |none=>none
 |_,_=>none
def spIs(f:Fr)(st:St):Bool:=match f.T.get 9 with
 |some (.ptr n 0)=>match st[n]? with
  |some (.row [_,.slice ..,_,_,_] _ _)=>true
  |_=>false
 |_=>false
def lkSP:Nat→Trans→Trans:=jy 512638 spIs (dc 0 (szOf Qq 5) [2,3,4,5,6,7,8,9,11,16] spDec d7 spV spJ spOut) (ar 9)
theorem lkSP_ok:dp Qq none 0 lkSP (2*250) (fF Qq 5 250):=by
 unfold lkSP;refine bT _ _ (bt 9 _ _) fun c' hc f st Q h=>?_;rw[show bj 512638 (2*250) (fF Qq 5 250)=[fF Qq 5 512638] by kernel_rfl]at hc;rw[List.mem_singleton.1 hc];exact bO (P:=Qq) (T:=G0) (k:=0) (lim:=9) (n:=10) (g:=5) (p0:=512638) (lk:=ar 9) aI G0_ok (bt 9 _ _) spMu sp_roundOk h
def vwX(VO:Nat→List V→Bool)(VW:Nat→List V→List TL)(st:St):V→Option (Bool×List TL)
 |.nilSlice=>some (true,[])
 |.lst _ n cs=>some (VO n cs,VW n cs)
 |.slice b 0 n false 0 0=>match rowI st b with
  |some cs=>some (VO n cs,VW n cs)
  |none=>none
 |_=>none
def vwR(_:Nat)(cs:List V):List TL:=tlD cs
theorem vwX_ok{st:St}{v:V}{l:List TL}{d:Bool}(h:vwX okT vwR st v=some (d,l))(hd:d=true):dy st v=some (true,l)∧l.length≤9223372036854775807:=by
 subst hd;unfold vwX at h;split at h
 ·cases h;exact⟨rfl,by simp⟩
 ·rename_i x n cs;simp only[ad,Prod.mk.injEq]at h;obtain⟨q,rfl,rfl,p2,p3⟩:=bN h.1;obtain rfl:tlD (tls q)=l:=h.2;rw[p3];refine⟨?_,p2⟩;simp only[dy,fo,bf,fO,ci,Nat.beq_refl,Bool.and_true];rw[Nat.mul_comm,Nat.beq_refl]
 ·rename_i b n;split at h
  ·rename_i cs hr;simp only[ad,Prod.mk.injEq]at h;obtain⟨q,rfl,rfl,p2,p3⟩:=bN h.1;obtain rfl:tlD (tls q)=l:=h.2;rw[p3];refine⟨?_,p2⟩;unfold rowI at hr;split at hr
   ·rename_i cs' t sz hb;cases hr;exact kP (z:=[]) (.inl ⟨t,sz,by rw[List.append_nil];exact hb⟩) false 0 0
   ·rename_i o cs' hb;cases hr;exact kP (z:=[]) (.inr ⟨o,by rw[List.append_nil];exact hb⟩) false 0 0
   ·cases hr
  ·cases h
 ·cases h
def nsX(VO:Nat→List V→Bool)(VW:Nat→List V→List TL)(SB:List UInt8→List TL→Bool→Bool→Int→List UInt8→List TL→Bool→Bool→Int→Bool):List V→St→Option (Qx)
 |[.agg [.str h,p,.bool a,.bool b,.int .u8 t],.agg [.str h',q,.bool a',.bool b',.int .u8 t']],st=>match vwX VO VW st p,vwX VO VW st q with
  |some (c,l),some (d,k)=>some [(c&&d,(.bool (SB h l a b t h' k a' b' t'),st))]
  |_,_=>none
 |_,_=>none
theorem nsX_gv{args:List V}{s:St}{L:Qx}{o:V×St}(h:nsX okT vwR nsB args s=some L)(ho:aO L=some o):∃L',nsGV nsOK nsV args s=some L'∧aO L'=some o:=by
 unfold nsX at h;split at h
 ·rename_i hh p a b t hh' q a' b' t';split at h
  ·rename_i c l d k hv hw;cases h;obtain⟨hb,rfl⟩:=a7 ho;rw[af]at hb;obtain⟨v1,v2⟩:=vwX_ok hv hb.1;obtain⟨w1,w2⟩:=vwX_ok hw hb.2;refine⟨_,rfl,?_⟩;unfold nsOK nsV;rw[v1,w1];show aO [(true&&(true&&(Nat.ble l.length 9223372036854775807&&Nat.ble k.length 9223372036854775807)),_)]=_;rw[ap v2,ap w2];rfl
  ·cases h
 ·cases h
theorem nsX_ok(args:List V)(s:St)(L:Qx)(o:V×St)(h:nsX okT vwR nsB args s=some L)(ho:aO L=some o):FnSat Qq 30 args s (Is o):=by
 obtain⟨L',e1,e2⟩:=nsX_gv h ho;exact nsGV_ok args s L' o e1 e2
theorem rnsX_ok(args:List V)(s:St)(L:Qx)(o:V×St)(h:nsX okT vwR nsB args s=some L)(ho:aO L=some o):FnSat Qq 29 args s (Is o):=by
 obtain⟨L',e1,e2⟩:=nsX_gv h ho;exact rnsGV_ok args s L' o e1 e2
def cloneX(VO:Nat→List V→Bool):List V→St→Option (Qx)
 |[.slice b 0 n false 0 0],st=>match rowI st b with
  |some cs=>some [(VO n cs&&Nat.ble n 4,(.slice st.length 0 n false 0 0,st++[.row cs 72 4]))]
  |none=>none
 |_,_=>none
theorem cloneX_ok(args:List V)(s:St)(L:Qx)(o:V×St)(h:cloneX okT args s=some L)(ho:aO L=some o):FnSat Qq 58 args s (Is o):=by
 unfold cloneX at h;split at h
 ·rename_i b n;split at h
  ·rename_i cs hr;cases h;obtain⟨hb,rfl⟩:=a7 ho;rw[af]at hb;have hw:vwX okT vwR s (.slice b 0 n false 0 0)=some (okT n cs,vwR n cs):=by
    show(match rowI s b with
     |some cs=>some (okT n cs,vwR n cs)
     |none=>none)=_
    rw[hr]
   have hv:=(vwX_ok hw hb.1).1;unfold vwR at hv;obtain⟨q,rfl,rfl,p2,p3⟩:=bN hb.1;rw[p3]at hv;refine lW [.slice b 0 q.length false 0 0] s _ _ rfl ?_;unfold clOK clN clC clL;rw[hv];show aO [(true&&Nat.ble q.length 4,_)]=_;rw[hb.2];rfl
  ·cases h
 ·cases h
def NTV(TV:List V→Option (Qx))(VO:Nat→List V→Bool)(VW:Nat→List V→List TL)(SB:List UInt8→List TL→Bool→Bool→Int→List UInt8→List TL→Bool→Bool→Int→Bool):Tab:=
 ⟨addT noT 27 TV,addS (addS (addS noL 58 (cloneX VO)) 30 (nsX VO VW SB)) 29 (nsX VO VW SB),bk 9⟩
end Go.Proofs.YtebkeppoicllmaaGreatDoor
end
