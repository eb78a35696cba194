/- Parts of this work: what the functions come to. -/
import Derived.Test.YthcoeoibejgaiaaGreatDoorP1
import Derived.Test.YthcoeoibejgaiaaGreatDoorVmc
namespace Go.Proofs.YthcoeoibejgaiaaGreatDoor
open Go.IntKind (u8 u16 u32 u64 i8 i16 i32 i64)
open Go Go.Vm Go.RowKit
set_option linter.unusedVariables false
set_option maxRecDepth 100000
set_option linter.unusedSectionVars false
variable [Φ:Frz]
def mixTG(OK:List V→Bool)(M:W8→List V→W8):List V→Option (List (Bool×(V×St)))
 |[.agg [.int .u32 a,.int .u32 b,.int .u32 c,.int .u32 d,.int .u32 e,.int .u32 f,.int .u32 g,.int .u32 h],.agg ws]=>some [(OK ws,(.agg (M ⟨a,b,c,d,e,f,g,h⟩ ws).cells,[]))]
 |_=>none
def blkTG(OB:List V→Nat→Bool)(BL:List V→Nat→Nat→Int):List V→St→Option (List (Bool×(V×St)))
 |[.slice 0 off 64 false c z],[.ro false la]=>some [(OB la off,(.agg (cF (BL la off)),[]))]
 |_,_=>none
noncomputable def TD(OK:List V→Bool)(M:W8→List V→W8)(OB:List V→Nat→Bool)(BL:List V→Nat→Nat→Int):Tab:=⟨addT noT 95 (mixTG OK M),addM noL 96 (blkTG OB BL),aL 10⟩
theorem d1_round(s:List UInt8)(cs v:List V)(k:Nat)(R:Exit→List (Option V)→St→Prop):ah Tryz.prog T3 9 10 (ad 9) 62 60 [0,3,4] [.str s,.ptr 0 0,.slice 1 0 k false 0 0] [.row v 125 8,.row cs 5 1] R=
  (
 bif (↑k:Int).tmod 64!=56 then bif cs.length.beq (k*1)then bif (k+1).ble 9223372036854775807&&((k+1)*1).ble 140737488355328 then R .normal [some (.str
 s),some (.ptr 0 0),some (.slice 3 0 (k+1) false 0 0)] [.row v 125 8,.dead,.row [.int u8 0] 5 1,.row (cs++[V.int u8 0]) 5 1]else
 False else False else R (.exit 0) [some (.str s),some (.ptr 0 0),some (.slice 1 0 k false 0 0)] [.row v 125 8,.row cs 5 1]):=by kernel_rfl
noncomputable def zu_0(BL:List V→Nat→Nat→Int)(la:List V)(off:Nat):=[V.int u32 (BL la (off+0) 0),V.int u32 (BL la (off+0) 1),V.int u32 (BL la (off+0) 2),V.int u32 (BL la (off+0) 3),V.int u32 (BL la (off+0) 4),V.int u32 (BL la (off+0) 5),V.int u32 (BL la (off+0) 6),V.int u32 (BL la (off+0) 7),V.int u32 (BL la (off+0) 8),V.int u32 (BL la (off+0) 9),V.int u32 (BL la (off+0) 10),V.int u32 (BL la (off+0) 11),V.int u32 (BL la (off+0) 12),V.int u32 (BL la (off+0) 13),V.int u32 (BL la (off+0) 14),V.int u32 (BL la (off+0) 15),V.int u32 (BL la (off+0) 16),V.int u32 (BL la (off+0) 17),V.int u32 (BL la (off+0) 18),V.int u32 (BL la (off+0) 19),V.int u32 (BL la (off+0) 20),V.int u32 (BL la (off+0) 21),V.int u32 (BL la (off+0) 22),V.int u32 (BL la (off+0) 23),V.int u32 (BL la (off+0) 24),V.int u32 (BL la (off+0) 25),V.int u32 (BL la (off+0) 26),V.int u32 (BL la (off+0) 27),V.int u32 (BL la (off+0) 28),V.int u32 (BL la (off+0) 29),V.int u32 (BL la (off+0) 30),V.int u32 (BL la (off+0) 31),V.int u32 (BL la (off+0) 32),V.int u32 (BL la (off+0) 33),V.int u32 (BL la (off+0) 34),V.int u32 (BL la (off+0) 35),V.int u32 (BL la (off+0) 36),V.int u32 (BL la (off+0) 37),V.int u32 (BL la (off+0) 38),V.int u32 (BL la (off+0) 39),V.int u32 (BL la (off+0) 40),V.int u32 (BL la (off+0) 41),V.int u32 (BL la (off+0) 42),V.int u32 (BL la (off+0) 43),V.int u32 (BL la (off+0) 44),V.int u32 (BL la (off+0) 45),V.int u32 (BL la (off+0) 46),V.int u32 (BL la (off+0) 47),V.int u32 (BL la (off+0) 48),V.int u32 (BL la (off+0) 49),V.int u32 (BL la (off+0) 50),V.int u32 (BL la (off+0) 51),V.int u32 (BL la (off+0) 52),V.int u32 (BL la (off+0) 53),V.int u32 (BL la (off+0) 54),V.int u32 (BL la (off+0) 55),V.int u32 (BL la (off+0) 56),V.int u32 (BL la (off+0) 57),V.int u32 (BL la (off+0) 58),V.int u32 (BL la (off+0) 59),V.int u32 (BL la (off+0) 60),V.int u32 (BL la (off+0) 61),V.int u32 (BL la (off+0) 62),V.int u32 (BL la (off+0) 63)]
theorem d3_round(OK:List V→Bool)(M:W8→List V→W8)(OB:List V→Nat→Bool)(BL:List V→Nat→Nat→Int)(a b c d e f g h:Int)(la:List V)(off len cc z:Nat)(R:Exit→List (Option V)→St→Prop):ah Tryz.prog (TD OK M OB BL) 10 10 (ad 10) 62 508 [3,4] [.ptr 0 0,.slice 1 off len false cc z] [.row [.int .u32 a,.int .u32 b,.int .u32 c,.int .u32 d,.int .u32 e,.int .u32 f,.int .u32 g,.int .u32 h] 125 8,.row la 5 1] R=
 (
 bif decide ((↑len:Int)>0)then bif true&&Nat.ble 64 len then bif OB la (off+0)then bif OK (zu_0 BL la off)then bif Nat.ble 64 len&&len.ble len then R
 .normal [some (.ptr 0 0),some (.slice 1 (off+64) (len-64) false (if false=true then cc-64 else cc+64) (if 64=0 then z else off))] [.row
 [.int u32 (M {a:=a,b:=b,c:=c,d:=d,e:=e,f:=f,g:=g,h:=h} (zu_0 BL la off)).a,.int u32 (M
 {a:=a,b:=b,c:=c,d:=d,e:=e,f:=f,g:=g,h:=h} (zu_0 BL la off)).b,.int u32 (M
 {a:=a,b:=b,c:=c,d:=d,e:=e,f:=f,g:=g,h:=h} (zu_0 BL la off)).c,.int u32 (M
 {a:=a,b:=b,c:=c,d:=d,e:=e,f:=f,g:=g,h:=h} (zu_0 BL la off)).d,.int u32 (M
 {a:=a,b:=b,c:=c,d:=d,e:=e,f:=f,g:=g,h:=h} (zu_0 BL la off)).e,.int u32 (M
 {a:=a,b:=b,c:=c,d:=d,e:=e,f:=f,g:=g,h:=h} (zu_0 BL la off)).f,.int u32 (M
 {a:=a,b:=b,c:=c,d:=d,e:=e,f:=f,g:=g,h:=h} (zu_0 BL la off)).g,.int u32 (M
 {a:=a,b:=b,c:=c,d:=d,e:=e,f:=f,g:=g,h:=h} (zu_0 BL la off)).h] 125 8,.row la 5 1]else False else False else False else False else R
 (.exit 4) [some (.ptr 0 0),some (.slice 1 off len false cc z)] [.row [.int u32 a,.int u32 b,.int u32 c,.int u32
 d,.int u32 e,.int u32 f,.int u32 g,.int u32 h] 125 8,.row la 5 1]):=by kernel_rfl
theorem jy:∀{l r:List V},aC l=true→aC r=true→aC (l++r)=true
 |[],r,_,h=>h
 |v::l,r,h1,h2=>by
  rw[aC,Bool.and_eq_true]at h1;rw[List.cons_append,aC,Bool.and_eq_true];exact⟨h1.1,jy h1.2 h2⟩
def ivW:W8:=⟨1779033703,3144134277,1013904242,2773480762,1359893119,2600822924,528734635,1541459225⟩
structure DX where
 s:List UInt8
 cs:List V
def dxV(x:DX):List V:=[.str x.s,.ptr 0 0,.slice 1 0 x.cs.length false 0 0]
def dxJ(x:DX):St:=[.row ivW.cells 125 8,.row x.cs 5 1]
def dxN(n:Nat):Nat:=(120-n%64)%64
def m7(x:DX):Bool:=aC x.cs&&Nat.ble (x.cs.length+dxN x.cs.length) 1000000
def dxMu(x:DX):Nat:=dxN x.cs.length
def dxP(cs:List V):List V:=cs++List.replicate (dxN cs.length) (.int .u8 0)
def dxDec:List (Option V)→St→Option DX
 |[some (.str s),some (.ptr 0 0),some (.slice 3 0 _ false 0 0)],[_,_,_,.row cs _ _]=>some ⟨s,cs⟩
 |_,_=>none
def dxOutG(FP:List V→List V):Asks DX:=fun x K=>∀p:List V,p=FP x.cs→K (.exit 0) [.str x.s,.ptr 0 0,.slice 1 0 p.length false 0 0] [.row ivW.cells 125 8,.row p 5 1]
theorem sK(s:List UInt8)(cs:List V)(hf:aC cs=true)(k c:Nat)(st:St)(h0:st[0]?=some (.row ivW.cells 125 8))(hc:st[c]?=some (.row cs 5 1))(hc0:c≠0):Fits 0 [.str s,.ptr 0 0,.slice 1 0 k false 0 0] [.row ivW.cells 125 8,.row cs 5 1] [some (.str s),some (.ptr 0 0),some (.slice c 0 k false 0 0)] st:=
 ⟨[0,c],[.str s,.ptr 0 0,.slice c 0 k false 0 0],rfl,rfl,FitsM.of ⟨.inr ⟨_,.inl rfl,h0⟩,fb hf hc,trivial⟩,by simp;omega,fun i hi=>by omega⟩
theorem dx_roundOk(x:DX)(hx:m7 x=true):ah Tryz.prog T3 9 10 (ad 9) 62 60 [0,3,4] (dxV x) (dxJ x) (ay 0 m7 dxV dxJ dxMu (dxOutG dxP) x):=by
 obtain⟨s,cs⟩:=x;unfold m7 at hx;rw[Bool.and_eq_true]at hx;have p1:aC cs=true:=hx.1;have p2:cs.length+dxN cs.length≤1000000:=Nat.le_of_ble_eq_true hx.2;show ah Tryz.prog T3 9 10 (ad 9) 62 60 [0,3,4] [.str s,.ptr 0 0,.slice 1 0 cs.length false 0 0] [.row ivW.cells 125 8,.row cs 5 1] _;generalize hn:cs.length=n at*
 rw[d1_round];have hm:(n:Int).tmod 64=((n%64:Nat):Int):=by rw[Int.tmod_eq_emod_of_nonneg (by omega)];omega
 rw[hm];refine ab (fun h=>?_) (fun h=>?_)
 ·have h:n%64≠56:=by
   intro h0;rw[h0]at h;simp at h
  have p3:dxN n=dxN (n+1)+1:=by unfold dxN;omega
  refine aa (by rw[Nat.mul_one,hn];exact Nat.beq_refl _) (aa (by rw[Bool.and_eq_true];exact⟨Nat.ble_eq_true_of_le (by omega),Nat.ble_eq_true_of_le (by omega)⟩) ?_);have hl:(cs++[V.int .u8 0]).length=n+1:=by rw[List.length_append,hn];rfl
  have hf:aC (cs++[V.int .u8 0])=true:=jy p1 rfl;refine⟨⟨s,cs++[.int .u8 0]⟩,?_,?_,?_,fun K hK=>?_⟩
  ·unfold m7;rw[Bool.and_eq_true];refine⟨hf,Nat.ble_eq_true_of_le ?_⟩;show(cs++[V.int .u8 0]).length+dxN (cs++[V.int .u8 0]).length≤1000000;rw[hl];omega
  ·show Fits 0 [.str s,.ptr 0 0,.slice 1 0 (cs++[V.int .u8 0]).length false 0 0] [.row ivW.cells 125 8,.row (cs++[V.int .u8 0]) 5 1] _ _;rw[hl];exact sK s _ hf _ 3 _ rfl rfl (by omega)
  ·show dxN (cs++[V.int .u8 0]).length<dxN cs.length;rw[hl,hn];omega
  ·have hK:∀p:List V,p=dxP cs→K (.exit 0) [.str s,.ptr 0 0,.slice 1 0 p.length false 0 0] [.row ivW.cells 125 8,.row p 5 1]:=hK;have:dxP (cs++[.int .u8 0])=dxP cs:=by
    unfold dxP;rw[hl,hn,List.append_assoc];rw[p3,List.replicate_succ];rfl
   exact fun p hp=>hK p (hp.trans this)
 ·have h:n%64=56:=by
   have:((n%64:Nat):Int)=56:=by simpa using h
   omega
  refine⟨[.str s,.ptr 0 0,.slice 1 0 n false 0 0],[.row ivW.cells 125 8,.row cs 5 1],fun K hK=>?_,sK s _ p1 _ 1 _ rfl rfl (by omega)⟩;have hK:∀p:List V,p=dxP cs→K (.exit 0) [.str s,.ptr 0 0,.slice 1 0 p.length false 0 0] [.row ivW.cells 125 8,.row p 5 1]:=hK;have:dxP cs=cs:=by
   unfold dxP;have:dxN cs.length=0:=by rw[hn];unfold dxN;omega
   rw[this,List.replicate_zero,List.append_nil]
  have hK:=hK cs this.symm;rw[hn]at hK;exact hK
def okM(ws:List V):Bool:=cx ws&&Nat.beq ws.length 64
def blkA(la:List V)(off:Nat):Nat→Int:=blkF la off 64 0 dB
theorem TD_ok:TabOk3 Tryz.prog (TD okM mixE okB blkA):=⟨aE aA mix_ok,nG aB blk_ok,ak 10⟩
def sumL:Nat→Nat→List V→W8→W8
 |0,_,_,x=>x
 |n+1,off,la,x=>sumL n (off+64) la (mixE x (cF (blkA la off)))
structure D3 where
 la:List V
 x:W8
 off:Nat
 len:Nat
 cc:Nat
 z:Nat
def okA(la:List V):Bool:=aC la&&la.all (ae .u8)
def d3V(y:D3):List V:=[.ptr 0 0,.slice 1 y.off y.len false y.cc y.z]
def d3J(y:D3):St:=[.row y.x.cells 125 8,.row y.la 5 1]
def m9(y:D3):Bool:=okA y.la&&(Nat.beq (y.off+y.len) y.la.length&&Nat.beq (y.len%64) 0)
def d3Mu(y:D3):Nat:=y.len
def d3OutG(SL:Nat→Nat→List V→W8→W8):Asks D3:=fun y K=>∀x:W8,x=SL (y.len/64) y.off y.la y.x→∀o c z:Nat,K (.exit 4) [.ptr 0 0,.slice 1 o 0 false c z] [.row x.cells 125 8,.dead]
theorem okA_B{la:List V}{off:Nat}(h:okA la=true)(hl:off+64≤la.length):okB la off=true:=by
 unfold okA at h;rw[Bool.and_eq_true]at h;unfold okB;rw[Bool.and_eq_true,Bool.and_eq_true];refine⟨h.1,Nat.ble_eq_true_of_le hl,?_⟩;rw[List.all_eq_true];intro v hv;exact List.all_eq_true.1 h.2 v (List.mem_of_mem_drop (List.mem_of_mem_take hv))
theorem d3_fits(x:W8)(la:List V)(hf:aC la=true)(o l c z:Nat):Fits 0 [.ptr 0 0,.slice 1 o l false c z] [.row x.cells 125 8,.row la 5 1] [some (.ptr 0 0),some (.slice 1 o l false c z)] [.row x.cells 125 8,.row la 5 1]:=
 ⟨[0,1],[.ptr 0 0,.slice 1 o l false c z],rfl,rfl,FitsM.of ⟨fb rfl rfl,fb hf rfl,trivial⟩,by decide,fun i hi=>by omega⟩
theorem d3_out(x:W8)(la:List V)(o l c z:Nat):Fits 0 [.ptr 0 0,.slice 1 o l false c z] [.row x.cells 125 8,.dead] [some (.ptr 0 0),some (.slice 1 o l false c z)] [.row x.cells 125 8,.row la 5 1]:=
 ⟨[0,1],[.ptr 0 0,.slice 1 o l false c z],rfl,rfl,FitsM.of ⟨fb rfl rfl,.inl rfl,trivial⟩,by decide,fun i hi=>by omega⟩
theorem d3_roundOk(y:D3)(hy:m9 y=true):ah Tryz.prog (TD okM mixE okB blkA) 10 10 (ad 10) 62 508 [3,4] (d3V y) (d3J y) (ay 0 m9 d3V d3J d3Mu (d3OutG sumL) y):=by
 obtain⟨la,x,off,len,cc,z⟩:=y;unfold m9 at hy;rw[Bool.and_eq_true,Bool.and_eq_true]at hy;have p1:okA la=true:=hy.1;have p2:off+len=la.length:=Nat.eq_of_beq_eq_true hy.2.1;have p3:len%64=0:=Nat.eq_of_beq_eq_true hy.2.2;have hf:aC la=true:=by have h:=p1;unfold okA at h;rw[Bool.and_eq_true]at h;exact h.1
 show ah Tryz.prog (TD okM mixE okB blkA) 10 10 (ad 10) 62 508 [3,4] [.ptr 0 0,.slice 1 off len false cc z] [.row [.int .u32 x.a,.int .u32 x.b,.int .u32 x.c,.int .u32 x.d,.int .u32 x.e,.int .u32 x.f,.int .u32 x.g,.int .u32 x.h] 125 8,.row la 5 1] _;rw[d3_round];unfold zu_0;refine ab (fun hb=>?_) (fun hb=>?_)
 ·have hl:64≤len:=by have:=of_decide_eq_true hb;omega
  have hle:Nat.ble 64 len=true:=Nat.ble_eq_true_of_le hl;refine aa (by rw[hle];rfl) (aa (okA_B p1 (by omega)) (aa rfl (aa (by rw[hle,Bool.true_and];exact Nat.ble_eq_true_of_le (Nat.le_refl _)) ?_)));refine⟨⟨la,mixE x (cF (blkA la off)),off+64,len-64,cc+64,off⟩,?_,d3_fits (mixE x (cF (blkA la off))) la hf _ _ _ _,by simp only[d3Mu];omega,fun K hK=>?_⟩
  ·unfold m9;rw[Bool.and_eq_true,Bool.and_eq_true];refine⟨p1,?_,?_⟩
   ·show Nat.beq (off+64+(len-64)) la.length=true;have:off+64+(len-64)=la.length:=by omega
    rw[this];exact Nat.beq_refl _
   ·show Nat.beq ((len-64)%64) 0=true;have:(len-64)%64=0:=by omega
    rw[this];rfl
  ·have hK:∀x':W8,x'=sumL (len/64) off la x→∀o c z:Nat,K (.exit 4) [.ptr 0 0,.slice 1 o 0 false c z] [.row x'.cells 125 8,.dead]:=hK;have e:len/64=(len-64)/64+1:=by omega
   rw[e]at hK;exact hK
 ·have hl:len=0:=by have:=of_decide_eq_false hb;omega
  subst hl;refine⟨[.ptr 0 0,.slice 1 off 0 false cc z],[.row x.cells 125 8,.dead],fun K hK=>?_,d3_out x la _ _ _ _⟩;have hK:∀x':W8,x'=sumL (0/64) off la x→∀o c z:Nat,K (.exit 4) [.ptr 0 0,.slice 1 o 0 false c z] [.row x'.cells 125 8,.dead]:=hK;rw[Nat.zero_div]at hK;exact hK x rfl off cc z
theorem dx_loop{f:Fr}{st:St}{Q:Exit→Fr→St→Prop}(h:br 0 (szOf Tryz.prog 62) [0,3,4] dxDec m7 dxV dxJ (dxOutG dxP) f st Q):CodeSatW Tryz.prog none 0 (.loop (cp Tryz.prog 62 60)) f st Q:=
 aU (P:=Tryz.prog) (T:=T3) (k:=0) (lim:=9) (n:=10) (g:=62) (p0:=60) (lk:=ad 9) mixed rh (aS 9 _ _) dxMu dx_roundOk h
def d3Dec:List (Option V)→St→Option D3
 |[some (.ptr 0 0),some (.slice b 0 len false 0 0)],.row [.int .u32 a1,.int .u32 a2,.int .u32 a3,.int .u32 a4,.int .u32 a5,.int .u32 a6,.int .u32 a7,.int .u32 a8] t sz::r=>match(Blk.dead::r)[b]? with
  |some (.row la _ _)=>some ⟨la,⟨a1,a2,a3,a4,a5,a6,a7,a8⟩,0,len,0,0⟩
  |_=>none
 |_,_=>none
theorem d3_loop{f:Fr}{st:St}{Q:Exit→Fr→St→Prop}(h:br 0 (szOf Tryz.prog 62) [3,4] d3Dec m9 d3V d3J (d3OutG sumL) f st Q):CodeSatW Tryz.prog none 0 (.loop (cp Tryz.prog 62 508)) f st Q:=
 aU (P:=Tryz.prog) (T:=TD okM mixE okB blkA) (k:=0) (lim:=10) (n:=10) (g:=62) (p0:=508) (lk:=ad 10) mixed TD_ok (aS 10 _ _) d3Mu d3_roundOk h
noncomputable def lk23(FP:List V→List V)(SL:Nat→Nat→List V→W8→W8):Nat→Trans→Trans:=aR 508 (br 0 (szOf Tryz.prog 62) [3,4] d3Dec m9 d3V d3J (d3OutG SL)) (aR 60 (br 0 (szOf Tryz.prog 62) [0,3,4] dxDec m7 dxV dxJ (dxOutG FP)) (ad 10))
theorem lk23_ok:aD Tryz.prog 0 (lk23 dxP sumL) 62:=by
 unfold lk23;exact bo (bo (aP 10 0 62) (by kernel_rfl) fun f st Q h=>dx_loop h) (by kernel_rfl) fun f st Q h=>d3_loop h
noncomputable def TD2(FP:List V→List V)(SL:Nat→Nat→List V→W8→W8):Tab:=⟨noT,noL,cn (aL 10) 62 0 (lk23 FP SL)⟩
theorem TD2_ok:TabOk3 Tryz.prog (TD2 dxP sumL):=⟨aA,aB,bc (ak 10) lk23_ok⟩
noncomputable def zu_1(s:List UInt8):=(u64.wrap (u64.wrap (↑s.length:Int)*8))
noncomputable def zu_2:=[V.int u32 1779033703,V.int u32 3144134277,V.int u32 1013904242,V.int u32 2773480762,V.int u32 1359893119,V.int u32 2600822924,V.int u32 528734635,V.int u32 1541459225]
noncomputable def zu_3(s:List UInt8):=[V.int u8 (u8.wrap ((zu_1 s).fdiv 72057594037927936))]
noncomputable def zu_4(s:List UInt8):=[V.int u8 (u8.wrap ((zu_1 s).fdiv 281474976710656))]
noncomputable def zu_5(s:List UInt8):=[V.int u8 (u8.wrap ((zu_1 s).fdiv 1099511627776))]
noncomputable def zu_6(s:List UInt8):=[V.int u8 (u8.wrap ((zu_1 s).fdiv 4294967296))]
noncomputable def zu_7(s:List UInt8):=[V.int u8 (u8.wrap ((zu_1 s).fdiv 16777216))]
noncomputable def zu_8(s:List UInt8):=[V.int u8 (u8.wrap ((zu_1 s).fdiv 65536))]
noncomputable def zu_9(s:List UInt8):=[V.int u8 (u8.wrap ((zu_1 s).fdiv 256))]
noncomputable def pM(s:List UInt8):=[V.int u8 (u8.wrap ((zu_1 s).fdiv 1))]
theorem sum_tree(FP:List V→List V)(SL:Nat→Nat→List V→W8→W8)(s:List UInt8)(R:V→Prop):runW Tryz.prog (TD2 FP SL) 10 10 62 [.str s] R=
 (
 bif s.length.ble 281474976710656 then bif (List.map (fun b=>V.int u8 (↑b.toNat:Int)) s).length.beq (s.length*1)then bif (s.length+1).ble
 9223372036854775807&&((s.length+1)*1).ble 140737488355328 then Fits 0 [.str s,.ptr 0 0,.slice 1 0 (List.map (fun b=>V.int u8 (↑b.toNat:
 Int)) s++[V.int u8 128]).length false 0 0] [.row zu_2 125 8,.row (List.map (fun b=>V.int u8 (↑b.toNat:Int)) s++[V.int u8
 128]) 5 1] [some (.str s),some (.ptr 0 0),some (.slice 3 0 (s.length+1) false 0 0)] [.row zu_2 125 8,.dead,.row [.int u8 128] 5 1,
 .row (List.map (fun b=>V.int u8 (↑b.toNat:Int)) s++[V.int u8 128]) 5 1]∧bif m7
 {s:=s,cs:=List.map (fun b=>V.int u8 (↑b.toNat:Int)) s++[V.int u8 128]}then ∀(p:List V),p=FP (List.map (fun b=>V.int
 u8 (↑b.toNat:Int)) s++[V.int u8 128])→bif p.length.beq (p.length*1)then bif (p.length+1).ble 9223372036854775807&&((p.length+1)*
 1).ble 140737488355328 then bif (p++(zu_3 s)).length.beq ((p.length+1)*1)then bif (p.length+1+1).ble 9223372036854775807&&((p.length+1+1)*
 1).ble 140737488355328 then bif (p++(zu_3 s)++(zu_4 s)).length.beq ((p.length+1+1)*1)then bif (p.length+1+1+1).ble 9223372036854775807&&
 ((p.length+1+1+1)*1).ble 140737488355328 then bif (p++(zu_3 s)++(zu_4 s)++(zu_5 s)).length.beq ((p.length+1+1+1)*1)then bif (p.length+1
 +1+1+1).ble 9223372036854775807&&((p.length+1+1+1+1)*1).ble 140737488355328 then bif (p++(zu_3 s)++(zu_4 s)++(zu_5 s)++(zu_6
 s)).length.beq ((p.length+1+1+1+1)*1)then bif (p.length+1+1+1+1+1).ble 9223372036854775807&&((p.length+1+1+1+1+1)*1).ble
 140737488355328 then bif (p++(zu_3 s)++(zu_4 s)++(zu_5 s)++(zu_6 s)++(zu_7 s)).length.beq ((p.length+1+1+1+1+1)*1)then bif (p.length+1+
 1+1+1+1+1).ble 9223372036854775807&&((p.length+1+1+1+1+1+1)*1).ble 140737488355328 then bif (p++(zu_3 s)++(zu_4 s)++(zu_5 s)++
 (zu_6 s)++(zu_7 s)++(zu_8 s)).length.beq ((p.length+1+1+1+1+1+1)*1)then bif (p.length+1+1+1+1+1+1+1).ble 9223372036854775807&&
 ((p.length+1+1+1+1+1+1+1)*1).ble 140737488355328 then bif (p++(zu_3 s)++(zu_4 s)++(zu_5 s)++(zu_6 s)++(zu_7 s)++(zu_8 s)++(zu_9
 s)).length.beq ((p.length+1+1+1+1+1+1+1)*1)then bif (p.length+1+1+1+1+1+1+1+1).ble 9223372036854775807&&((p.length+1+1+1
 +1+1+1+1+1)*1).ble 140737488355328 then Fits 0 [.ptr 0 0,.slice 1 0 (p.length+1+1+1+1+1+1+1+1) false 0 0] [.row zu_2 125 8,
 .row (p++(zu_3 s)++(zu_4 s)++(zu_5 s)++(zu_6 s)++(zu_7 s)++(zu_8 s)++(zu_9 s)++(pM s)) 5 1] [some (.ptr 0 0),some (.slice 17 0 (p.length
 +1+1+1+1+1+1+1+1) false 0 0)] [.row zu_2 125 8,.dead,.row (zu_3 s) 5 1,.dead,.row (zu_4 s) 5 1,.dead,.row (zu_5 s) 5 1,
 .dead,.row (zu_6 s) 5 1,.dead,.row (zu_7 s) 5 1,.dead,.row (zu_8 s) 5 1,.dead,.row (zu_9 s) 5 1,.dead,.row (pM s) 5 1,
 .row (p++(zu_3 s)++(zu_4 s)++(zu_5 s)++(zu_6 s)++(zu_7 s)++(zu_8 s)++(zu_9 s)++(pM s)) 5 1]∧bif m9
 {la:=p++(zu_3 s)++(zu_4 s)++(zu_5 s)++(zu_6 s)++(zu_7 s)++(zu_8 s)++(zu_9 s)++(pM s),x:={a:=1779033703,b:=3144134277,c:=1013904242,d:=2773480762,e:=1359893119,f:=2600822924,g:=528734635,h:=1541459225},off:=0,len:=p.length+1+1+1+1+1+1+1+1,cc:=0,z:=0}
 then ∀(x:W8),x=SL ((p.length+1+1+1+1+1+1+1+1)/64) 0 (p++(zu_3 s)++(zu_4 s)++(zu_5 s)++(zu_6 s)++(zu_7 s)++(zu_8 s)++(zu_9
 s)++(pM s)) {a:=1779033703,b:=3144134277,c:=1013904242,d:=2773480762,e:=1359893119,f:=2600822924,g:=528734635,h:=1541459225}→∀(o
 c z:Nat),R (.str (List.map Vm.byteOf [.int u8 (u8.wrap (x.a.fdiv 16777216)),.int u8 (u8.wrap (x.a.fdiv 65536)),.int
 u8 (u8.wrap (x.a.fdiv 256)),.int u8 (u8.wrap x.a),.int u8 (u8.wrap (x.b.fdiv 16777216)),.int u8
 (u8.wrap (x.b.fdiv 65536)),.int u8 (u8.wrap (x.b.fdiv 256)),.int u8 (u8.wrap x.b),.int u8 (u8.wrap
 (x.c.fdiv 16777216)),.int u8 (u8.wrap (x.c.fdiv 65536)),.int u8 (u8.wrap (x.c.fdiv 256)),.int u8 (u8.wrap
 x.c),.int u8 (u8.wrap (x.d.fdiv 16777216)),.int u8 (u8.wrap (x.d.fdiv 65536)),.int u8 (u8.wrap (x.d.fdiv
 256)),.int u8 (u8.wrap x.d),.int u8 (u8.wrap (x.e.fdiv 16777216)),.int u8 (u8.wrap (x.e.fdiv 65536)),.int
 u8 (u8.wrap (x.e.fdiv 256)),.int u8 (u8.wrap x.e),.int u8 (u8.wrap (x.f.fdiv 16777216)),.int u8
 (u8.wrap (x.f.fdiv 65536)),.int u8 (u8.wrap (x.f.fdiv 256)),.int u8 (u8.wrap x.f),.int u8 (u8.wrap
 (x.g.fdiv 16777216)),.int u8 (u8.wrap (x.g.fdiv 65536)),.int u8 (u8.wrap (x.g.fdiv 256)),.int u8 (u8.wrap
 x.g),.int u8 (u8.wrap (x.h.fdiv 16777216)),.int u8 (u8.wrap (x.h.fdiv 65536)),.int u8 (u8.wrap (x.h.fdiv
 256)),.int u8 (u8.wrap x.h)]))else False else False else False else False else False else False else False else False else False else False
 else False else False else False else False else False else False else False else False else False else False else False):=by kernel_rfl
theorem bY{o:List V}{k:Nat}{A:Prop}(h:o.length=k)(hk:k≤2000000)(hA:A):must (Nat.beq o.length (k*1)) (must ((k+1).ble 9223372036854775807&&((k+1)*1).ble 140737488355328) A):=by
 refine aa (by rw[h,Nat.mul_one];exact Nat.beq_refl _) (aa ?_ hA);rw[Bool.and_eq_true];exact⟨Nat.ble_eq_true_of_le (by omega),Nat.ble_eq_true_of_le (by omega)⟩
theorem aw{o:List V}{k:Nat}{v:V}(h:o.length=k):(o++[v]).length=k+1:=by rw[List.length_append,h];rfl
def lenD(n:Nat)(k:Int):V:=.int .u8 (u8.wrap ((u64.wrap (u64.wrap (n:Int)*8)).fdiv k))
def la8(p:List V)(n:Nat):List V:=((((((((p++[lenD n 72057594037927936])++[lenD n 281474976710656])++[lenD n 1099511627776])++[lenD n 4294967296])++[lenD n 16777216])++[lenD n 65536])++[lenD n 256])++[lenD n 1])
def outW(x:W8):List V:=[V.int .u8 (u8.wrap (x.a.fdiv 16777216)),V.int .u8 (u8.wrap (x.a.fdiv 65536)),V.int .u8 (u8.wrap (x.a.fdiv 256)),V.int .u8 (u8.wrap x.a),V.int .u8 (u8.wrap (x.b.fdiv 16777216)),V.int .u8 (u8.wrap (x.b.fdiv 65536)),V.int .u8 (u8.wrap (x.b.fdiv 256)),V.int .u8 (u8.wrap x.b),V.int .u8 (u8.wrap (x.c.fdiv 16777216)),V.int .u8 (u8.wrap (x.c.fdiv 65536)),V.int .u8 (u8.wrap (x.c.fdiv 256)),V.int .u8 (u8.wrap x.c),V.int .u8 (u8.wrap (x.d.fdiv 16777216)),V.int .u8 (u8.wrap (x.d.fdiv 65536)),V.int .u8 (u8.wrap (x.d.fdiv 256)),V.int .u8 (u8.wrap x.d),V.int .u8 (u8.wrap (x.e.fdiv 16777216)),V.int .u8 (u8.wrap (x.e.fdiv 65536)),V.int .u8 (u8.wrap (x.e.fdiv 256)),V.int .u8 (u8.wrap x.e),V.int .u8 (u8.wrap (x.f.fdiv 16777216)),V.int .u8 (u8.wrap (x.f.fdiv 65536)),V.int .u8 (u8.wrap (x.f.fdiv 256)),V.int .u8 (u8.wrap x.f),V.int .u8 (u8.wrap (x.g.fdiv 16777216)),V.int .u8 (u8.wrap (x.g.fdiv 65536)),V.int .u8 (u8.wrap (x.g.fdiv 256)),V.int .u8 (u8.wrap x.g),V.int .u8 (u8.wrap (x.h.fdiv 16777216)),V.int .u8 (u8.wrap (x.h.fdiv 65536)),V.int .u8 (u8.wrap (x.h.fdiv 256)),V.int .u8 (u8.wrap x.h)]
def padP(s:List UInt8):List V:=dxP (bys s++[V.int .u8 128])
def sumW(s:List UInt8):W8:=sumL (((padP s).length+1+1+1+1+1+1+1+1)/64) 0 (la8 (padP s) s.length) ivW
def sumF(s:List UInt8):List UInt8:=(outW (sumW s)).map Vm.byteOf
def sumT:List V→Option (List (Bool×(V×St)))
 |[.str s]=>some [(okL s,(.str (sumF s),[]))]
 |_=>none
theorem d3_fitsN(la:List V)(hf:aC la=true)(l c:Nat)(st:St)(h0:st[0]?=some (.row ivW.cells 125 8))(hc:st[c]?=some (.row la 5 1))(hc0:c≠0):Fits 0 [.ptr 0 0,.slice 1 0 l false 0 0] [.row ivW.cells 125 8,.row la 5 1] [some (.ptr 0 0),some (.slice c 0 l false 0 0)] st:=
 ⟨[0,c],[.ptr 0 0,.slice c 0 l false 0 0],rfl,rfl,FitsM.of ⟨.inr ⟨_,.inl rfl,h0⟩,fb hf hc,trivial⟩,by simp;omega,fun i hi=>by omega⟩
theorem okA_bys(s:List UInt8):okA (bys s)=true:=by
 unfold okA;rw[Bool.and_eq_true];refine⟨bys_flat s,?_⟩;unfold bys;rw[List.all_map,List.all_eq_true];intro b _;rfl
theorem cf{l r:List V}(h1:okA l=true)(h2:okA r=true):okA (l++r)=true:=by
 unfold okA at*
 rw[Bool.and_eq_true]at*
 exact⟨jy h1.1 h2.1,by rw[List.all_append,h1.2,h2.2];rfl⟩
theorem okA_rep(n:Nat):okA (List.replicate n (.int .u8 0))=true:=by
 induction n with
 |zero=>rfl
 |succ n ih=>rw[List.replicate_succ];exact cf (l:=[.int .u8 0]) rfl ih
theorem sum_ok(args:List V)(l:List (Bool×(V×St)))(o:V×St)(h:sumT args=some l)(ho:az l=some o):FnSat Tryz.prog 62 args [] (Is o):=by
 unfold sumT at h;split at h
 ·rename_i s;cases h;cases hk:okL s with
  |false=>rw[hk]at ho;cases ho
  |true=>
  rw[hk]at ho;cases ho;have p1:=okL_le hk;have hc:okA (bys s++[V.int .u8 128])=true:=cf (okA_bys s) rfl;have hcl:(bys s++[V.int .u8 128]).length=s.length+1:=aw (bys_len s);have hP:okA (padP s)=true:=cf hc (okA_rep _);have hPl:(padP s).length=s.length+1+dxN (s.length+1):=by unfold padP dxP;rw[List.length_append,List.length_replicate,hcl]
  have hN:dxN (s.length+1)<64:=by unfold dxN;omega
  have hM:(padP s).length%64=56:=by rw[hPl];unfold dxN;omega
  refine ax (lim:=10) (n:=10) mixed TD2_ok rfl rfl ?_;rw[sum_tree];unfold pM zu_9 zu_8 zu_7 zu_6 zu_5 zu_4 zu_3 zu_2 zu_1;refine aa (Nat.ble_eq_true_of_le (by omega)) (bY (bys_ln s) (by omega) ⟨?_,aa ?_ (fun p hp=>?_)⟩)
  ·have:=sK s (bys s++[V.int .u8 128]) (by have h:=hc;unfold okA at h;rw[Bool.and_eq_true]at h;exact h.1) (bys s++[V.int .u8 128]).length 3;have hcl2:(List.map (fun b:UInt8=>V.int .u8 (b.toNat:Int)) s++[V.int .u8 128]).length=s.length+1:=hcl;rw[hcl2];rw[hcl]at this;exact this _ rfl rfl (by omega)
  ·unfold m7;rw[Bool.and_eq_true];refine⟨by have h:=hc;unfold okA at h;rw[Bool.and_eq_true]at h;exact h.1,Nat.ble_eq_true_of_le ?_⟩;show(bys s++[V.int .u8 128]).length+dxN (bys s++[V.int .u8 128]).length≤1000000;rw[hcl];omega
  ·have hp:p=padP s:=hp;have hl:p.length≤200000:=by rw[hp];omega
   have hA:okA (la8 p s.length)=true:=by
    rw[hp];unfold la8;exact cf (cf (cf (cf (cf (cf (cf (cf hP rfl) rfl) rfl) rfl) rfl) rfl) rfl) rfl
   have hF:aC (la8 p s.length)=true:=by have h:=hA;unfold okA at h;rw[Bool.and_eq_true]at h;exact h.1
   have hL:(la8 p s.length).length=p.length+1+1+1+1+1+1+1+1:=aw (aw (aw (aw (aw (aw (aw (aw rfl)))))));refine bY rfl (by omega) (bY (aw rfl) (by omega) (bY (aw (aw rfl)) (by omega) (bY (aw (aw (aw rfl))) (by omega) (bY (aw (aw (aw (aw rfl)))) (by omega) (bY (aw (aw (aw (aw (aw rfl))))) (by omega) (bY (aw (aw (aw (aw (aw (aw rfl)))))) (by omega) (bY (aw (aw (aw (aw (aw (aw (aw rfl))))))) (by omega) (?_))))))));refine⟨?_,aa ?_ (fun x hx o c z=>?_)⟩
   ·exact d3_fitsN (la8 p s.length) hF _ _ _ rfl rfl (by omega)
   ·unfold m9;rw[Bool.and_eq_true,Bool.and_eq_true];refine⟨hA,?_,?_⟩
    ·show Nat.beq (0+(p.length+1+1+1+1+1+1+1+1)) (la8 p s.length).length=true;rw[hL,Nat.zero_add];exact Nat.beq_refl _
    ·show Nat.beq ((p.length+1+1+1+1+1+1+1+1)%64) 0=true;have:(p.length+1+1+1+1+1+1+1+1)%64=0:=by rw[hp];omega
     rw[this];rfl
   ·have hx:x=sumW s:=by rw[hx,hp];rfl
    rw[hx];rfl
 ·cases h
noncomputable def DG0:Tab:=⟨addT (addP noT 61 kQ) 62 sumT,noL,aL 9⟩
theorem DG0_ok:TabOk3 Tryz.prog DG0:=⟨aE (aN aA spki_ok) sum_ok,aB,ak 9⟩
theorem dig_tree(k:List UInt8)(R:V→Prop):runW Tryz.prog DG0 9 10 27 [.str k] R=
  (
 bif bN k==[]then R (.str [])else bif okL (bN k)then R (.str (sumF (bN k)))else False):=by kernel_rfl
def digB(k:List UInt8):List UInt8:=bif bN k==[]then[]else sumF (bN k)
def digP:List V→Option V
 |[.str k]=>some (.str (digB k))
 |_=>none
theorem dig_ok(args:List V)(v:V)(h:digP args=some v):FnSat Tryz.prog 27 args [] (Is (v,[])):=by
 unfold digP at h;split at h
 ·rename_i k;cases h;refine ax (lim:=9) (n:=10) mixed DG0_ok rfl rfl ?_;rw[dig_tree];unfold digB;refine ab (fun h=>?_) (fun h=>?_)
  ·rw[h];rfl
  ·rw[h];have hk:okL (bN k)=true:=by
    refine decide_eq_true ?_;unfold bN;split
    ·simp
    ·split
     ·simp
     ·have h1:=bB 4 k;have h2:=bB 48 (putB 4 k);omega
   rw[hk];rfl
 ·cases h
def lkT:List (Nat×V):=[(2,.ptr 0 0)]
noncomputable def lkRg:Array Tmp×Code×Code:=(eg (gD Tryz.prog 33)).getD (#[],.skip,.skip)
noncomputable def lkAs:Code:=lkRg.2.1
noncomputable def lkBd:Code:=lkRg.2.2
noncomputable def lkL(s:LoopState)(p:Option Code):Blk:=jm Tryz.prog 33 s p lkT 2
noncomputable def LK0:Tab:=⟨addP noT 27 digP,noL,aL 9⟩
theorem LK0_ok:TabOk3 Tryz.prog LK0:=⟨aN aA dig_ok,aB,ak 9⟩
theorem lk_round(b:Bool)(x:Value)(n:Nat)(cs:List V)(i:Int)(R:Exit→List (Option V)→St→Prop):ah Tryz.prog LK0 9 10 (ad 9) 103 6 [0,1,3] [.yield 3,.ptr 1 0,.int .i64 i] [.row [.bool b] 4 1,.row [.lst x n cs] 47 1,.defd,lkL .ready none] R=
  (
 bif decide (i<(↑n:Int))then bif decide (0≤i)&&decide (i<(↑n:Int))then bif (i.toNat*6+5).blt cs.length then bif dZ (cs.getD (i.toNat*6+5)
 (.bool false))then bif fd (cs.getD (i.toNat*6+5) (.bool false))then bif decide (0≤i64.wrap (i-1))&&decide (i64.wrap (i-1)<(↑n:
 Int))then bif ((i64.wrap (i-1)).toNat*6+1).blt cs.length then bif al (cs.getD ((i64.wrap (i-1)).toNat*6+1) (.bool false))then bif
 decide (0≤i)&&decide (i<(↑n:Int))then bif (i.toNat*6+0).blt cs.length then bif al (cs.getD (i.toNat*6+0) (.bool false))then bif ac (cs.getD
 ((i64.wrap (i-1)).toNat*6+1) (.bool false))==digB (ac (cs.getD (i.toNat*6+0) (.bool false)))then R .normal [some (V.yield 3),some (.ptr 1
 0),some (.int i64 (i64.wrap (i+1)))] [.row [.bool b] 4 1,.row [.lst x n cs] 47 1,Blk.defd,lkL LoopState.ready none]else R .ret [some
 (V.yield 3),some (.ptr 1 0),some (.int i64 i)] [.row [.bool false] 4 1,.row [.lst x n cs] 47 1,Blk.defd,lkL LoopState.done (some Code.ret)]else
 False else False else False else False else False else False else R .ret [some (V.yield 3),some (.ptr 1 0),some (.int i64 i)] [.row [.bool false] 4 1,
 .row [.lst x n cs] 47 1,Blk.defd,lkL LoopState.done (some Code.ret)]else False else False else False else R (.exit 0) [some (V.yield 3),some (.ptr 1 0),some
 (.int i64 i)] [.row [.bool b] 4 1,.row [.lst x n cs] 47 1,Blk.defd,lkL LoopState.ready none]):=by kernel_rfl
def cw:List CR→Bool
 |a::b::r=>b.ca&&((a.g==digB b.k)&&cw (b::r))
 |_=>true
structure LK where
 b:Bool
 x:Value
 n:Nat
 cs:List V
 i:Nat
def lkV(y:LK):List V:=[.yield 3,.ptr 1 0,.int .i64 (y.i+1:Nat)]
noncomputable def lkM(b:Bool)(x:Value)(n:Nat)(cs:List V)(s:LoopState)(p:Option Code):St:=[.row [.bool b] 4 1,.row [.lst x n cs] 47 1,.defd,lkL s p]
noncomputable def lkJ(y:LK):St:=lkM y.b y.x y.n y.cs .ready none
def mU(y:LK):Bool:=okR y.n y.cs&&Nat.ble y.i y.n
def lkMu(y:LK):Nat:=y.n-y.i
def lkDec:List (Option V)→St→Option LK
 |[some (.yield 3),some (.ptr 1 0),some (.int .i64 1)],.row [.bool b] _ _::.row [.lst x n cs] _ _::_=>some ⟨b,x,n,cs,0⟩
 |_,_=>none
def linkV(cs:List V)(i:Nat):Bool:=cw ((crD [] cs).drop i)
noncomputable def lkOutG(b:Bool)(x:Value)(n:Nat)(cs:List V)(c:Bool)(K:Exit→List V→St→Prop):Prop:=
 bif c then ∀j:Int,K (.exit 0) [.yield 3,.ptr 1 0,.int .i64 j] (lkM b x n cs .ready none)else ∀j:Int,K .ret [.yield 3,.ptr 1 0,.int .i64 j] (lkM false x n cs .done (some .ret))
noncomputable def lkOut:Asks LK:=fun y K=>lkOutG y.b y.x y.n y.cs (linkV y.cs y.i) K
theorem lkL_fit(σ:List Nat)(h0:σ[0]?=some 0)(h2:σ[2]?=some 2)(s:LoopState)(p:Option Code):FitB σ (lkL s p) (lkL s p):=by
 unfold lkL jm;split
 ·refine .inr ⟨_,_,_,_,_,_,_,_,_,_,rfl,rfl,h2,FitT.of (fun t v hm=>?_)⟩;simp only[lkT,List.mem_cons,Prod.mk.injEq,List.not_mem_nil,or_false]at hm;obtain⟨rfl,rfl⟩:=hm;exact⟨.ptr 0 0,by simp[renV,h0],rfl⟩
 ·exact .inl rfl
theorem sq(b:Bool)(x:Value)(n:Nat)(cs:List V)(j:Int)(s:LoopState)(p:Option Code):Fits 4 [.yield 3,.ptr 1 0,.int .i64 j] (lkM b x n cs s p) [some (.yield 3),some (.ptr 1 0),some (.int .i64 j)] (lkM b x n cs s p):=
 ⟨[0,1,2,3],[.yield 3,.ptr 1 0,.int .i64 j],rfl,rfl,FitsM.of ⟨.inr ⟨_,.inl rfl,rfl⟩,.inr ⟨_,.inl rfl,rfl⟩,.inr ⟨_,.inl rfl,rfl⟩,.inr ⟨_,lkL_fit _ rfl rfl s p,rfl⟩,trivial⟩,by decide,fun i hi=>by
   match i,hi with
   |0,_|1,_|2,_|3,_=>rfl⟩
theorem lk_roundOk(y:LK)(hx:mU y=true):ah Tryz.prog LK0 9 10 (ad 9) 103 6 [0,1,3] (lkV y) (lkJ y) (ay 4 mU lkV lkJ lkMu lkOut y):=by
 obtain⟨b,x,n,cs,i⟩:=y;unfold mU at hx;rw[Bool.and_eq_true]at hx;have p1:i≤n:=Nat.le_of_ble_eq_true hx.2;have hx1:okR n cs=true:=hx.1;obtain⟨p2,p3,p4,p5⟩:=oG hx1;show ah Tryz.prog LK0 9 10 (ad 9) 103 6 [0,1,3] [.yield 3,.ptr 1 0,.int .i64 ((i+1:Nat):Int)] [.row [.bool b] 4 1,.row [.lst x n cs] 47 1,.defd,lkL .ready none] _;rw[lk_round];have out:∀K,lkOut ⟨b,x,n,cs,i⟩ K→lkOutG b x n cs (cw ((crD [] cs).drop i)) K:=fun K hK=>hK;by_cases hi:i+1<n
 ·obtain⟨a,r,ha⟩:∃a r,(crD [] cs).drop i=a::r:=by
   cases hd:(crD [] cs).drop i with
   |nil=>have:=congrArg List.length hd;simp at this;omega
   |cons a r=>exact⟨a,r,rfl⟩
  obtain⟨_,ha2,_⟩:=bh ha;obtain⟨c,q,hc⟩:∃c q,r=c::q:=by
   cases r with
   |nil=>have:=congrArg List.length ha;simp at this;omega
   |cons c q=>exact⟨c,q,rfl⟩
  subst hc;have A:=cr_at p2 ha;have C:=cr_at p2 ha2;have w1:i64.wrap (((i+1:Nat):Int)-1)=(i:Int):=by rw[IntWalk.i64_in _ ⟨by omega,by omega⟩];omega
  have w2:i64.wrap (((i+1:Nat):Int)+1)=((i+1+1:Nat):Int):=by rw[IntWalk.i64_in _ ⟨by omega,by omega⟩];omega
  have d1:decide (((i+1:Nat):Int)<(n:Int))=true:=decide_eq_true (by omega);have d2:decide ((0:Int)≤((i+1:Nat):Int))=true:=decide_eq_true (by omega);have d3:decide ((i:Int)<(n:Int))=true:=decide_eq_true (by omega);have d4:decide ((0:Int)≤(i:Int))=true:=decide_eq_true (by omega);have l5:((i+1)*6+5).blt cs.length=true:=Nat.ble_eq_true_of_le (by omega);have l1:(i*6+1).blt cs.length=true:=Nat.ble_eq_true_of_le (by omega);have l0:((i+1)*6+0).blt cs.length=true:=Nat.ble_eq_true_of_le (by omega);simp only[w1,w2,d1,d2,d3,d4,Int.toNat_natCast,l5,l1,l0,A.g,C.ca,C.k,dZ,fd,al,ac,Bool.and_self,cond_true];have next:(cw ((crD [] cs).drop i))=(c.ca&&((a.g==digB c.k)&&cw ((crD [] cs).drop (i+1)))):=by rw[ha,ha2];rfl
  have bad:cw ((crD [] cs).drop i)=false→ay 4 mU lkV lkJ lkMu lkOut ⟨b,x,n,cs,i⟩ .ret [some (.yield 3),some (.ptr 1 0),some (.int .i64 ((i+1:Nat):Int))] [.row [.bool false] 4 1,.row [.lst x n cs] 47 1,.defd,lkL .done (some .ret)]:=fun h=>by
   refine⟨_,_,fun K hK=>?_,sq false x n cs _ .done (some .ret)⟩;have hK:=out K hK;rw[h]at hK;exact hK _
  refine ab (fun h1=>?_) (fun h1=>bad (by rw[next,h1];rfl));refine ab (fun h2=>?_) (fun h2=>bad (by rw[next,h1,h2];rfl));rw[h1,h2,Bool.true_and,Bool.true_and]at next
  refine⟨⟨b,x,n,cs,i+1⟩,?_,sq b x n cs _ .ready none,by simp only[lkMu];omega,fun K hK=>?_⟩
  ·unfold mU;rw[Bool.and_eq_true];exact⟨hx1,Nat.ble_eq_true_of_le (show i+1≤n by omega)⟩
  ·have hK:=out K hK;rw[next]at hK;exact hK
 ·rw[decide_eq_false (show ¬(((i+1:Nat):Int)<(n:Int)) by omega),cond_false];refine⟨_,_,fun K hK=>?_,sq b x n cs _ .ready none⟩;have hK:=out K hK;have:cw ((crD [] cs).drop i)=true:=by
   match hd:(crD [] cs).drop i with
   |[]=>rfl
   |[_]=>rfl
   |_::_::_=>have:=congrArg List.length hd;simp at this;omega
  rw[this]at hK;exact hK _
noncomputable def lkLK:Nat→Trans→Trans:=aR 6 (br 4 (szOf Tryz.prog 103) [0,1,3] lkDec mU lkV lkJ lkOut) (ad 9)
theorem lkLK_ok:aD Tryz.prog 4 lkLK 103:=by
 unfold lkLK;exact bo (aP 9 4 103) (by kernel_rfl) fun f st Q h=>aU (P:=Tryz.prog) (T:=LK0) (k:=4) (lim:=9) (n:=10) (g:=103) (p0:=6) (lk:=ad 9) mixed LK0_ok (aS 9 _ _) lkMu lk_roundOk h
noncomputable def LK1:Tab:=⟨addP noT 27 digP,noL,cn (aL 9) 103 4 lkLK⟩
theorem LK1_ok:TabOk3 Tryz.prog LK1:=⟨aN aA dig_ok,aB,bc (ak 9) lkLK_ok⟩
theorem link_tree(x:Value)(n:Nat)(cs:List V)(R:V→Prop):runW Tryz.prog LK1 9 10 33 [.lst x n cs] R=
  (
 Fits 4 [V.yield 3,.ptr 1 0,.int i64 1] [.row [.bool false] 4 1,.row [.lst x n cs] 47 1,Blk.defd,lkL LoopState.ready none] [some (V.yield 3),some
 (.ptr 1 0),some (.int i64 1)] [.row [.bool false] 4 1,.row [.lst x n cs] 47 1,Blk.defd,Blk.loop LoopState.ready none 11 ((Tr.lf.nd none (Tr.lf.nd
 (some (.lst x n cs)) Tr.lf)).nd (some (.lst x n cs)) (Tr.lf.nd (some (.ptr 0 0)) (Tr.lf.nd (some (V.func (Fn.func 103) [] [.ptr 1 0])) Tr.lf))) {toList:=[7,8]}
 lkAs lkBd 2]∧bif mU {b:=false,x:=x,n:=n,cs:=cs,i:=0}then bif linkV cs 0 then ∀(j:Int),R (.bool true)else ∀(j:Int),R (.bool false)else
 False):=by kernel_rfl
theorem lk_enter(b:Bool)(x:Value)(n:Nat)(cs:List V)(T2:Tr)(h2:T2.get 2=some (.ptr 0 0)):
  Fits 4 [.yield 3,.ptr 1 0,.int .i64 1] [.row [.bool b] 4 1,.row [.lst x n cs] 47 1,.defd,lkL .ready none] [some (.yield 3),some (.ptr 1 0),some (.int .i64 1)] [.row [.bool b] 4 1,.row [.lst x n cs] 47 1,.defd,.loop .ready none 11 T2 {toList:=[7,8]} lkAs lkBd 2]:=by
 have hL:lkL .ready none=.loop .ready none 11 (jM .lf lkT) {toList:=[7,8]} lkAs lkBd 2:=by kernel_rfl
 refine⟨[0,1,2,3],[.yield 3,.ptr 1 0,.int .i64 1],rfl,rfl,FitsM.of ?_,by decide,fun i hi=>by
  match i,hi with
  |0,_|1,_|2,_|3,_=>rfl⟩
 refine⟨.inr ⟨_,.inl rfl,rfl⟩,.inr ⟨_,.inl rfl,rfl⟩,.inr ⟨_,.inl rfl,rfl⟩,.inr ⟨_,?_,rfl⟩,trivial⟩;rw[hL];refine .inr ⟨_,_,_,_,_,_,_,_,_,_,rfl,rfl,rfl,FitT.of fun t v hm=>?_⟩;simp only[lkT,List.mem_cons,Prod.mk.injEq,List.not_mem_nil,or_false]at hm;obtain⟨rfl,rfl⟩:=hm;exact⟨_,rfl,h2⟩
theorem link_sat(x:Value)(n:Nat)(cs:List V)(h:okR n cs=true):FnSat Tryz.prog 33 [.lst x n cs] [] (Is (.bool (cw (crD [] cs)),[])):=by
 refine ax (lim:=9) (n:=10) mixed LK1_ok rfl rfl ?_;rw[link_tree];refine⟨lk_enter _ _ _ _ _ rfl,aa ?_ ?_⟩
 ·unfold mU;rw[Bool.and_eq_true];exact⟨h,Nat.ble_eq_true_of_le (Nat.zero_le _)⟩
 ·have e:linkV cs 0=cw (crD [] cs):=rfl;rw[←e];cases linkV cs 0 with
  |true=>intro j;rfl
  |false=>intro j;rfl
def qD:List V→St→Option (List (Bool×(V×St)))
 |[p],st=>match gG st p with
  |some (b,l)=>some [(b&&Nat.ble l.length 9223372036854775807,(.bool (cw l),st))]
  |none=>none
 |_,_=>none
theorem linkG_ok(args:List V)(s:St)(l:List (Bool×(V×St)))(o:V×St)(h:qD args s=some l)(ho:az l=some o):FnSat Tryz.prog 33 args s (Is o):=by
 unfold qD at h;split at h
 ·rename_i p;split at h
  ·rename_i b ls hv;cases h;obtain⟨hb,rfl⟩:=aJ ho;rw[Bool.and_eq_true]at hb;obtain⟨rfl,h1⟩:=hb;refine cE rfl fun B W0 w m rargs hr ha=>?_;obtain⟨a,r,q1,q2,rfl⟩:=aj ha;obtain⟨L,e1,e2,e3⟩:=nN hr hv q1;have q3:=bL (Ψ:=Frz.of w) (m':=[]) _ _ rfl q2;have hl:L.length≤9223372036854775807:=by rw[←List.length_map (f:=(·.c)),e1];exact Nat.le_of_ble_eq_true h1
   have:=@link_sat (Frz.of w) a L.length (crs L) (okR_mk hl e3);rw[lJ,e1]at this;exact⟨[lstR a L],@aH _ (Frz.of w) [] _ _ _ _ e2 q3,this⟩
  ·cases h
 ·cases h
theorem nL{P:Program}{g:FuncId}{args:List V}{v v':V}{s s':St}(h:FnSat P g args [] (Is (v,s)))(H:∀(B:Nat) (W0 w:World) (m:List MB) (x:Value),Rel B W0 m s w→real m v=some x→∃m',Rel B W0 m' s' w∧real m' v'=some x):FnSat P g args [] (Is (v',s')):=by
 intro B W0 m w rargs ha hr;refine(h B W0 m w rargs ha hr).mono ?_;rintro e w' ⟨u,x,m1,s1,rfl,_,h2,h3,hq⟩;cases hq;obtain⟨m2,h4,h5⟩:=H B W0 w' m1 x h3 h2;have hm:m=[]:=List.eq_nil_of_length_eq_zero hr.len;subst hm;exact⟨v',x,m2,s',rfl,fun i e hi=>by simp at hi,h5,h4,rfl⟩
theorem ro_rel{B:Nat}{W0 w:World}{m:List MB}{cs:List V}{t:TypeId}{sz:Nat}(h:Rel B W0 m [.row cs t sz] w):Rel B W0 m [.ro true cs] w:=by
 refine⟨h.len,h.base,h.below,fun i b e hb he=>?_,fun i j b c d e _ h1 h2 _ _ _ _=>?_,h.glob⟩
 ·match i,hb with
  |0,hb=>
   simp only[List.getElem?_cons_zero,Option.some.injEq]at hb;subst hb;have h1:=h.blk 0 _ e rfl he;obtain⟨_,arr,ty,fz,g1,g2⟩:=h1.toRo B;exact⟨fun _=>h1.1,arr,ty,fz,g1,g2⟩
  |i+1,hb=>simp at hb
 ·match i,h1 with
  |0,h1=>
   simp only[List.getElem?_cons_zero,Option.some.injEq]at h1;subst h1;cases h2
  |i+1,h1=>simp at h1
def outN(s:List UInt8):V×St:=(.tuple [.agg [.str (dK s),.str (dG s),.nos 0 (dN s),.int .i64 (dF s),.int .i64 (dU s),.bool (dCa s)],.int .i64 0],[.ro true (strs (dL s))])
def decN:List V→Option (List (Bool×(V×St)))
 |[.str s]=>some [(Nat.blt 512 s.length,(.tuple [gV,.int .i64 40],[])),(decE s !=0,(.tuple [gV,.int .i64 4],[])),(true,outN s)]
 |_=>none
theorem kM{m m':List MB}{k g:List UInt8}{p p':V}{f u e:Int}{ca:Bool}{x:Value}(H:∀y,real m p=some y→real m' p'=some y)(hx:real m (.tuple [.agg [.str k,.str g,p,.int .i64 f,.int .i64 u,.bool ca],.int .i64 e])=some x):
  real m' (.tuple [.agg [.str k,.str g,p',.int .i64 f,.int .i64 u,.bool ca],.int .i64 e])=some x:=by
 cases hp:real m p with
 |none=>simp[real,ai,hp]at hx
 |some y=>
  have:=H y hp;simp only[real,ai,hp]at hx;simp only[real,ai,this];exact hx
theorem decN_ok(args:List V)(l:List (Bool×(V×St)))(o:V×St)(h:decN args=some l)(ho:az l=some o):FnSat Tryz.prog 16 args [] (Is o):=by
 unfold decN at h;split at h
 ·rename_i s;cases h;have big:Nat.blt 512 s.length=decide ((s.length:Int)>512):=by
   cases hq:decide ((s.length:Int)>512)with
   |true=>have:=of_decide_eq_true hq;exact Nat.ble_eq_true_of_le (by omega)
   |false=>
    have:=of_decide_eq_false hq;cases hb:Nat.blt 512 s.length with
    |false=>rfl
    |true=>have:=Nat.le_of_ble_eq_true hb;omega
  cases hb:Nat.blt 512 s.length with
  |true=>
   rw[hb]at ho;cases ho;have he:decE s=40:=by unfold decE;rw[←big,hb];rfl
   exact sL [.str s] _ _ rfl (by rw[he];rfl)
  |false=>
  rw[hb]at ho;cases he:(decE s !=0)with
  |true=>
   rw[he]at ho;cases ho;have h4:decE s=4:=by
    unfold decE at he ⊢;rw[←big,hb,cond_false]at he ⊢;cases hc:decC s with
    |none=>rfl
    |some _=>rw[hc]at he;cases he
   exact sL [.str s] _ _ rfl (by rw[h4];rfl)
  |false=>
   rw[he]at ho;cases ho;cases hn:Nat.beq (dN s) 0 with
   |true=>
    have h0:dL s=[]:=List.eq_nil_of_length_eq_zero (Nat.eq_of_beq_eq_true hn);have hd:dN s=0:=Nat.eq_of_beq_eq_true hn;have hE:decE s=0:=by simpa using he
    obtain⟨c,hc⟩:=(jb s).1 hE;have hdc:dCd s=c:=by unfold dCd;rw[hc];rfl
    have hcl:c.l=[]:=by have:=h0;unfold dL at this;rw[hdc]at this;exact this
    have eo:outD s=(.tuple [.agg [.str (dK s),.str (dG s),.nilSlice,.int .i64 (dF s),.int .i64 (dU s),.bool (dCa s)],.int .i64 0],[]):=by
     unfold outD dK dG dF dU dCa;rw[hdc,hc];simp only[hcl]
    intro B W0 m w rargs ha hr;refine((dj mixed F1_ok (de_all s)) B W0 m w rargs ha hr).mono ?_;rintro e w' ⟨u,x,m1,s1,rfl,_,h2,h3,hq⟩;obtain⟨b,hb⟩:=hq.2 hE (by rw[eo]);obtain⟨e1,hole,hrel⟩:=visF_rel h3 hb;have hm:m=[]:=List.eq_nil_of_length_eq_zero hr.len;subst hm;obtain⟨σ,us,k1,k2,_⟩:=hq.1;rw[eo]at k2;simp only[renL,renV,Option.some.injEq]at k2;subst k2;simp only[List.map_cons,List.map_nil,List.cons.injEq,Option.some.injEq,and_true]at k1;subst k1;refine⟨(outN s).1,x,[e1],(outN s).2,rfl,fun i e hi=>by simp at hi,?_,by unfold outN;rw[h0];exact hrel,rfl⟩;unfold outN;rw[hd];refine kM (fun y hy=>?_) h2;simp only[real,Option.some.injEq]at hy;subst hy;simp[real,at?,hole]
   |false=>
    have h1:=sL [.str s] _ (.tuple [.agg [.str (dK s),.str (dG s),.slice 0 0 (dN s) false 0 0,.int .i64 (dF s),.int .i64 (dU s),.bool (dCa s)],.int .i64 0],[.row (strs (dL s)) 9 1]) rfl (by rw[he,hn];rfl);refine nL h1 fun B W0 w m x hr hx=>?_;refine⟨m,ro_rel hr,kM (fun y hy=>?_) hx⟩;obtain⟨e,cap,g1,g2,g3,rfl⟩:=bt hy;have hd:dN s≠0:=fun h0=>by rw[h0]at hn;cases hn
    simp only[Bool.false_eq_true,if_false,Nat.sub_zero]at g2;subst g2;have hc:(if e.cap=0 then 0 else 0)=0:=by split<;>rfl
    simp only[real,g1,if_neg hd,if_pos g3,hc,Nat.add_zero]
 ·cases h
noncomputable def RD0:Tab:=⟨addT noT 16 decN,noL,aL 5⟩
theorem RD0_ok:TabOk3 Tryz.prog RD0:=⟨aE aA decN_ok,aB,ak 5⟩
def tk4(n:Nat)(cs:List V):List V:=List.take (((if 4<(↑n:Int)then 4 else(↑n:Int)).toNat-0)*1) cs
def el4(n:Nat)(cs:List V)(j:Nat):List UInt8:=ac ((tk4 n cs).getD j (V.bool false))
def ln4(n:Nat):Int:=if 4<(↑n:Int)then 4 else(↑n:Int)
noncomputable def zw_0(n:Nat)(cs:List V):=[V.str ((dK (el4 n cs 0))),V.str ((dG (el4 n cs 0))),V.nos 0 (dN (el4 n cs 0)),V.int i64 (dF (el4 n cs 0)),V.int i64 (dU (el4 n cs 0)),V.bool (dCa (el4 n cs 0)),V.str ((dK (el4 n cs 1))),V.str ((dG (el4 n cs 1))),V.nos 4 (dN (el4 n cs 1)),V.int i64 (dF (el4 n cs 1)),V.int i64 (dU (el4 n cs 1)),V.bool (dCa (el4 n cs 1)),V.str ((dK (el4 n cs 2))),V.str ((dG (el4 n cs 2))),V.nos 8 (dN (el4 n cs 2)),V.int i64 (dF (el4 n cs 2)),V.int i64 (dU (el4 n cs 2)),V.bool (dCa (el4 n cs 2)),V.str ((dK (el4 n cs 3))),V.str ((dG (el4 n cs 3))),V.nos 12 (dN (el4 n cs 3)),V.int i64 (dF (el4 n cs 3)),V.int i64 (dU (el4 n cs 3)),V.bool (dCa (el4 n cs 3))]
noncomputable def zw_1(n:Nat)(cs:List V):=[V.str ((dK (el4 n cs 0))),V.str ((dG (el4 n cs 0))),V.nos 0 (dN (el4 n cs 0)),V.int i64 (dF (el4 n cs 0)),V.int i64 (dU (el4 n cs 0)),V.bool (dCa (el4 n cs 0)),V.str ((dK (el4 n cs 1))),V.str ((dG (el4 n cs 1))),V.nos 4 (dN (el4 n cs 1)),V.int i64 (dF (el4 n cs 1)),V.int i64 (dU (el4 n cs 1)),V.bool (dCa (el4 n cs 1)),V.str ((dK (el4 n cs 2))),V.str ((dG (el4 n cs 2))),V.nos 8 (dN (el4 n cs 2)),V.int i64 (dF (el4 n cs 2)),V.int i64 (dU (el4 n cs 2)),V.bool (dCa (el4 n cs 2))]
noncomputable def zw_2(n:Nat)(cs:List V):=[V.str ((dK (el4 n cs 0))),V.str ((dG (el4 n cs 0))),V.nos 0 (dN (el4 n cs 0)),V.int i64 (dF (el4 n cs 0)),V.int i64 (dU (el4 n cs 0)),V.bool (dCa (el4 n cs 0)),V.str ((dK (el4 n cs 1))),V.str ((dG (el4 n cs 1))),V.nos 4 (dN (el4 n cs 1)),V.int i64 (dF (el4 n cs 1)),V.int i64 (dU (el4 n cs 1)),V.bool (dCa (el4 n cs 1))]
noncomputable def zw_3(n:Nat)(cs:List V):=[V.str ((dK (el4 n cs 0))),V.str ((dG (el4 n cs 0))),V.nos 0 (dN (el4 n cs 0)),V.int i64 (dF (el4 n cs 0)),V.int i64 (dU (el4 n cs 0)),V.bool (dCa (el4 n cs 0))]
noncomputable def zw_4(n:Nat)(cs:List V):=[Blk.ro true (strs (dL (el4 n cs 0))),Blk.dead,Blk.dead,Blk.dead,Blk.ro true (av 4 (strs (dL (el4 n cs 1)))),Blk.dead,Blk.dead,Blk.dead,Blk.ro true (av 8 (strs (dL (el4 n cs 2)))),Blk.dead,Blk.dead,Blk.dead,Blk.ro true (av 12 (strs (dL (el4 n cs 3)))),Blk.dead,Blk.dead,Blk.row (zw_0 n cs) 35 6,Blk.dead]
noncomputable def zw_5(n:Nat)(cs:List V):=[Blk.ro true (strs (dL (el4 n cs 0))),Blk.dead,Blk.dead,Blk.dead,Blk.ro true (av 4 (strs (dL (el4 n cs 1)))),Blk.dead,Blk.dead,Blk.dead,Blk.ro true (av 8 (strs (dL (el4 n cs 2)))),Blk.dead,Blk.dead,Blk.row (zw_1 n cs) 35 6,Blk.dead]
noncomputable def zw_6(n:Nat):=(↑((ln4 n).toNat-0):Int)
noncomputable def zw_7(n:Nat)(cs:List V):=[Blk.ro true (strs (dL (el4 n cs 0))),Blk.dead,Blk.dead,Blk.dead,Blk.ro true (av 4 (strs (dL (el4 n cs 1)))),Blk.dead,Blk.dead,Blk.row (zw_2 n cs) 35 6,Blk.dead]
theorem chain_tree(x:Value)(n:Nat)(cs:List V)(R:V→St→Prop):runM Tryz.prog RD0 5 10 28 [.lst x n cs] (fun v st=>R v (visD v st))=
 (
 bif decide (0≤if 4<(↑n:Int)then 4 else(↑n:Int))then bif true&&(ln4 n).toNat.ble n then bif decide (0<(zw_6 n))then bif true&&decide (0<(zw_6
 n))then bif Nat.blt 0 (tk4 n cs).length then bif al ((tk4 n cs).getD 0 (.bool false))then bif Nat.blt 512 (el4 n cs 0).length then R .nilSlice [.dead]
 else bif decE (el4 n cs 0)!=0 then R .nilSlice [.dead]else bif decide (1<(zw_6 n))then bif true&&decide (1<(zw_6 n))then bif Nat.blt 1 (tk4 n
 cs).length then bif al ((tk4 n cs).getD 1 (.bool false))then bif Nat.blt 512 (el4 n cs 1).length then R (.slice 3 0 1 false 0 0) [.ro true (strs (dL
 (el4 n cs 0))),.dead,.dead,.row (zw_3 n cs) 35 6,.dead]else bif decE (el4 n cs 1)!=0 then R (.slice 3 0 1 false 0 0) [.ro true (strs (dL
 (el4 n cs 0))),.dead,.dead,.row (zw_3 n cs) 35 6,.dead]else bif decide (2<(zw_6 n))then bif true&&decide (2<(zw_6 n))then bif Nat.blt 2
 (tk4 n cs).length then bif al ((tk4 n cs).getD 2 (.bool false))then bif Nat.blt 512 (el4 n cs 2).length then R (.slice 7 0 2 false 0 0) (zw_7 n cs)else
 bif decE (el4 n cs 2)!=0 then R (.slice 7 0 2 false 0 0) (zw_7 n cs)else bif decide (3<(zw_6 n))then bif true&&decide (3<(zw_6 n))then bif Nat.blt 3
 (tk4 n cs).length then bif al ((tk4 n cs).getD 3 (.bool false))then bif Nat.blt 512 (el4 n cs 3).length then R (.slice 11 0 3 false 0 0) (zw_5 n cs)else
 bif decE (el4 n cs 3)!=0 then R (.slice 11 0 3 false 0 0) (zw_5 n cs)else bif decide (4<(zw_6 n))then bif true&&decide (4<(zw_6 n))then bif Nat.blt 4
 (tk4 n cs).length then bif al ((tk4 n cs).getD 4 (.bool false))then bif Nat.blt 512 (el4 n cs 4).length then R (.slice 15 0 4 false 0 0) (zw_4 n cs)else
 bif decE (el4 n cs 4)!=0 then R (.slice 15 0 4 false 0 0) (zw_4 n cs)else False else False else False else False else R (.slice 15 0 4 false 0 0) [.ro
 true (strs (dL (el4 n cs 0))),.dead,.dead,.dead,.ro true (av 4 (strs (dL (el4 n cs 1)))),.dead,.dead,.dead,.ro true (av 8
 (strs (dL (el4 n cs 2)))),.dead,.dead,.dead,.ro true (av 12 (strs (dL (el4 n cs 3)))),.dead,.dead,.row (zw_0 n cs) 35 6]else
 False else False else False else R (.slice 11 0 3 false 0 0) [.ro true (strs (dL (el4 n cs 0))),.dead,.dead,.dead,.ro true (av 4 (strs
 (dL (el4 n cs 1)))),.dead,.dead,.dead,.ro true (av 8 (strs (dL (el4 n cs 2)))),.dead,.dead,.row (zw_1 n cs) 35 6]else False else
 False else False else R (.slice 7 0 2 false 0 0) [.ro true (strs (dL (el4 n cs 0))),.dead,.dead,.dead,.ro true (av 4 (strs (dL (el4 n cs
 1)))),.dead,.dead,.row (zw_2 n cs) 35 6]else False else False else False else R (.slice 3 0 1 false 0 0) [.ro true (strs (dL (el4 n cs 0))),
 .dead,.dead,.row (zw_3 n cs) 35 6]else False else False else False else R .nilSlice []else False else False):=by kernel_rfl
def i3:List (List UInt8)→List (List UInt8)
 |[]=>[]
 |s::r=>bif decE s==0 then s::i3 r else[]
def ot(l:List (List UInt8)):List (List UInt8):=i3 (l.take 4)
def rdG(l:List (List UInt8))(j:Nat):List UInt8:=l.getD j []
def rdA(s:List UInt8)(k:Nat)(r:List V):List V:=.str (dK s)::.str (dG s)::.nos k (dN s)::.int .i64 (dF s)::.int .i64 (dU s)::.bool (dCa s)::r
def rdO(l:List (List UInt8)):Nat→V×St
 |0=>(.nilSlice,[])
 |1=>(.slice 0 0 1 false 0 0,[.row (rdA (rdG l 0) 1 []) 35 6,.ro true (strs (dL (rdG l 0)))])
 |2=>(.slice 0 0 2 false 0 0,[.row (rdA (rdG l 0) 1 (rdA (rdG l 1) 2 [])) 35 6,.ro true (strs (dL (rdG l 0))),.ro true (strs (dL (rdG l 1)))])
 |3=>(.slice 0 0 3 false 0 0,[.row (rdA (rdG l 0) 1 (rdA (rdG l 1) 2 (rdA (rdG l 2) 3 []))) 35 6,.ro true (strs (dL (rdG l 0))),.ro true (strs (dL (rdG l 1))),.ro true (strs (dL (rdG l 2)))])
 |_=>(.slice 0 0 4 false 0 0,[.row (rdA (rdG l 0) 1 (rdA (rdG l 1) 2 (rdA (rdG l 2) 3 (rdA (rdG l 3) 4 [])))) 35 6,.ro true (strs (dL (rdG l 0))),.ro true (strs (dL (rdG l 1))),.ro true (strs (dL (rdG l 2))),.ro true (strs (dL (rdG l 3)))])
def rdN(l:List (List UInt8)):Nat:=(ot l).length
def readT:List V→Option (List (Bool×(V×St)))
 |[.lst _ n cs]=>some [(okS n cs&&Nat.beq (rdN (cs.map ac)) 0,rdO (cs.map ac) 0),(okS n cs&&Nat.beq (rdN (cs.map ac)) 1,rdO (cs.map ac) 1),(okS n cs&&Nat.beq (rdN (cs.map ac)) 2,rdO (cs.map ac) 2),(okS n cs&&Nat.beq (rdN (cs.map ac)) 3,rdO (cs.map ac) 3),(okS n cs,rdO (cs.map ac) 4)]
 |_=>none
theorem goodP_le:∀l:List (List UInt8),(i3 l).length≤l.length
 |[]=>Nat.le_refl _
 |s::r=>by
  have:=goodP_le r;rw[i3];cases decE s==0 with
  |true=>simpa using this
  |false=>simp
theorem ci(l:List (List UInt8)):rdN l≤4∧rdN l≤l.length:=by
 have:=goodP_le (l.take 4);rw[List.length_take]at this;unfold rdN ot;omega
theorem o8:∀(l:List (List UInt8)) (j:Nat),(∀i,i<j→∃s,l[i]?=some s∧decE s=0)→(l[j]?=none∨∃s,l[j]?=some s∧decE s≠0)→(i3 l).length=j
 |[],j,h1,h2=>by
  cases j with
  |zero=>rfl
  |succ j=>obtain⟨s,hs,_⟩:=h1 0 (by omega);simp at hs
 |a::r,0,h1,h2=>by
  rcases h2 with h2|⟨s,hs,he⟩
  ·simp at h2
  ·simp only[List.getElem?_cons_zero,Option.some.injEq]at hs;subst hs;have:(decE a==0)=false:=by simpa using he
   rw[i3,this];rfl
 |a::r,j+1,h1,h2=>by
  obtain⟨s,hs,he⟩:=h1 0 (by omega);simp only[List.getElem?_cons_zero,Option.some.injEq]at hs;subst hs;have:(decE a==0)=true:=by simpa using he
  rw[i3,this,cond_true,List.length_cons,o8 r j (fun i hi=>by have:=h1 (i+1) (by omega);simpa using this) (by simpa using h2)]
theorem oz(st:St):Fits 0 [V.nilSlice] [] [some V.nilSlice] st:=bn [.nilSlice] rfl _ rfl st
theorem oy(l:List (List UInt8))(st:St)(h0:st[0]?=some (.ro true (strs (dL (rdG l 0)))))(hr:st[3]?=some (.row (rdA (rdG l 0) 0 []) 35 6)):Fits 0 [(rdO l 1).1] (rdO l 1).2 [some (.slice 3 0 1 false 0 0)] st:=
 ⟨[3,0],[.slice 3 0 1 false 0 0],rfl,rfl,FitsM.of ⟨.inr ⟨.row (rdA (rdG l 0) 0 []) 35 6,.inl rfl,hr⟩,.inr ⟨.ro true (strs (dL (rdG l 0))),.inl (by simp only[renB,ar _ (aX _)]),h0⟩,trivial⟩,by simp,fun i hi=>by omega⟩
theorem ow(l:List (List UInt8))(st:St)(h0:st[0]?=some (.ro true (strs (dL (rdG l 0)))))(h1:st[4]?=some (.ro true (strs (dL (rdG l 1)))))(hr:st[7]?=some (.row (rdA (rdG l 0) 0 (rdA (rdG l 1) 4 [])) 35 6)):Fits 0 [(rdO l 2).1] (rdO l 2).2 [some (.slice 7 0 2 false 0 0)] st:=
 ⟨[7,0,4],[.slice 7 0 2 false 0 0],rfl,rfl,FitsM.of ⟨.inr ⟨.row (rdA (rdG l 0) 0 (rdA (rdG l 1) 4 [])) 35 6,.inl rfl,hr⟩,.inr ⟨.ro true (strs (dL (rdG l 0))),.inl (by simp only[renB,ar _ (aX _)]),h0⟩,.inr ⟨.ro true (strs (dL (rdG l 1))),.inl (by simp only[renB,ar _ (aX _)]),h1⟩,trivial⟩,by simp,fun i hi=>by omega⟩
theorem ou(l:List (List UInt8))(st:St)(h0:st[0]?=some (.ro true (strs (dL (rdG l 0)))))(h1:st[4]?=some (.ro true (strs (dL (rdG l 1)))))(h2:st[8]?=some (.ro true (strs (dL (rdG l 2)))))(hr:st[11]?=some (.row (rdA (rdG l 0) 0 (rdA (rdG l 1) 4 (rdA (rdG l 2) 8 []))) 35 6)):Fits 0 [(rdO l 3).1] (rdO l 3).2 [some (.slice 11 0 3 false 0 0)] st:=
 ⟨[11,0,4,8],[.slice 11 0 3 false 0 0],rfl,rfl,FitsM.of ⟨.inr ⟨.row (rdA (rdG l 0) 0 (rdA (rdG l 1) 4 (rdA (rdG l 2) 8 []))) 35 6,.inl rfl,hr⟩,.inr ⟨.ro true (strs (dL (rdG l 0))),.inl (by simp only[renB,ar _ (aX _)]),h0⟩,.inr ⟨.ro true (strs (dL (rdG l 1))),.inl (by simp only[renB,ar _ (aX _)]),h1⟩,.inr ⟨.ro true (strs (dL (rdG l 2))),.inl (by simp only[renB,ar _ (aX _)]),h2⟩,trivial⟩,by simp,fun i hi=>by omega⟩
theorem rd_fits4(l:List (List UInt8))(st:St)(h0:st[0]?=some (.ro true (strs (dL (rdG l 0)))))(h1:st[4]?=some (.ro true (strs (dL (rdG l 1)))))(h2:st[8]?=some (.ro true (strs (dL (rdG l 2)))))(h3:st[12]?=some (.ro true (strs (dL (rdG l 3)))))(hr:st[15]?=some (.row (rdA (rdG l 0) 0 (rdA (rdG l 1) 4 (rdA (rdG l 2) 8 (rdA (rdG l 3) 12 [])))) 35 6)):Fits 0 [(rdO l 4).1] (rdO l 4).2 [some (.slice 15 0 4 false 0 0)] st:=
 ⟨[15,0,4,8,12],[.slice 15 0 4 false 0 0],rfl,rfl,FitsM.of ⟨.inr ⟨.row (rdA (rdG l 0) 0 (rdA (rdG l 1) 4 (rdA (rdG l 2) 8 (rdA (rdG l 3) 12 [])))) 35 6,.inl rfl,hr⟩,.inr ⟨.ro true (strs (dL (rdG l 0))),.inl (by simp only[renB,ar _ (aX _)]),h0⟩,.inr ⟨.ro true (strs (dL (rdG l 1))),.inl (by simp only[renB,ar _ (aX _)]),h1⟩,.inr ⟨.ro true (strs (dL (rdG l 2))),.inl (by simp only[renB,ar _ (aX _)]),h2⟩,.inr ⟨.ro true (strs (dL (rdG l 3))),.inl (by simp only[renB,ar _ (aX _)]),h3⟩,trivial⟩,by simp,fun i hi=>by omega⟩
theorem fh(k:Nat):∀l:List (List UInt8),av k (strs l)=strs l
 |[]=>rfl
 |a::r=>by
  have:=fh k r;unfold strs at this ⊢;simp only[List.map_cons,av,V.shift,this]
theorem rd_at{l:List (List UInt8)}{j:Nat}(h:j<min 4 l.length):(l.take 4)[j]?=some (rdG l j):=by
 rw[List.getElem?_take,if_pos (by omega),List.getElem?_eq_getElem (by omega)];unfold rdG;rw[List.getD_eq_getElem?_getD,List.getElem?_eq_getElem (by omega)];rfl
theorem bW{l:List (List UInt8)}{j:Nat}(hj:j≤min 4 l.length)(h:∀i,i<j→decE (rdG l i)=0)(h2:j=min 4 l.length∨decE (rdG l j)≠0):rdN l=j:=by
 unfold rdN ot;refine o8 _ j (fun i hi=>⟨rdG l i,rd_at (by omega),h i hi⟩) ?_;by_cases hq:j=min 4 l.length
 ·exact .inl (by rw[List.getElem?_eq_none];rw[List.length_take];omega)
 ·rcases h2 with h2|h2
  ·exact absurd h2 hq
  ·exact .inr ⟨rdG l j,rd_at (by omega),h2⟩
theorem fv{s:List UInt8}(h:Nat.blt 512 s.length=true):decE s≠0:=by
 have:=Nat.le_of_ble_eq_true h;have:decide ((s.length:Int)>512)=true:=decide_eq_true (by omega);unfold decE;rw[this,cond_true];decide
theorem readT_ok(args:List V)(L:List (Bool×(V×St)))(o:V×St)(h:readT args=some L)(ho:az L=some o):FnSat Tryz.prog 28 args [] (Is o):=by
 unfold readT at h;split at h
 ·rename_i x n cs;cases h;cases hk:okS n cs with
  |false=>rw[hk]at ho;simp[az]at ho
  |true=>
  rw[hk]at ho;simp only[Bool.true_and]at ho;obtain⟨l,rfl,rfl,p2,p3⟩:=c9 hk;rw[ao]at ho;have fin:∀j,rdN l=j→o=rdO l j:=by
   intro j hj;have h4:=(ci l).1;rw[hj]at ho h4
   match j,h4,ho with
   |0,_,ho=>exact(Option.some.inj ho).symm
   |1,_,ho=>exact(Option.some.inj ho).symm
   |2,_,ho=>exact(Option.some.inj ho).symm
   |3,_,ho=>exact(Option.some.inj ho).symm
   |4,_,ho=>exact(Option.some.inj ho).symm
  refine visN_ok (lim:=5) (n:=10) mixed RD0_ok ?_;refine cast (chain_tree x l.length (strs l) (fun u st=>Fits 0 [o.1] o.2 [some u] st)).symm ?_;unfold zw_7 zw_6 zw_5 zw_4 zw_3 zw_2 zw_1 zw_0;have hm:(ln4 l.length).toNat-0=min 4 l.length:=by unfold ln4;split<;>omega
  have c0:decide ((0:Int)≤if 4<(l.length:Int)then 4 else(l.length:Int))=true:=decide_eq_true (by split<;>omega);have c1:(true&&(ln4 l.length).toNat.ble l.length)=true:=by rw[Bool.true_and];exact Nat.ble_eq_true_of_le (by unfold ln4;split<;>omega)
  have T:tk4 l.length (strs l)=strs (l.take 4):=by
   unfold tk4;have:(if 4<(l.length:Int)then 4 else(l.length:Int)).toNat-0=min 4 l.length:=hm;rw[this,Nat.mul_one];unfold strs;rw[←List.map_take];congr 1;rcases Nat.le_total 4 l.length with h|h
   ·rw[Nat.min_eq_left h]
   ·rw[Nat.min_eq_right h,List.take_length,List.take_of_length_le h]
  have gt:∀j,j<min 4 l.length→(strs (l.take 4)).getD j (.bool false)=.str (rdG l j):=fun j hj=>by
   rw[List.getD_eq_getElem?_getD];unfold strs;rw[List.getElem?_map,rd_at hj];rfl
  have L1:∀j,j<min 4 l.length→Nat.blt j (strs (l.take 4)).length=true:=fun j hj=>Nat.ble_eq_true_of_le (by rw[aF,List.length_take];omega);have S:∀j,j<min 4 l.length→al ((strs (l.take 4)).getD j (.bool false))=true:=fun j hj=>by rw[gt j hj];rfl
  have E:∀j,j<min 4 l.length→el4 l.length (strs l) j=rdG l j:=fun j hj=>by unfold el4;rw[T,gt j hj];rfl
  have D:∀j:Nat,j<min 4 l.length→(true&&decide ((j:Int)<((min 4 l.length:Nat):Int)))=true:=fun j hj=>by rw[Bool.true_and];exact decide_eq_true (by omega)
  have lt:∀j:Nat,decide ((j:Int)<((min 4 l.length:Nat):Int))=true→j<min 4 l.length:=fun j hj=>by have:=of_decide_eq_true hj;omega
  have ge:∀j:Nat,decide ((j:Int)<((min 4 l.length:Nat):Int))=false→min 4 l.length≤j:=fun j hj=>by have:=of_decide_eq_false hj;omega
  simp only[hm,c0,c1,T,fh,cond_true];refine ab (fun d0=>?_) (fun d0=>?_)
  rotate_left
  ·have q:=ge 0 d0;have cnt:rdN l=0:=bW (by omega) (fun i hi=>by omega) (.inl (by omega));have ho:=fin 0 cnt;subst ho;exact oz _
  have a0:=lt 0 d0;have E0:=E 0 a0;refine aa (D 0 a0) (aa (L1 0 a0) (aa (S 0 a0) ?_));simp only[E0];have stop0:decE (rdG l 0)≠0→o=rdO l 0:=fun hb=>fin 0 (bW (by omega) (fun i hi=>by omega) (.inr hb));refine ab (fun b0=>by have ho:=stop0 (fv b0);subst ho;exact oz _) (fun _=>?_);refine ab (fun b0=>by have ho:=stop0 (by simpa using b0);subst ho;exact oz _) (fun b0=>?_);have g0:decE (rdG l 0)=0:=by simpa using b0
  refine ab (fun d1=>?_) (fun d1=>?_)
  rotate_left
  ·have q:=ge 1 d1;have cnt:rdN l=1:=bW (by omega) (fun i hi=>by
    match i,hi with
    |0,_=>exact g0) (.inl (by omega))
   have ho:=fin 1 cnt;subst ho;exact oy l _ rfl rfl
  have a1:=lt 1 d1;have E1:=E 1 a1;refine aa (D 1 a1) (aa (L1 1 a1) (aa (S 1 a1) ?_));simp only[E1];have stop1:decE (rdG l 1)≠0→o=rdO l 1:=fun hb=>fin 1 (bW (by omega) (fun i hi=>by
   match i,hi with
   |0,_=>exact g0) (.inr hb))
  refine ab (fun b1=>by have ho:=stop1 (fv b1);subst ho;exact oy l _ rfl rfl) (fun _=>?_);refine ab (fun b1=>by have ho:=stop1 (by simpa using b1);subst ho;exact oy l _ rfl rfl) (fun b1=>?_);have g1:decE (rdG l 1)=0:=by simpa using b1
  refine ab (fun d2=>?_) (fun d2=>?_)
  rotate_left
  ·have q:=ge 2 d2;have cnt:rdN l=2:=bW (by omega) (fun i hi=>by
    match i,hi with
    |0,_=>exact g0
    |1,_=>exact g1) (.inl (by omega))
   have ho:=fin 2 cnt;subst ho;exact ow l _ rfl rfl rfl
  have a2:=lt 2 d2;have E2:=E 2 a2;refine aa (D 2 a2) (aa (L1 2 a2) (aa (S 2 a2) ?_));simp only[E2];have stop2:decE (rdG l 2)≠0→o=rdO l 2:=fun hb=>fin 2 (bW (by omega) (fun i hi=>by
   match i,hi with
   |0,_=>exact g0
   |1,_=>exact g1) (.inr hb))
  refine ab (fun b2=>by have ho:=stop2 (fv b2);subst ho;exact ow l _ rfl rfl rfl) (fun _=>?_);refine ab (fun b2=>by have ho:=stop2 (by simpa using b2);subst ho;exact ow l _ rfl rfl rfl) (fun b2=>?_);have g2:decE (rdG l 2)=0:=by simpa using b2
  refine ab (fun d3=>?_) (fun d3=>?_)
  rotate_left
  ·have q:=ge 3 d3;have cnt:rdN l=3:=bW (by omega) (fun i hi=>by
    match i,hi with
    |0,_=>exact g0
    |1,_=>exact g1
    |2,_=>exact g2) (.inl (by omega))
   have ho:=fin 3 cnt;subst ho;exact ou l _ rfl rfl rfl rfl
  have a3:=lt 3 d3;have E3:=E 3 a3;refine aa (D 3 a3) (aa (L1 3 a3) (aa (S 3 a3) ?_));simp only[E3];have stop3:decE (rdG l 3)≠0→o=rdO l 3:=fun hb=>fin 3 (bW (by omega) (fun i hi=>by
   match i,hi with
   |0,_=>exact g0
   |1,_=>exact g1
   |2,_=>exact g2) (.inr hb))
  refine ab (fun b3=>by have ho:=stop3 (fv b3);subst ho;exact ou l _ rfl rfl rfl rfl) (fun _=>?_);refine ab (fun b3=>by have ho:=stop3 (by simpa using b3);subst ho;exact ou l _ rfl rfl rfl rfl) (fun b3=>?_);have g3:decE (rdG l 3)=0:=by simpa using b3
  refine ab (fun d4=>absurd (lt 4 d4) (by omega)) (fun _=>?_);have ho:=fin 4 (bW (by omega) (fun i hi=>by
   match i,hi with
   |0,_=>exact g0
   |1,_=>exact g1
   |2,_=>exact g2
   |3,_=>exact g3) (.inl (by omega)))
  subst ho;exact rd_fits4 l _ rfl rfl rfl rfl rfl
 ·cases h
theorem pm(s:List UInt8):(dL s).length≤64:=by
 have key:∀c,decC s=some c→c.l.length≤64:=by
  intro c hc;unfold decC at hc;cases h1:eh s 48 with
  |false=>rw[h1]at hc;cases hc
  |true=>
   cases h2:(allE (am s)!=0)with
   |true=>rw[h1,h2]at hc;cases hc
   |false=>
    rw[h1,h2,cond_true,cond_false]at hc;unfold decT at hc;split at hc
    ·rename_i x0 x1 x2 x3 x4 x5 _;have hb:∀{α:Type} {b:Bool} {x y:Option α} {z:α},(bif b then x else y)=some z→(b=true∧x=some z)∨(b=false∧y=some z):=by
      intro α b x y z h;cases b
      ·exact .inr ⟨rfl,h⟩
      ·exact .inl ⟨rfl,h⟩
     rcases hb hc with⟨_,hc⟩|⟨_,hc⟩
     ·rcases hb hc with⟨_,hc⟩|⟨_,hc⟩
      ·rcases hb hc with⟨_,hc⟩|⟨_,hc⟩
       ·cases hc
       ·rcases hb hc with⟨_,hc⟩|⟨_,hc⟩
        ·rcases hb hc with⟨_,hc⟩|⟨_,hc⟩
         ·cases hc;rw[List.length_map];exact fq x2.2
         ·cases hc
        ·cases hc
      ·cases hc
     ·cases hc
    ·cases hc
 unfold dL dCd decR;cases decide ((s.length:Int)>512)with
 |true=>simp
 |false=>
  rw[cond_false];cases hc:decC s with
  |none=>simp
  |some c=>exact key c hc
def crOf(s:List UInt8):CR:=⟨dK s,dG s,dL s,dF s,dU s,dCa s⟩
def cv(l:List (List UInt8)):List CR:=(ot l).map crOf
theorem qK:∀(l:List (List UInt8)) (i:Nat),i<(i3 l).length→(i3 l)[i]?=l[i]?
 |[],i,h=>by simp[i3]at h
 |s::r,i,h=>by
  rw[i3]at h ⊢;cases hs:(decE s==0)with
  |false=>rw[hs]at h;simp at h
  |true=>
   rw[hs,cond_true]at h;rw[cond_true];cases i with
   |zero=>rfl
   |succ i=>simpa using qK r i (by simpa using h)
theorem readS_get{l:List (List UInt8)}{i:Nat}(h:i<rdN l):(ot l)[i]?=some (rdG l i):=by
 have h1:=ci l;unfold ot;rw[qK _ _ h];exact rd_at (by omega)
theorem cC{l:List (List UInt8)}{j:Nat}(h:rdN l=j):cv l=(List.range j).map fun i=>crOf (rdG l i):=by
 apply List.ext_getElem?;intro i;unfold cv;rw[List.getElem?_map,List.getElem?_map];rcases Nat.lt_or_ge i j with hi|hi
 ·rw[readS_get (by omega),List.getElem?_range hi];rfl
 ·rw[List.getElem?_eq_none (l:=ot l) (by show rdN l≤i;omega),List.getElem?_eq_none (by simp;omega)];rfl
theorem us_tree(u s m:Int)(d:List UInt8)(R:V→Prop):runW Tryz.prog T3 9 10 14 [.agg [.int .u8 u,.int .u8 s,.int .u8 m,.str d]] R=
  (
 bif u !=2 then bif u !=3 then R (.bool false)else bif decide (i64.wrap s≥2)then R (.bool false)else bif decide (i64.wrap m≥2)then R (.bool
 false)else bif !d==[]then bif decide ((↑d.length:Int)≤512)then bif m==0 then R (.bool true)else R (.bool ((↑d.length:Int)==32))else R (.bool false)
 else R (.bool false)else bif decide (i64.wrap s≥2)then R (.bool false)else bif decide (i64.wrap m≥2)then R (.bool false)else bif !d==[]then
 bif decide ((↑d.length:Int)≤512)then bif m==0 then R (.bool true)else R (.bool ((↑d.length:Int)==32))else R (.bool false)else R (.bool false)):=by kernel_rfl
noncomputable def TD5:Tab:=⟨addP (addT (addT (addP noT 61 kQ) 62 sumT) 16 decN) 27 digP,noL,aL 9⟩
theorem TD5_ok:TabOk3 Tryz.prog TD5:=⟨aN (aE (aE (aN aA spki_ok) sum_ok) decN_ok) dig_ok,aB,ak 9⟩
theorem data_tree(u s m:Int)(d c:List UInt8)(R:V→Prop):runW Tryz.prog TD5 9 10 43 [.agg [.int .u8 u,.int .u8 s,.int .u8 m,.str d],.str c] R=
  (
 bif Nat.blt 512 c.length then R (.tuple [.str [],.bool false])else bif decE c !=0 then R (.tuple [.str [],.bool false])else bif decide (i64.wrap s≥2)
 then R (.tuple [.str [],.bool false])else bif decide (i64.wrap m≥2)then R (.tuple [.str [],.bool false])else bif decide (0≤m)&&decide (m<2)
 then bif m==0 then bif decide (0≤s)&&decide (s<2)then bif s==0 then R (.tuple [.str c,.bool true])else bif s==1 then R (.tuple [.str (bN (dK c)),
 .bool true])else False else False else bif m==1 then bif decide (0≤s)&&decide (s<2)then bif s==0 then bif okL c then R (.tuple [.str (sumF c),.bool
 true])else False else bif s==1 then bif okL (bN (dK c))then R (.tuple [.str (sumF (bN (dK c))),.bool true])else False else False else False else False else
 False):=by kernel_rfl
def usB(u s m:Int)(d:List UInt8):Bool:=(u==2||u==3)&&(!decide (i64.wrap s≥2)&&(!decide (i64.wrap m≥2)&&(!(d==[])&&(decide ((d.length:Int)≤512)&&(m==0||(d.length:Int)==32)))))
def usP:List V→Option V
 |[.agg [.int .u8 u,.int .u8 s,.int .u8 m,.str d]]=>some (.bool (usB u s m d))
 |_=>none
theorem us_ok(args:List V)(v:V)(h:usP args=some v):FnSat Tryz.prog 14 args [] (Is (v,[])):=by
 unfold usP at h;split at h
 ·rename_i u s m d;cases h;refine ax (lim:=9) (n:=10) mixed rh rfl rfl ?_;rw[us_tree];unfold usB;have e:∀n:Int,(u !=n)=!(u==n):=fun n=>rfl;rw[e 2,e 3];cases u==2<;>cases u==3<;>cases decide (i64.wrap s≥2)<;>cases decide (i64.wrap m≥2)<;>cases d==[]<;>cases decide ((d.length:Int)≤512)<;>cases m==0<;>rfl
 ·cases h
def takeB(s:Int)(c:List UInt8):List UInt8:=bif s==0 then c else bN (dK c)
def pk(s m:Int)(c:List UInt8):List UInt8:=bif m==0 then takeB s c else sumF (takeB s c)
def ef(s m:Int)(c:List UInt8):Bool:=(decE c==0)&&(!decide (i64.wrap s≥2)&&!decide (i64.wrap m≥2))
def dataT:List V→Option (List (Bool×(V×St)))
 |[.agg [.int .u8 _,.int .u8 s,.int .u8 m,.str _],.str c]=>some [(decide (0≤s∧s≤255∧0≤m∧m≤255),(.tuple [.str (bif ef s m c then pk s m c else[]),.bool (ef s m c)],[]))]
 |_=>none
theorem spki_len(k:List UInt8):(bN k).length≤72:=by
 unfold bN;split
 ·simp
 ·split
  ·simp
  ·have h1:=bB 4 k;have h2:=bB 48 (putB 4 k);omega
theorem data_ok(args:List V)(l:List (Bool×(V×St)))(o:V×St)(h:dataT args=some l)(ho:az l=some o):FnSat Tryz.prog 43 args [] (Is o):=by
 unfold dataT at h;split at h
 ·rename_i u s m d c;cases h;obtain⟨hk,rfl⟩:=aJ ho;have hk:=of_decide_eq_true hk;refine ax (lim:=9) (n:=10) mixed TD5_ok rfl rfl ?_;rw[data_tree];have ws:i64.wrap s=s:=IntWalk.i64_in _ ⟨by omega,by omega⟩;have wm:i64.wrap m=m:=IntWalk.i64_in _ ⟨by omega,by omega⟩;have no:ef s m c=false→V.tuple [V.str [],V.bool false]=V.tuple [.str (bif ef s m c then pk s m c else[]),.bool (ef s m c)]:=fun h=>by rw[h];rfl
  refine ab (fun h1=>no (by unfold ef;rw[(by simpa using fv h1:(decE c==0)=false)];rfl)) (fun h1=>?_);refine ab (fun h2=>no (by unfold ef;rw[(by simpa using h2:(decE c==0)=false)];rfl)) (fun h2=>?_);have h2:(decE c==0)=true:=by simpa using h2
  refine ab (fun h3=>no (by unfold ef;rw[h3];simp)) (fun h3=>?_);refine ab (fun h4=>no (by unfold ef;rw[h4];simp)) (fun h4=>?_);have yes:ef s m c=true:=by unfold ef;rw[h2,h3,h4];rfl
  rw[ws]at h3;rw[wm]at h4;have h3:=of_decide_eq_false h3;have h4:=of_decide_eq_false h4;have kc:okL c=true:=decide_eq_true (by
   have:¬512<c.length:=fun hb=>by have:=Nat.ble_eq_true_of_le hb;exact absurd (show Nat.blt 512 c.length=true from this) (by rw[h1];decide)
   omega)
  have kk:okL (bN (dK c))=true:=decide_eq_true (by have:=spki_len (dK c);omega);rw[yes,kc,kk];refine aa (by rw[Bool.and_eq_true];exact⟨decide_eq_true (by omega),decide_eq_true (by omega)⟩) ?_;have qs:(decide (0≤s)&&decide (s<2))=true:=by rw[Bool.and_eq_true];exact⟨decide_eq_true (by omega),decide_eq_true (by omega)⟩
  rw[qs];unfold pk takeB;have s1:(s==0)=false→(s==1)=true:=fun h=>beq_iff_eq.2 (by have:s≠0:=(by simpa using h);omega);have m1:(m==0)=false→(m==1)=true:=fun h=>beq_iff_eq.2 (by have:m≠0:=(by simpa using h);omega);cases hm:m==0 with
  |true=>
   cases hs:s==0 with
   |true=>rfl
   |false=>rw[s1 hs];rfl
  |false=>
   rw[m1 hm];cases hs:s==0 with
   |true=>rfl
   |false=>rw[s1 hs];rfl
 ·cases h
noncomputable def TD6:Tab:=⟨addT (addP noT 14 usP) 43 dataT,noL,aL 9⟩
theorem TD6_ok:TabOk3 Tryz.prog TD6:=⟨aE (aN aA us_ok) data_ok,aB,ak 9⟩
theorem of_tree(u s m:Int)(d c:List UInt8)(R:V→Prop):runW Tryz.prog TD6 9 10 17 [.agg [.int .u8 u,.int .u8 s,.int .u8 m,.str d],.str c] R=
  (
 bif decide (0≤s∧s≤255∧0≤m∧m≤255)then bif ef s m c then bif usB u s m d then R (.bool ((bif ef s m c then pk s m c else[])==d))else R
 (.bool false)else R (.bool false)else False):=by kernel_rfl
def ofB(u s m:Int)(d c:List UInt8):Bool:=ef s m c&&(usB u s m d&&(pk s m c==d))
def u8B(n:Int):Bool:=decide (0≤n∧n≤255)
def ofT:List V→Option (List (Bool×(V×St)))
 |[.agg [.int .u8 u,.int .u8 s,.int .u8 m,.str d],.str c]=>some [(u8B s&&u8B m,(.bool (ofB u s m d c),[]))]
 |_=>none
theorem of_ok(args:List V)(l:List (Bool×(V×St)))(o:V×St)(h:ofT args=some l)(ho:az l=some o):FnSat Tryz.prog 17 args [] (Is o):=by
 unfold ofT at h;split at h
 ·rename_i u s m d c;cases h;obtain⟨hk,rfl⟩:=aJ ho;rw[Bool.and_eq_true]at hk;have h1:=of_decide_eq_true hk.1;have h2:=of_decide_eq_true hk.2;refine ax (lim:=9) (n:=10) mixed TD6_ok rfl rfl ?_;rw[of_tree,decide_eq_true (show 0≤s∧s≤255∧0≤m∧m≤255 from⟨h1.1,h1.2,h2.1,h2.2⟩),cond_true];unfold ofB;cases ef s m c<;>cases usB u s m d<;>rfl
 ·cases h
end Go.Proofs.YthcoeoibejgaiaaGreatDoor
namespace Go.Proofs.YthcoeoibejgaiaaGreatDoor
open Go.IntKind (u8 u16 u32 u64 i8 i16 i32 i64)
open Go Go.Vm Go.RowKit
set_option linter.unusedVariables false
set_option maxRecDepth 100000
set_option linter.unusedSectionVars false
theorem nx{Φ:Frz}{B:Nat}{W0 w:World}{m:List MB}{st:St}(hr:Rel B W0 m st w){b:Nat}{v:V}{t:TypeId}{sz:Nat}(hb:st[b]?=some (.row [v] t sz))(hv:hZ v=true){x:Value}(hx:real m (.ptr b 0)=some x):∃y,@real _ (Frz.of w) [] (.lptr y 1 [v] 0)=some x:=by
 obtain⟨e,he,hk⟩:=hr.at hb;obtain⟨g1,g0,arr,xs,⟨fz,_,g2⟩,g3,g4,_⟩:=hk;obtain⟨a,r,q1,q2,rfl⟩:=aj g3;simp only[ai,Option.some.injEq]at q2;subst q2;have h0:@dt (Frz.of w) v=some a:=og hr.more _ _ (kr hv q1);have hx2:x=.pointer (some ⟨e.blk,e.off+0,none⟩):=by
  simp only[real]at hx;cases h1:at? m b with
  |none=>rw[h1]at hx;cases hx
  |some e'=>
   rw[h1]at hx;have:=bD h1;rw[he]at this;cases this;simpa using hx.symm
 subst hx2;refine⟨.slice (some ⟨e.blk,e.off,none⟩) 1 1,@eX _ (Frz.of w) [] e.blk e.off 1 1 0 [v] [a] arr t fz (by simp only[aO,h0]) (by omega) (by omega) g2 (fun i y hy=>?_)⟩;cases i with
 |zero=>
  simp only[List.getElem?_cons_zero,Option.some.injEq]at hy;subst hy;rw[g0];have:=congrArg (fun l=>l[0]?) g4;simpa using this
 |succ i=>simp at hy
theorem func1{Φ Ψ:Frz}{m m':List MB}{fn:Fn}{v:V}{x:Value}(h:@real _ Φ m (.func fn [] [v])=some x):∃y,@real _ Φ m v=some y∧∀v',@real _ Ψ m' v'=some y→@real _ Ψ m' (.func fn [] [v'])=some x:=by
 cases hv:@real _ Φ m v with
 |none=>simp[real,ai,hv]at h
 |some y=>
  refine⟨y,rfl,fun v' hv'=>?_⟩;simp only[real,ai,hv]at h;simp only[real,ai,hv'];exact h
variable [Φ:Frz]
noncomputable def LT0:Tab:=⟨noT,addS noL 32 mw,aL 9⟩
theorem LT0_ok:TabOk3 Tryz.prog LT0:=⟨aA,cG aB datesG_ok,ak 9⟩
noncomputable def zz_1(cs:List V)(i:Int):=cs.getD (i.toNat*6+2) (V.bool false)
noncomputable def zz_0(cs:List V)(i:Int):=[Blk.row [V.str (ac (cs.getD (i.toNat*6+0) (V.bool false))),V.str (ac (cs.getD (i.toNat*6+1) (V.bool false))),V.lst (xOfV (zz_1 cs i)) (nOfV (zz_1 cs i)) (qV (zz_1 cs i)),V.int i64 (af (cs.getD (i.toNat*6+3) (V.bool false))),V.int i64 (af (cs.getD (i.toNat*6+4) (V.bool false))),V.bool (fd (cs.getD (i.toNat*6+5) (V.bool false)))] 35 6]
theorem lt_round(x:Value)(n:Nat)(cs:List V)(y:Value)(now:Int)(i:Int)(R:Exit→List (Option V)→St→Prop):ah Tryz.prog LT0 9 10 (ad 9) 68 26 [0,1,4,7,8] [.lst x n cs,.func (.func 31) [] [.lptr y 1 [.int .i64 now] 0],.int .i64 0,.int .i64 n,.int .i64 i] [] R=
 (
 bif decide (i<(↑n:Int))then bif decide (0≤i)&&decide (i<(↑n:Int))then bif (i.toNat*6+6).ble cs.length then bif al (cs.getD (i.toNat*6+
 0) (.bool false))then bif al (cs.getD (i.toNat*6+1) (.bool false))then bif mg (zz_1 cs i)then bif ae i64 (cs.getD (i.toNat*6+3)
 (.bool false))then bif ae i64 (cs.getD (i.toNat*6+4) (.bool false))then bif dZ (cs.getD (i.toNat*6+5) (.bool false))then bif
 (qV (zz_1 cs i)).length.beq (nOfV (zz_1 cs i)*1)&&((qV (zz_1 cs i)).all al&&(qV (zz_1 cs i)).length.beq (nOfV (zz_1 cs i)))then bif !aV
 ((af (cs.getD (i.toNat*6+3) (.bool false)))) ((af (cs.getD (i.toNat*6+4) (.bool false)))) (now)then R .ret [some (.lst x n cs),some
 (V.func (Fn.func 31) [] [V.lptr y 1 [.int i64 now] 0]),some (.int i64 i),some (.int i64 (↑n:Int)),some (.int i64 i)]
 (zz_0 cs i)else R .normal [some (.lst x n cs),some (V.func (Fn.func 31) [] [V.lptr y 1 [.int i64 now] 0]),some (.int i64 0),some
 (.int i64 (↑n:Int)),some (.int i64 (i64.wrap (i+1)))] (zz_0 cs i)else False else False else False else False else False else
 False else False else False else False else R (.exit 0) [some (.lst x n cs),some (V.func (Fn.func 31) [] [V.lptr y 1 [.int i64 now] 0]),some
 (.int i64 0),some (.int i64 (↑n:Int)),some (.int i64 i)] []):=by kernel_rfl
def ei(now:Int)(L:List CR):Bool:=L.any fun c=>!aV c.f c.u now
structure LT where
 x:Value
 n:Nat
 cs:List V
 y:Value
 now:Int
 i:Nat
def ltV(z:LT):List V:=[.lst z.x z.n z.cs,.func (.func 31) [] [.lptr z.y 1 [.int .i64 z.now] 0],.int .i64 0,.int .i64 z.n,.int .i64 z.i]
def ltJ(_:LT):St:=[]
def oP(z:LT):Bool:=okR z.n z.cs&&Nat.ble z.i z.n
def ltMu(z:LT):Nat:=z.n-z.i
def ltDec:List (Option V)→St→Option LT
 |[some (.lst x n cs),some (.func (.func 31) [] [.lptr y 1 [.int .i64 now] 0]),some (.int .i64 0),some (.int .i64 _),some (.int .i64 0)],_=>some ⟨x,n,cs,y,now,0⟩
 |_,_=>none
def lateV(now:Int)(cs:List V)(i:Nat):Bool:=ei now ((crD [] cs).drop i)
def ltOutG(x:Value)(n:Nat)(cs:List V)(y:Value)(now:Int)(b:Bool)(K:Exit→List V→St→Prop):Prop:=
 bif b then ∀i:Nat,K .ret [.lst x n cs,.func (.func 31) [] [.lptr y 1 [.int .i64 now] 0],.int .i64 i,.int .i64 n,.int .i64 i] []else K (.exit 0) [.lst x n cs,.func (.func 31) [] [.lptr y 1 [.int .i64 now] 0],.int .i64 0,.int .i64 n,.int .i64 n] []
def ltOut:Asks LT:=fun z K=>ltOutG z.x z.n z.cs z.y z.now (lateV z.now z.cs z.i) K
theorem lt_roundOk(z:LT)(hx:oP z=true):ah Tryz.prog LT0 9 10 (ad 9) 68 26 [0,1,4,7,8] (ltV z) (ltJ z) (ay 0 oP ltV ltJ ltMu ltOut z):=by
 obtain⟨x,n,cs,y,now,i⟩:=z;unfold oP at hx;rw[Bool.and_eq_true]at hx;have hx1:okR n cs=true:=hx.1;have p1:i≤n:=Nat.le_of_ble_eq_true hx.2;obtain⟨p2,p3,p4,p5⟩:=oG hx1;show ah Tryz.prog LT0 9 10 (ad 9) 68 26 [0,1,4,7,8] [.lst x n cs,.func (.func 31) [] [.lptr y 1 [.int .i64 now] 0],.int .i64 0,.int .i64 n,.int .i64 i] [] _;rw[lt_round];unfold zz_0 zz_1;have out:∀K,ltOut ⟨x,n,cs,y,now,i⟩ K→ltOutG x n cs y now (ei now ((crD [] cs).drop i)) K:=fun K hK=>hK;have fl:∀a j:Int,aC [.lst x n cs,.func (.func 31) [] [.lptr y 1 [.int .i64 now] 0],.int .i64 a,.int .i64 n,.int .i64 j]=true:=fun _ _=>rfl;cases hd:(crD [] cs).drop i with
 |nil=>
  have hi:=bR hd (by omega);rw[decide_eq_false (show ¬((i:Int)<(n:Int)) by omega),cond_false];refine⟨_,[],fun K hK=>?_,bn _ (fl 0 i) _ rfl _⟩;have hK:=out K hK;rw[hd]at hK;have hn:i=n:=by omega
  rw[hn];exact hK
 |cons c r=>
  obtain⟨e1,e2,e3⟩:=bh hd;have C:=cr_at p2 hd;obtain⟨xn,hn⟩:=C.l;have d1:decide ((i:Int)<(n:Int))=true:=decide_eq_true (by omega);have d2:decide ((0:Int)≤(i:Int))=true:=decide_eq_true (by omega);have l6:(i*6+6).ble cs.length=true:=Nat.ble_eq_true_of_le (by omega);have w2:i64.wrap ((i:Int)+1)=((i+1:Nat):Int):=by rw[IntWalk.i64_in _ ⟨by omega,by omega⟩];omega
  have q5:(strs c.l).length.beq (c.l.length*1)=true:=by rw[aF,Nat.mul_one];exact Nat.beq_refl _
  have q6:(strs c.l).length.beq c.l.length=true:=by rw[aF];exact Nat.beq_refl _
  simp only[d1,d2,Int.toNat_natCast,l6,C.k,C.g,hn,C.f,C.u,C.ca,al,ac,mg,xOfV,nOfV,qV,ae,af,dZ,fd,decide_true,w2,q5,q6,bZ,Bool.and_self,cond_true];have next:ei now (c::r)=(!aV c.f c.u now||ei now r):=rfl
  refine ab (fun h=>?_) (fun h=>?_)
  ·refine⟨_,[],fun K hK=>?_,bn _ (fl i i) _ rfl _⟩;have hK:=out K hK;rw[hd,next,h]at hK;exact hK i
  ·refine⟨⟨x,n,cs,y,now,i+1⟩,?_,bn _ (fl 0 _) _ rfl _,by simp only[ltMu];omega,fun K hK=>?_⟩
   ·unfold oP;rw[Bool.and_eq_true];exact⟨hx1,Nat.ble_eq_true_of_le (show i+1≤n by omega)⟩
   ·have hK:=out K hK;rw[hd,next,h,Bool.false_or]at hK;show ltOutG x n cs y now (lateV now cs (i+1)) K;unfold lateV;rw[e2];exact hK
noncomputable def lkLT:Nat→Trans→Trans:=aR 26 (br 0 (szOf Tryz.prog 68) [0,1,4,7,8] ltDec oP ltV ltJ ltOut) (ad 9)
theorem lkLT_ok:aD Tryz.prog 0 lkLT 68:=by
 unfold lkLT;exact bo (aP 9 0 68) (by kernel_rfl) fun f st Q h=>aU (P:=Tryz.prog) (T:=LT0) (k:=0) (lim:=9) (n:=10) (g:=68) (p0:=26) (lk:=ad 9) mixed LT0_ok (aS 9 _ _) ltMu lt_roundOk h
noncomputable def LT1:Tab:=⟨noT,noL,cn (aL 9) 68 0 lkLT⟩
theorem LT1_ok:TabOk3 Tryz.prog LT1:=⟨aA,aB,bc (ak 9) lkLT_ok⟩
theorem late_tree(x:Value)(n:Nat)(cs:List V)(y:Value)(now:Int)(R:V→Prop):runW Tryz.prog LT1 9 10 30 [.lst x n cs,.func (.func 31) [] [.lptr y 1 [.int .i64 now] 0]] R=
  (
 Fits 0 [.lst x n cs,V.func (Fn.func 31) [] [V.lptr y 1 [.int i64 now] 0],.int i64 0,.int i64 (↑n:Int),.int i64 0] [] [some
 (.lst x n cs),some (V.func (Fn.func 31) [] [V.lptr y 1 [.int i64 now] 0]),some (.int i64 0),some (.int i64 (↑n:Int)),some (.int
 i64 0)] []∧bif oP {x:=x,n:=n,cs:=cs,y:=y,now:=now,i:=0}then bif lateV now cs 0 then ∀(i:Nat),R (.bool true)else R (.bool false)
 else False):=by kernel_rfl
theorem late_sat(x:Value)(n:Nat)(cs:List V)(y:Value)(now:Int)(h:okR n cs=true):FnSat Tryz.prog 30 [.lst x n cs,.func (.func 31) [] [.lptr y 1 [.int .i64 now] 0]] [] (Is (.bool (ei now (crD [] cs)),[])):=by
 refine ax (lim:=9) (n:=10) mixed LT1_ok rfl rfl ?_;rw[late_tree];have e:lateV now cs 0=ei now (crD [] cs):=rfl;rw[e];refine⟨bn _ rfl _ rfl _,aa (by unfold oP;rw[Bool.and_eq_true];exact⟨h,Nat.ble_eq_true_of_le (Nat.zero_le _)⟩) ?_⟩;cases ei now (crD [] cs)with
 |false=>rfl
 |true=>intro _;rfl
def lateG:List V→St→Option (List (Bool×(V×St)))
 |[p,.func (.func 31) [] [.ptr b 0]],st=>match gG st p,st[b]? with
  |some (c,l),some (.row [.int .i64 now] _ _)=>some [(c&&Nat.ble l.length 9223372036854775807,(.bool (ei now l),st))]
  |_,_=>none
 |_,_=>none
theorem lateG_ok(args:List V)(s:St)(l:List (Bool×(V×St)))(o:V×St)(h:lateG args s=some l)(ho:az l=some o):FnSat Tryz.prog 30 args s (Is o):=by
 unfold lateG at h;split at h
 ·rename_i p b;split at h
  ·rename_i c ls now t sz hv hb;cases h;obtain⟨hk,rfl⟩:=aJ ho;rw[Bool.and_eq_true]at hk;obtain⟨rfl,h1⟩:=hk;refine cE rfl fun B W0 w m rargs hr ha=>?_;obtain⟨a,r,q1,q2,rfl⟩:=aj ha;obtain⟨a2,r2,q3,q4,rfl⟩:=aj q2;simp only[ai,Option.some.injEq]at q4;subst q4;obtain⟨L,e1,e2,e3⟩:=nN hr hv q1;have hl:L.length≤9223372036854775807:=by rw[←List.length_map (f:=(·.c)),e1];exact Nat.le_of_ble_eq_true h1
   have hf:∃y,@real _ (Frz.of w) [] (.func (.func 31) [] [.lptr y 1 [.int .i64 now] 0])=some a2:=by
    obtain⟨xp,hp,hf⟩:=func1 (Ψ:=Frz.of w) (m':=[]) q3;obtain⟨y,hy⟩:=nx hr hb rfl hp;exact⟨y,hf _ hy⟩
   obtain⟨y,hy⟩:=hf;have:=@late_sat (Frz.of w) a L.length (crs L) y now (okR_mk hl e3);rw[lJ,e1]at this;exact⟨[lstR a L,.func (.func 31) [] [.lptr y 1 [.int .i64 now] 0]],@aH _ (Frz.of w) [] _ _ _ _ e2 (@aH _ (Frz.of w) [] _ _ _ _ hy rfl),this⟩
  ·cases h
 ·cases h
end Go.Proofs.YthcoeoibejgaiaaGreatDoor
namespace Go.Proofs.YthcoeoibejgaiaaGreatDoor
open Go Go.Vm Go.RowKit
set_option linter.unusedVariables false
set_option maxRecDepth 100000
set_option linter.unusedSectionVars false
variable [Φ:Frz]
theorem add_ro{B:Nat}{W0 w:World}{m:List MB}{st:St}(h:Rel B W0 m st w){i:Nat}{cs:List V}(hi:st[i]?=some (.ro true cs)):∃e,Rel B W0 (m++[e]) (st++[.ro true []]) w:=by
 obtain⟨e,he,hk⟩:=h.at hi;refine⟨e,by simp[h.len],h.base,h.below,fun j b d hb hd=>?_,fun j k b c d f hjk hb hrw hc hl hd hf=>?_,h.glob⟩
 ·rcases Nat.lt_or_ge j st.length with hlt|hge
  ·rw[List.getElem?_append_left hlt]at hb;rw[List.getElem?_append_left (by rw[h.len];exact hlt)]at hd;exact(h.blk j b d hb hd).mono (fun b x hb=>by rw[List.getElem?_append_left (List.getElem?_eq_some_iff.1 hb).1];exact hb)
  ·have hj:j=st.length:=by
    have:=(List.getElem?_eq_some_iff.1 hb).1;simp at this;omega
   subst hj;rw[List.getElem?_append_right (Nat.le_refl _),Nat.sub_self]at hb;rw[List.getElem?_append_right (by rw[h.len];exact Nat.le_refl _),h.len,Nat.sub_self]at hd;simp only[List.getElem?_cons_zero,Option.some.injEq]at hb hd;subst hb hd;obtain⟨g1,arr,t,fz,g2,_⟩:=hk;exact⟨g1,arr,t,fz,g2,fun i v hv=>by simp at hv⟩
 ·have old:∀{j:Nat} {b:Blk} {d:MB},(st++[Blk.ro true []])[j]?=some b→(m++[e])[j]?=some d→(st[j]?=some b∧m[j]?=some d)∨(j=st.length∧b=.ro true []∧d=e):=by
   intro j b d hb hd;rcases Nat.lt_or_ge j st.length with hlt|hge
   ·rw[List.getElem?_append_left hlt]at hb;rw[List.getElem?_append_left (by rw[h.len];exact hlt)]at hd;exact .inl ⟨hb,hd⟩
   ·have hj:j=st.length:=by
     have:=(List.getElem?_eq_some_iff.1 hb).1;simp at this;omega
    subst hj;rw[List.getElem?_append_right (Nat.le_refl _),Nat.sub_self]at hb;rw[List.getElem?_append_right (by rw[h.len];exact Nat.le_refl _),h.len,Nat.sub_self]at hd;simp only[List.getElem?_cons_zero,Option.some.injEq]at hb hd;exact .inr ⟨rfl,hb.symm,hd.symm⟩
  rcases old hb hd with⟨h1,h2⟩|⟨_,rfl,_⟩
  ·rcases old hc hf with⟨h3,h4⟩|⟨_,rfl,rfl⟩
   ·exact h.inj j k b c d f hjk h1 hrw h3 hl h2 h4
   ·have hji:j≠i:=fun e1=>by
     subst e1;rw[hi]at h1;cases h1;cases hrw
    exact h.inj j i b _ d f hji h1 hrw hi rfl h2 he
  ·cases hrw
def rdT(l:List (List UInt8)):List V:=match rdN l with
 |2=>rdA (rdG l 1) 2 []
 |3=>rdA (rdG l 1) 2 (rdA (rdG l 2) 3 [])
 |4=>rdA (rdG l 1) 2 (rdA (rdG l 2) 3 (rdA (rdG l 3) 4 []))
 |_=>[]
def nmR(l:List (List UInt8))(i:Nat):List V:=bif Nat.blt i (rdN l)then strs (dL (rdG l i))else[]
def rdU(l:List (List UInt8)):V×St:=(.slice 0 0 (rdN l) false 0 0,[.row (rdA (rdG l 0) 1 (rdT l)) 35 6,.ro true (strs (dL (rdG l 0))),.ro true (nmR l 1),.ro true (nmR l 2),.ro true (nmR l 3)])
def readU:List V→Option (List (Bool×(V×St)))
 |[.lst _ n cs]=>some [(okS n cs&&Nat.beq (rdN (cs.map ac)) 0,(.nilSlice,[])),(okS n cs,rdU (cs.map ac))]
 |_=>none
theorem eq{P:Program}{g:FuncId}{args:List V}{v:V}{st:St}{i:Nat}{cs:List V}(hi:st[i]?=some (.ro true cs))(h:FnSat P g args [] (Is (v,st))):FnSat P g args [] (Is (v,st++[.ro true []])):=
 nL h fun B W0 w m x hr hx=>by
  obtain⟨e,h2⟩:=add_ro hr hi;exact⟨m++[e],h2,dY (fun b x hb=>by rw[List.getElem?_append_left (List.getElem?_eq_some_iff.1 hb).1];exact hb) v x hx⟩
theorem readU_ok(args:List V)(L:List (Bool×(V×St)))(o:V×St)(h:readU args=some L)(ho:az L=some o):FnSat Tryz.prog 28 args [] (Is o):=by
 unfold readU at h;split at h
 ·rename_i x n cs;cases h;cases hk:okS n cs with
  |false=>rw[hk]at ho;simp[az]at ho
  |true=>
  rw[hk,Bool.true_and]at ho;have get:∀j,rdN (cs.map ac)=j→FnSat Tryz.prog 28 [.lst x n cs] [] (Is (rdO (cs.map ac) j)):=by
   intro j hj;refine readT_ok [.lst x n cs] _ _ rfl ?_;have h4:=(ci (cs.map ac)).1;rw[hk,hj];rw[hj]at h4
   match j,h4 with
   |0,_|1,_|2,_|3,_|4,_=>rfl
  have h4:=(ci (cs.map ac)).1;rcases(by omega:rdN (cs.map ac)=0∨rdN (cs.map ac)=1∨rdN (cs.map ac)=2∨rdN (cs.map ac)=3∨rdN (cs.map ac)=4)with hj|hj|hj|hj|hj
  ·rw[hj]at ho;cases ho;exact get 0 hj
  ·rw[hj]at ho;cases ho;have:=eq (i:=1) rfl (eq (i:=1) rfl (eq (i:=1) rfl (get 1 hj)));unfold rdU rdT nmR;rw[hj];exact this
  ·rw[hj]at ho;cases ho;have:=eq (i:=1) rfl (eq (i:=1) rfl (get 2 hj));unfold rdU rdT nmR;rw[hj];exact this
  ·rw[hj]at ho;cases ho;have:=eq (i:=1) rfl (get 3 hj);unfold rdU rdT nmR;rw[hj];exact this
  ·rw[hj]at ho;cases ho;have:=get 4 hj;unfold rdU rdT nmR;rw[hj];exact this
 ·cases h
structure RdAt (st:St) (l:List (List UInt8)):Prop where
 b0:st[0]?=some (.row (rdA (rdG l 0) 1 (rdT l)) 35 6)
 b1:st[1]?=some (.ro true (strs (dL (rdG l 0))))
 b2:st[2]?=some (.ro true (nmR l 1))
 b3:st[3]?=some (.ro true (nmR l 2))
 b4:st[4]?=some (.ro true (nmR l 3))
end Go.Proofs.YthcoeoibejgaiaaGreatDoor
namespace Go.Proofs.YthcoeoibejgaiaaGreatDoor
open Go.IntKind (u8 u16 u32 u64 i8 i16 i32 i64)
open Go Go.Vm Go.RowKit
set_option linter.unusedVariables false
set_option maxRecDepth 100000
set_option linter.unusedSectionVars false
variable [Φ:Frz]
def lateGV(OK:V→St→Bool)(LV:V→Int→St→Bool):List V→St→Option (List (Bool×(V×St)))
 |[p,.func (.func 31) [] [.ptr b 0]],st=>match st[b]? with
  |some (.row [.int .i64 now] _ _)=>some [(OK p st,(.bool (LV p now st),st))]
  |_=>none
 |_,_=>none
def mc(OK:V→St→Bool)(KV:V→St→Bool):List V→St→Option (List (Bool×(V×St)))
 |[p],st=>some [(OK p st,(.bool (KV p st),st))]
 |_,_=>none
def rOK(p:V)(st:St):Bool:=match gG st p with
 |some (b,l)=>b&&Nat.ble l.length 9223372036854775807
 |none=>false
def lq(p:V)(now:Int)(st:St):Bool:=match gG st p with
 |some (_,l)=>ei now l
 |none=>false
def bX(p:V)(st:St):Bool:=match gG st p with
 |some (_,l)=>cw l
 |none=>false
theorem lateGV_ok(args:List V)(s:St)(l:List (Bool×(V×St)))(o:V×St)(h:lateGV rOK lq args s=some l)(ho:az l=some o):FnSat Tryz.prog 30 args s (Is o):=by
 unfold lateGV at h;split at h
 ·rename_i p b;split at h
  ·rename_i now t sz hb;cases h;unfold rOK lq at ho;cases hv:gG s p with
   |none=>rw[hv]at ho;simp[az]at ho
   |some a=>
    rw[hv]at ho;exact lateG_ok [p,.func (.func 31) [] [.ptr b 0]] s _ o (by simp only[lateG,hv,hb]) ho
  ·cases h
 ·cases h
theorem linkGV_ok(args:List V)(s:St)(l:List (Bool×(V×St)))(o:V×St)(h:mc rOK bX args s=some l)(ho:az l=some o):FnSat Tryz.prog 33 args s (Is o):=by
 unfold mc at h;split at h
 ·rename_i p;cases h;unfold rOK bX at ho;cases hv:gG s p with
  |none=>rw[hv]at ho;simp[az]at ho
  |some a=>
   rw[hv]at ho;exact linkG_ok [p] s _ o (by simp only[qD,hv]) ho
 ·cases h
noncomputable def MA(OK:V→St→Bool)(LV:V→Int→St→Bool)(KV:V→St→Bool):Tab:=⟨addT (addT noT 28 readU) 17 ofT,addS (addS (addS noL 29 hostG) 30 (lateGV OK LV)) 33 (mc OK KV),aL 9⟩
theorem MA_ok:TabOk3 Tryz.prog (MA rOK lq bX):=⟨aE (aE aA readU_ok) of_ok,cG (cG (cG aB hostG_ok) lateGV_ok) linkGV_ok,ak 9⟩
noncomputable def zB_0(u s m now:Int)(d:List UInt8)(A B C D E:List V):=[Blk.row [V.int u8 u,V.int u8 s,V.int u8 m,V.str d] 24 4,Blk.row [V.int i64 now] 3 1,Blk.row A 35 6,Blk.ro true B,Blk.ro true C,Blk.ro true D,Blk.ro true E]
noncomputable def zB_1(x:Value)(n N:Nat)(cs:List V)(i:Int):=[some (V.lst x n cs),some (V.ptr 0 0),some (V.ptr 1 0),some (V.bool false),some (V.slice 2 0 N false 0 0),some (V.int i64 (i64.wrap (i+1)))]
noncomputable def zB_2(i:Int):=V.slice 2 0 ((i64.wrap (i+1)).toNat-0) false 0 0
theorem mt_round(OK:V→St→Bool)(LV:V→Int→St→Bool)(KV:V→St→Bool)(u s m:Int)(d:List UInt8)(x:Value)(n:Nat)(cs:List V)(now:Int)(N:Nat)(i:Int)(A B C D E:List V)(R:Exit→List (Option V)→St→Prop):ah Tryz.prog (MA OK LV KV) 9 10 (ad 9) 9 6894 [1,4,7,8,9,10] [.lst x n cs,.ptr 0 0,.ptr 1 0,.bool false,.slice 2 0 N false 0 0,.int .i64 i] [.row [.int .u8 u,.int .u8 s,.int .u8 m,.str d] 24 4,.row [.int .i64 now] 3 1,.row A 35 6,.ro true B,.ro true C,.ro true D,.ro true E] R=
 (
 bif decide (i<(↑N:Int))then bif decide (0≤i64.wrap (i+1))then bif true&&(i64.wrap (i+1)).toNat.ble N then bif OK (zB_2 i) (zB_0 u s
 m now d A B C D E)then bif !LV (zB_2 i) now (zB_0 u s m now d A B C D E)then bif decide (0≤i)&&decide (i<(↑n:Int))then bif (i.toNat*1).blt cs.length
 then bif al (cs.getD (i.toNat*1) (.bool false))then bif u8B s&&u8B m then bif ofB u s m (d) (ac (cs.getD (i.toNat*1) (.bool false)))then bif
 decide (0≤i64.wrap (i+1))then bif true&&(i64.wrap (i+1)).toNat.ble N then bif OK (zB_2 i) [.ro false [.int u8 u,.int
 u8 s,.int u8 m,.str d],.ro false [.int i64 now],.ro false A,.ro false B,.ro false C,.ro false D,.ro false E]
 then bif KV (zB_2 i) [.ro false [.int u8 u,.int u8 s,.int u8 m,.str d],.ro false [.int i64 now],.ro false A,
 .ro false B,.ro false C,.ro false D,.ro false E]then R .ret [some (.lst x n cs),some (.ptr 0 0),some (.ptr 1 0),some (.bool true),
 some (.slice 2 0 N false 0 0),some (.int i64 i)] (zB_0 u s m now d A B C D E)else R .normal (zB_1 x n N cs i) (zB_0 u s m now d A B C D E)else
 False else False else False else R .normal (zB_1 x n N cs i) (zB_0 u s m now d A B C D E)else False else False else False else False else R .normal
 (zB_1 x n N cs i) (zB_0 u s m now d A B C D E)else False else False else False else R (.exit 1) [some (.lst x n cs),some (.ptr 0 0),some (.ptr 1 0),
 some (.bool false),some (.slice 2 0 N false 0 0),some (.int i64 i)] (zB_0 u s m now d A B C D E)):=by kernel_rfl
theorem nm_atZ{st:St}{z:Bool}{k:Nat}{s:List UInt8}(h:st[k]?=some (.ro z (strs (dL s)))):nmOk st (.nos k (dN s))=true∧Vm.nmD st (.nos k (dN s))=dL s:=by
 have hv:bJ st (.nos k (dN s))=some (true,dL s):=by
  unfold bJ cH dN;simp only[h,Nat.mul_one,aF];rw[List.take_of_length_le (by rw[aF];exact Nat.le_refl _),bZ,ao,aF,Nat.beq_refl,Nat.ble_eq_true_of_le (Nat.le_refl _)];rfl
 unfold nmOk Vm.nmD;rw[hv];exact⟨by show(true&&Nat.ble (dL s).length 9223372036854775807)=true;rw[Bool.true_and];exact Nat.ble_eq_true_of_le (by have:=pm s;omega),rfl⟩
theorem ba{st:St}{z:Bool}{k:Nat}{s:List UInt8}{r:List V}(h:st[k]?=some (.ro z (strs (dL s)))):isCr st (rdA s k r)=isCr st r∧crD st (rdA s k r)=crOf s::crD st r:=by
 obtain⟨h1,h2⟩:=nm_atZ h;refine⟨?_,?_⟩
 ·unfold isCr rdA;simp only[isCg,h1,al,ae,dZ,decide_true,Bool.true_and]
 ·unfold rdA crOf;simp only[crD,h2,ac,af,fd]
def mA(l:List (List UInt8)):List V:=bif Nat.beq (rdN l) 0 then[]else av 2 (rdA (rdG l 0) 1 (rdT l))
def mB(l:List (List UInt8)):List V:=av 2 (strs (dL (rdG l 0)))
def mN(l:List (List UInt8))(i:Nat):List V:=av 2 (nmR l i)
theorem mB_eq(l:List (List UInt8)):mB l=strs (dL (rdG l 0)):=fh _ _
theorem mN_eq{l:List (List UInt8)}{i:Nat}(h:i<rdN l):mN l i=strs (dL (rdG l i)):=by
 have e:Nat.blt i (rdN l)=true:=Nat.ble_eq_true_of_le h;unfold mN nmR;rw[e,cond_true];exact fh _ _
structure MtAt (st:St) (l:List (List UInt8)):Prop where
 b2:(∃t sz,st[2]?=some (.row (mA l) t sz))∨∃z,st[2]?=some (.ro z (mA l))
 b3:∃z,st[3]?=some (.ro z (mB l))
 b4:∃z,st[4]?=some (.ro z (mN l 1))
 b5:∃z,st[5]?=some (.ro z (mN l 2))
 b6:∃z,st[6]?=some (.ro z (mN l 3))
theorem mt_cr{st:St}{l:List (List UInt8)}(h:MtAt st l)(h0:rdN l≠0):isCr st (mA l)=true∧crD st (mA l)=cv l:=by
 have h4:=(ci l).1;obtain⟨z3,g3⟩:=h.b3;obtain⟨z4,g4⟩:=h.b4;obtain⟨z5,g5⟩:=h.b5;obtain⟨z6,g6⟩:=h.b6;rw[mB_eq]at g3;rcases(by omega:rdN l=1∨rdN l=2∨rdN l=3∨rdN l=4)with hj|hj|hj|hj
 ·have e:mA l=rdA (rdG l 0) 3 []:=by unfold mA rdT;rw[hj];rfl
  rw[e,cC hj,(ba g3).1,(ba g3).2];exact⟨rfl,rfl⟩
 ·have e:mA l=rdA (rdG l 0) 3 (rdA (rdG l 1) 4 []):=by unfold mA rdT;rw[hj];rfl
  rw[mN_eq (by omega)]at g4;rw[e,cC hj,(ba g3).1,(ba g3).2,(ba g4).1,(ba g4).2];exact⟨rfl,rfl⟩
 ·have e:mA l=rdA (rdG l 0) 3 (rdA (rdG l 1) 4 (rdA (rdG l 2) 5 [])):=by unfold mA rdT;rw[hj];rfl
  rw[mN_eq (by omega)]at g4 g5;rw[e,cC hj,(ba g3).1,(ba g3).2,(ba g4).1,(ba g4).2,(ba g5).1,(ba g5).2];exact⟨rfl,rfl⟩
 ·have e:mA l=rdA (rdG l 0) 3 (rdA (rdG l 1) 4 (rdA (rdG l 2) 5 (rdA (rdG l 3) 6 []))):=by unfold mA rdT;rw[hj];rfl
  rw[mN_eq (by omega)]at g4 g5 g6;rw[e,cC hj,(ba g3).1,(ba g3).2,(ba g4).1,(ba g4).2,(ba g5).1,(ba g5).2,(ba g6).1,(ba g6).2];exact⟨rfl,rfl⟩
theorem fW(l:List (List UInt8)):(cv l).length=rdN l:=by rw[cC rfl];simp
theorem mt_view{st:St}{l:List (List UInt8)}(h:MtAt st l)(h0:rdN l≠0){j:Nat}(hj:j≤rdN l):gG st (.slice 2 0 j false 0 0)=some (true,(cv l).take j):=by
 obtain⟨c1,c2⟩:=mt_cr h h0;have hv:cH st 6 (.slice 2 0 j false 0 0)=some (Nat.ble (0+j*6) (mA l).length,(j,((mA l).drop 0).take (j*6))):=by
  rcases h.b2 with⟨t,sz,g⟩|⟨z,g⟩<;>simp only[cH,g]
 have hlen:=lI st (mA l) c1;rw[c2,fW]at hlen;obtain⟨t1,t2⟩:=pq st j (mA l) c1;unfold gG;rw[hv];have t2:isCr st ((mA l).take (j*6))=true:=t2;simp only[List.drop_zero,t1,t2,c2,Nat.ble_eq_true_of_le (show 0+j*6≤(mA l).length by omega),List.length_take,fW,Nat.min_eq_left hj,Nat.beq_refl,Bool.and_self]
def matS(u s m:Int)(d:List UInt8)(now:Int)(l:List (List UInt8)):St:=[.row [.int .u8 u,.int .u8 s,.int .u8 m,.str d] 24 4,.row [.int .i64 now] 3 1,.row (mA l) 35 6,.ro true (mB l),.ro true (mN l 1),.ro true (mN l 2),.ro true (mN l 3)]
def matF(u s m:Int)(d:List UInt8)(now:Int)(l:List (List UInt8)):Nat→Nat→Bool
 |0,_=>false
 |k+1,i=>bif !ei now ((cv l).take (i+1))&&(ofB u s m d (ac ((strs l).getD i (.bool false)))&&cw ((cv l).take (i+1)))then true else matF u s m d now l k (i+1)
structure MT where
 u:Int
 s:Int
 m:Int
 d:List UInt8
 x:Value
 n:Nat
 cs:List V
 now:Int
 i:Nat
def MT.l(z:MT):List (List UInt8):=z.cs.map ac
def mtV(z:MT):List V:=[.lst z.x z.n z.cs,.ptr 0 0,.ptr 1 0,.bool false,.slice 2 0 (rdN (z.cs.map ac)) false 0 0,.int .i64 z.i]
def mtJ(z:MT):St:=matS z.u z.s z.m z.d z.now (z.cs.map ac)
def hY(z:MT):Bool:=okS z.n z.cs&&((u8B z.s&&u8B z.m)&&(Nat.ble 1 z.i&&Nat.ble z.i (rdN (z.cs.map ac))))
def mtMu(z:MT):Nat:=rdN (z.cs.map ac)-z.i
def mtDec:List (Option V)→St→Option MT
 |[some (.lst x n cs),some (.ptr 0 0),some (.ptr 1 0),some (.bool false),some (.slice 2 0 _ false 0 0),some (.int .i64 1)],.row [.int .u8 u,.int .u8 s,.int .u8 m,.str d] _ _::.row [.int .i64 now] _ _::_=>some ⟨u,s,m,d,x,n,cs,now,1⟩
 |_,_=>none
def sf(z:MT)(b:Bool)(K:Exit→List V→St→Prop):Prop:=
 bif b then ∀j:Int,K .ret [.lst z.x z.n z.cs,.ptr 0 0,.ptr 1 0,.bool true,.slice 2 0 (rdN (z.cs.map ac)) false 0 0,.int .i64 j] (mtJ z)else ∀j:Int,K (.exit 1) [.lst z.x z.n z.cs,.ptr 0 0,.ptr 1 0,.bool false,.slice 2 0 (rdN (z.cs.map ac)) false 0 0,.int .i64 j] (mtJ z)
def matV(u s m:Int)(d:List UInt8)(now:Int)(cs:List V)(i:Nat):Bool:=matF u s m d now (cs.map ac) (rdN (cs.map ac)-i) i
def mtOut:Asks MT:=fun z K=>sf z (matV z.u z.s z.m z.d z.now z.cs z.i) K
theorem ren_A(l:List (List UInt8)):renL [0,1,2,3,4,5,6] (mA l)=some (mA l):=by
 unfold mA rdT;have h4:=(ci l).1;rcases(by omega:rdN l=0∨rdN l=1∨rdN l=2∨rdN l=3∨rdN l=4)with hj|hj|hj|hj|hj<;>rw[hj]<;>rfl
theorem ren_N(l:List (List UInt8))(i:Nat):renL [0,1,2,3,4,5,6] (mN l i)=some (mN l i):=by
 unfold mN nmR;cases Nat.blt i (rdN l)with
 |true=>rw[cond_true,fh];exact ar _ (aX _)
 |false=>rfl
theorem mt_fits(x:Value)(n:Nat)(cs:List V)(u s m:Int)(d:List UInt8)(now:Int)(b:Bool)(j:Int):Fits 0 [.lst x n cs,.ptr 0 0,.ptr 1 0,.bool b,.slice 2 0 (rdN (cs.map ac)) false 0 0,.int .i64 j] (matS u s m d now (cs.map ac)) [some (.lst x n cs),some (.ptr 0 0),some (.ptr 1 0),some (.bool b),some (.slice 2 0 (rdN (cs.map ac)) false 0 0),some (.int .i64 j)] (matS u s m d now (cs.map ac)):=by
 refine⟨[0,1,2,3,4,5,6],[.lst x n cs,.ptr 0 0,.ptr 1 0,.bool b,.slice 2 0 (rdN (cs.map ac)) false 0 0,.int .i64 j],rfl,rfl,FitsM.of ⟨.inr ⟨_,.inl rfl,rfl⟩,.inr ⟨_,.inl rfl,rfl⟩,.inr ⟨.row (mA (cs.map ac)) 35 6,.inl ?_,rfl⟩,.inr ⟨.ro true (mB (cs.map ac)),.inl ?_,rfl⟩,.inr ⟨.ro true (mN (cs.map ac) 1),.inl ?_,rfl⟩,.inr ⟨.ro true (mN (cs.map ac) 2),.inl ?_,rfl⟩,.inr ⟨.ro true (mN (cs.map ac) 3),.inl ?_,rfl⟩,trivial⟩,by decide,fun i hi=>by omega⟩
 ·simp only[renB,ren_A]
 ·rw[mB_eq];simp only[renB,ar _ (aX _)]
 ·simp only[renB,ren_N]
 ·simp only[renB,ren_N]
 ·simp only[renB,ren_N]
theorem mt_roundOk(z:MT)(hx:hY z=true):ah Tryz.prog (MA rOK lq bX) 9 10 (ad 9) 9 6894 [1,4,7,8,9,10] (mtV z) (mtJ z) (ay 0 hY mtV mtJ mtMu mtOut z):=by
 obtain⟨u,s,m,d,x,n,cs,now,i⟩:=z;unfold hY at hx;simp only[Bool.and_eq_true]at hx;have hx1:okS n cs=true:=hx.1;have hu:(u8B s&&u8B m)=true:=by rw[Bool.and_eq_true];exact hx.2.1
 have p1:1≤i:=Nat.le_of_ble_eq_true hx.2.2.1;have p2:i≤rdN (cs.map ac):=Nat.le_of_ble_eq_true hx.2.2.2;obtain⟨l,rfl,rfl,p3,p4⟩:=c9 hx1;rw[ao]at p2;have p5:=(ci l).1;have p6:=(ci l).2;show ah Tryz.prog (MA rOK lq bX) 9 10 (ad 9) 9 6894 [1,4,7,8,9,10] [.lst x l.length (strs l),.ptr 0 0,.ptr 1 0,.bool false,.slice 2 0 (rdN ((strs l).map ac)) false 0 0,.int .i64 i] (matS u s m d now ((strs l).map ac)) _;rw[ao];refine cast (mt_round rOK lq bX u s m d x l.length (strs l) now (rdN l) i (mA l) (mB l) (mN l 1) (mN l 2) (mN l 3) _).symm ?_;unfold zB_2 zB_1 zB_0;have out:∀K,mtOut ⟨u,s,m,d,x,l.length,strs l,now,i⟩ K→sf ⟨u,s,m,d,x,l.length,strs l,now,i⟩ (matF u s m d now l (rdN l-i) i) K:=fun K hK=>by
  have hK:sf ⟨u,s,m,d,x,l.length,strs l,now,i⟩ (matF u s m d now ((strs l).map ac) (rdN ((strs l).map ac)-i) i) K:=hK;rw[ao]at hK;exact hK
 have fits:∀b j,Fits 0 [.lst x l.length (strs l),.ptr 0 0,.ptr 1 0,.bool b,.slice 2 0 (rdN ((strs l).map ac)) false 0 0,.int .i64 j] (matS u s m d now ((strs l).map ac)) [some (.lst x l.length (strs l)),some (.ptr 0 0),some (.ptr 1 0),some (.bool b),some (.slice 2 0 (rdN l) false 0 0),some (.int .i64 j)] (matS u s m d now l):=fun b j=>by
  have:=mt_fits x l.length (strs l) u s m d now b j;rw[ao]at this ⊢;exact this
 refine ab (fun hi=>?_) (fun hi=>?_)
 ·have hi:=of_decide_eq_true hi;have hi:i<rdN l:=by omega
  have w:i64.wrap ((i:Int)+1)=((i+1:Nat):Int):=by rw[IntWalk.i64_in _ ⟨by omega,by omega⟩];omega
  have c1:decide (0≤((i+1:Nat):Int))=true:=decide_eq_true (by omega);have c2:decide ((0:Int)≤(i:Int))=true:=decide_eq_true (by omega);have c3:decide ((i:Int)<(l.length:Int))=true:=decide_eq_true (by omega);have c4:(i+1).ble (rdN l)=true:=Nat.ble_eq_true_of_le (by omega);have c5:(i*1).blt (strs l).length=true:=Nat.ble_eq_true_of_le (by rw[aF];omega);have c6:∃a,(strs l).getD (i*1) (.bool false)=.str a:=by
   refine⟨l[i]'(by omega),?_⟩;rw[Nat.mul_one,List.getD_eq_getElem?_getD,List.getElem?_eq_getElem (by rw[aF];omega)];simp[strs]
  obtain⟨a,ha⟩:=c6;have ha':(strs l).getD i (.bool false)=.str a:=by rw[Nat.mul_one]at ha;exact ha
  have v1:∀st,MtAt st l→rOK (.slice 2 0 (i+1) false 0 0) st=true∧lq (.slice 2 0 (i+1) false 0 0) now st=ei now ((cv l).take (i+1))∧bX (.slice 2 0 (i+1) false 0 0) st=cw ((cv l).take (i+1)):=fun st hst=>by
   unfold rOK lq bX;rw[mt_view hst (by omega) (show i+1≤rdN l by omega)];exact⟨by show(true&&_)=true;rw[Bool.true_and];exact Nat.ble_eq_true_of_le (by rw[List.length_take,fW];omega),rfl,rfl⟩
  obtain⟨a1,a2,_⟩:=v1 [.row [.int .u8 u,.int .u8 s,.int .u8 m,.str d] 24 4,.row [.int .i64 now] 3 1,.row (mA l) 35 6,.ro true (mB l),.ro true (mN l 1),.ro true (mN l 2),.ro true (mN l 3)] ⟨.inl ⟨_,_,rfl⟩,⟨_,rfl⟩,⟨_,rfl⟩,⟨_,rfl⟩,⟨_,rfl⟩⟩;obtain⟨b1,_,b2⟩:=v1 [.ro false [.int .u8 u,.int .u8 s,.int .u8 m,.str d],.ro false [.int .i64 now],.ro false (mA l),.ro false (mB l),.ro false (mN l 1),.ro false (mN l 2),.ro false (mN l 3)] ⟨.inr ⟨_,rfl⟩,⟨_,rfl⟩,⟨_,rfl⟩,⟨_,rfl⟩,⟨_,rfl⟩⟩;have step:matF u s m d now l (rdN l-i) i=(bif !ei now ((cv l).take (i+1))&&(ofB u s m d a&&cw ((cv l).take (i+1)))then true else matF u s m d now l (rdN l-(i+1)) (i+1)):=by
   rw[show rdN l-i=(rdN l-(i+1))+1 by omega,matF,ha'];rfl
  have next:(!ei now ((cv l).take (i+1))&&(ofB u s m d a&&cw ((cv l).take (i+1))))=false→ay 0 hY mtV mtJ mtMu mtOut ⟨u,s,m,d,x,l.length,strs l,now,i⟩ .normal [some (.lst x l.length (strs l)),some (.ptr 0 0),some (.ptr 1 0),some (.bool false),some (.slice 2 0 (rdN l) false 0 0),some (.int .i64 (i+1:Nat))] (matS u s m d now l):=fun e=>by
   refine⟨⟨u,s,m,d,x,l.length,strs l,now,i+1⟩,?_,fits false _,by simp only[mtMu,ao];omega,fun K hK=>?_⟩
   ·unfold hY;rw[ao,hx1,hu,Nat.ble_eq_true_of_le (show 1≤i+1 by omega),c4];rfl
   ·have hK:=out K hK;rw[step,e]at hK;show sf ⟨u,s,m,d,x,l.length,strs l,now,i+1⟩ (matF u s m d now ((strs l).map ac) (rdN ((strs l).map ac)-(i+1)) (i+1)) K;rw[ao];exact hK
  simp only[w,c1,c2,c3,c4,c5,ha,Int.toNat_natCast,Nat.sub_zero,al,ac,hu,Bool.and_self,Bool.true_and,cond_true];rw[a1,a2,b1,b2,cond_true,cond_true];cases hL:ei now ((cv l).take (i+1))with
  |true=>exact next (by rw[hL];rfl)
  |false=>
  cases hO:ofB u s m d a with
  |false=>exact next (by rw[hO,Bool.false_and,Bool.and_false])
  |true=>
  cases hK:cw ((cv l).take (i+1))with
  |false=>exact next (by rw[hK,Bool.and_false,Bool.and_false])
  |true=>
   refine⟨_,_,fun K hk=>?_,fits true i⟩;have hk:=out K hk;rw[step,hL,hO,hK]at hk;exact hk i
 ·have hi:=of_decide_eq_false hi;refine⟨_,_,fun K hK=>?_,fits false i⟩;have hK:=out K hK;rw[show rdN l-i=0 by omega]at hK;exact hK i
noncomputable def lkMT:Nat→Trans→Trans:=aR 6894 (br 0 (szOf Tryz.prog 9) [1,4,7,8,9,10] mtDec hY mtV mtJ mtOut) (ad 9)
theorem lkMT_ok:aD Tryz.prog 0 lkMT 9:=by
 unfold lkMT;exact bo (aP 9 0 9) (by kernel_rfl) fun f st Q h=>aU (P:=Tryz.prog) (T:=MA rOK lq bX) (k:=0) (lim:=9) (n:=10) (g:=9) (p0:=6894) (lk:=ad 9) mixed MA_ok (aS 9 _ _) mtMu mt_roundOk h
theorem mt_fits'(x:Value)(n:Nat)(cs:List V)(u s m:Int)(d:List UInt8)(now:Int)(b:Bool)(j:Int){st:St}(h:matS u s m d now (cs.map ac)=st):Fits 0 [.lst x n cs,.ptr 0 0,.ptr 1 0,.bool b,.slice 2 0 (rdN (cs.map ac)) false 0 0,.int .i64 j] (matS u s m d now (cs.map ac)) [some (.lst x n cs),some (.ptr 0 0),some (.ptr 1 0),some (.bool b),some (.slice 2 0 (rdN (cs.map ac)) false 0 0),some (.int .i64 j)] st:=by
 subst h;exact mt_fits x n cs u s m d now b j
def rdP(l:List (List UInt8))(T a b c:List V):V×St:=(.slice 0 0 (rdN l) false 0 0,[.row (rdA (rdG l 0) 1 T) 35 6,.ro true (strs (dL (rdG l 0))),.ro true a,.ro true b,.ro true c])
def lT(l:List (List UInt8)):Nat→V×St
 |0=>(.nilSlice,[])
 |1=>rdP l [] [] [] []
 |2=>rdP l (rdA (rdG l 1) 2 []) (strs (dL (rdG l 1))) [] []
 |3=>rdP l (rdA (rdG l 1) 2 (rdA (rdG l 2) 3 [])) (strs (dL (rdG l 1))) (strs (dL (rdG l 2))) []
 |_=>rdP l (rdA (rdG l 1) 2 (rdA (rdG l 2) 3 (rdA (rdG l 3) 4 []))) (strs (dL (rdG l 1))) (strs (dL (rdG l 2))) (strs (dL (rdG l 3)))
def readP:List V→Option (List (Bool×(V×St)))
 |[.lst _ n cs]=>some [(okS n cs&&Nat.beq (rdN (cs.map ac)) 0,lT (cs.map ac) 0),(okS n cs&&Nat.beq (rdN (cs.map ac)) 1,lT (cs.map ac) 1),(okS n cs&&Nat.beq (rdN (cs.map ac)) 2,lT (cs.map ac) 2),(okS n cs&&Nat.beq (rdN (cs.map ac)) 3,lT (cs.map ac) 3),(okS n cs&&Nat.beq (rdN (cs.map ac)) 4,lT (cs.map ac) 4)]
 |_=>none
theorem readP_ok(args:List V)(L:List (Bool×(V×St)))(o:V×St)(h:readP args=some L)(ho:az L=some o):FnSat Tryz.prog 28 args [] (Is o):=by
 unfold readP at h;split at h
 ·rename_i x n cs;cases h;cases hk:okS n cs with
  |false=>rw[hk]at ho;simp[az]at ho
  |true=>
  rw[hk,Bool.true_and]at ho;simp only[Bool.true_and]at ho;have h4:=(ci (cs.map ac)).1;refine readU_ok [.lst x n cs] _ o rfl ?_;rw[hk,←ho];unfold rdU rdT nmR;rcases(by omega:rdN (cs.map ac)=0∨rdN (cs.map ac)=1∨rdN (cs.map ac)=2∨rdN (cs.map ac)=3∨rdN (cs.map ac)=4)with hj|hj|hj|hj|hj<;>simp only[lT,rdP,hj]<;>rfl
 ·cases h
noncomputable def MT1:Tab:=⟨addT (addT noT 28 readP) 17 ofT,addS noL 29 hostG,cn (aL 9) 9 0 lkMT⟩
theorem MT1_ok:TabOk3 Tryz.prog MT1:=⟨aE (aE aA readP_ok) of_ok,cG aB hostG_ok,bc (ak 9) lkMT_ok⟩
noncomputable def zB_5(cs:List V):=rdG (List.map ac cs) 0
noncomputable def jH(cs:List V):=av 2 (strs (dL (zB_5 cs)))
noncomputable def zB_3(cs:List V):=List.take (dN (zB_5 cs)*1) (jH cs)
noncomputable def pP(u s m:Int)(d:List UInt8):=[V.int u8 u,V.int u8 s,V.int u8 m,V.str d]
noncomputable def zB_4(u s m now:Int)(d:List UInt8)(cs:List V):=[Blk.row (pP u s m d) 24 4,Blk.row [V.int i64 now] 3 1,Blk.row (mA (List.map ac cs)) 35 6,Blk.ro true (mB (List.map ac cs)),Blk.ro true (mN (List.map ac cs) 1),Blk.ro true (mN (List.map ac cs) 2),Blk.ro true (mN (List.map ac cs) 3)]
noncomputable def fL(cs:List V):=rdN (List.map ac cs)
noncomputable def zB_6(x:Value)(n:Nat)(cs:List V):=[some (V.lst x n cs),some (V.ptr 0 0),some (V.ptr 1 0),some (V.bool false),some (V.slice 2 0 (fL cs) false 0 0),some (V.int i64 1)]
noncomputable def zB_7(cs:List V):=rdG (List.map ac cs) 1
noncomputable def zB_8(x:Value)(n:Nat)(cs:List V):=[V.lst x n cs,V.ptr 0 0,V.ptr 1 0,V.bool false,V.slice 2 0 (fL cs) false 0 0,V.int i64 1]
noncomputable def zB_9(cs:List V):=rdG (List.map ac cs) 2
noncomputable def zB_13(cs:List V):=(zB_3 cs).all al&&(zB_3 cs).length.beq (dN (zB_5 cs))
theorem mt_tree(u s m:Int)(d:List UInt8)(x:Value)(n:Nat)(cs:List V)(h:List UInt8)(now:Int)(R:V→Prop):runW Tryz.prog MT1 9 10 9 [.agg [.int .u8 u,.int .u8 s,.int .u8 m,.str d],.lst x n cs,.str h,.int .i64 now] R=
 (
 bif u==3 then bif decide ((↑n:Int)>0)then bif true&&decide (0<(↑n:Int))then bif Nat.blt 0 cs.length then bif al (cs.getD 0 (.bool false))then
 bif u8B s&&u8B m then R (.bool (ofB u s m (d) (ac (cs.getD 0 (.bool false)))))else False else False else False else False else R (.bool false)else bif
 u==2 then bif okS n cs&&(fL cs).beq 0 then R (.bool false)else bif okS n cs&&(fL cs).beq 1 then bif (↑(fL cs):Int)==0 then R (.bool false)
 else bif true&&decide (0<(↑(fL cs):Int))then bif (dN (zB_5 cs)*1).ble (jH cs).length&&(zB_13 cs)&&(List.map ac (zB_3 cs)).length.ble
 9223372036854775807 then bif !hasH (List.map ac (zB_3 cs)) h then R (.bool false)else Fits 0 (zB_8 x n cs) (zB_4 u s m now d cs) (zB_6 x n cs) [.row
 (pP u s m d) 24 4,.row [.int i64 now] 3 1,.row [.str (dK (zB_5 cs)),.str (dG (zB_5 cs)),.nos 3 (dN (zB_5 cs)),.int i64 (dF
 (zB_5 cs)),.int i64 (dU (zB_5 cs)),.bool (dCa (zB_5 cs))] 35 6,.ro true (jH cs),.ro true [],.ro true [],.ro true []]∧bif hY
 {u:=u,s:=s,m:=m,d:=d,x:=x,n:=n,cs:=cs,now:=now,i:=1}then bif matV u s m d now cs 1 then ∀(j:Int),R (.bool true)else ∀(j:
 Int),R (.bool false)else False else False else False else bif okS n cs&&(fL cs).beq 2 then bif (↑(fL cs):Int)==0 then R (.bool false)else bif
 true&&decide (0<(↑(fL cs):Int))then bif (dN (zB_5 cs)*1).ble (jH cs).length&&(zB_13 cs)&&(List.map ac (zB_3 cs)).length.ble
 9223372036854775807 then bif !hasH (List.map ac (zB_3 cs)) h then R (.bool false)else Fits 0 (zB_8 x n cs) (zB_4 u s m now d cs) (zB_6 x n cs) [.row
 (pP u s m d) 24 4,.row [.int i64 now] 3 1,.row [.str (dK (zB_5 cs)),.str (dG (zB_5 cs)),.nos 3 (dN (zB_5 cs)),.int i64 (dF
 (zB_5 cs)),.int i64 (dU (zB_5 cs)),.bool (dCa (zB_5 cs)),.str (dK (zB_7 cs)),.str (dG (zB_7 cs)),.nos 4 (dN (zB_7 cs)),.int i64 (dF
 (zB_7 cs)),.int i64 (dU (zB_7 cs)),.bool (dCa (zB_7 cs))] 35 6,.ro true (jH cs),.ro true (av 2 (strs (dL (zB_7 cs)))),.ro true [],
 .ro true []]∧bif hY {u:=u,s:=s,m:=m,d:=d,x:=x,n:=n,cs:=cs,now:=now,i:=1}then bif matV u s m d now cs 1 then ∀(j:Int),R
 (.bool true)else ∀(j:Int),R (.bool false)else False else False else False else bif okS n cs&&(fL cs).beq 3 then bif (↑(fL cs):Int)==0 then R
 (.bool false)else bif true&&decide (0<(↑(fL cs):Int))then bif (dN (zB_5 cs)*1).ble (jH cs).length&&(zB_13 cs)&&(List.map ac (zB_3
 cs)).length.ble 9223372036854775807 then bif !hasH (List.map ac (zB_3 cs)) h then R (.bool false)else Fits 0 (zB_8 x n cs) (zB_4 u s m now d cs) (zB_6 x n
 cs) [.row (pP u s m d) 24 4,.row [.int i64 now] 3 1,.row [.str (dK (zB_5 cs)),.str (dG (zB_5 cs)),.nos 3 (dN (zB_5 cs)),.int
 i64 (dF (zB_5 cs)),.int i64 (dU (zB_5 cs)),.bool (dCa (zB_5 cs)),.str (dK (zB_7 cs)),.str (dG (zB_7 cs)),.nos 4 (dN (zB_7 cs)),.int
 i64 (dF (zB_7 cs)),.int i64 (dU (zB_7 cs)),.bool (dCa (zB_7 cs)),.str (dK (zB_9 cs)),.str (dG (zB_9 cs)),.nos 5 (dN (zB_9 cs)),.int
 i64 (dF (zB_9 cs)),.int i64 (dU (zB_9 cs)),.bool (dCa (zB_9 cs))] 35 6,.ro true (jH cs),.ro true (av 2 (strs (dL (zB_7 cs)))),
 .ro true (av 2 (strs (dL (zB_9 cs)))),.ro true []]∧bif hY {u:=u,s:=s,m:=m,d:=d,x:=x,n:=n,cs:=cs,now:=now,i:=1}then
 bif matV u s m d now cs 1 then ∀(j:Int),R (.bool true)else ∀(j:Int),R (.bool false)else False else False else False else bif okS n cs&&(fL
 cs).beq 4 then bif (↑(fL cs):Int)==0 then R (.bool false)else bif true&&decide (0<(↑(fL cs):Int))then bif (dN (zB_5 cs)*1).ble (jH
 cs).length&&(zB_13 cs)&&(List.map ac (zB_3 cs)).length.ble 9223372036854775807 then bif !hasH (List.map ac (zB_3 cs)) h then R (.bool false)else
 Fits 0 (zB_8 x n cs) (zB_4 u s m now d cs) (zB_6 x n cs) [.row (pP u s m d) 24 4,.row [.int i64 now] 3 1,.row [.str (dK (zB_5 cs)),.str
 (dG (zB_5 cs)),.nos 3 (dN (zB_5 cs)),.int i64 (dF (zB_5 cs)),.int i64 (dU (zB_5 cs)),.bool (dCa (zB_5 cs)),.str (dK (zB_7 cs)),.str
 (dG (zB_7 cs)),.nos 4 (dN (zB_7 cs)),.int i64 (dF (zB_7 cs)),.int i64 (dU (zB_7 cs)),.bool (dCa (zB_7 cs)),.str (dK (zB_9 cs)),.str
 (dG (zB_9 cs)),.nos 5 (dN (zB_9 cs)),.int i64 (dF (zB_9 cs)),.int i64 (dU (zB_9 cs)),.bool (dCa (zB_9 cs)),.str (dK (rdG (List.map
 ac cs) 3)),.str (dG (rdG (List.map ac cs) 3)),.nos 6 (dN (rdG (List.map ac cs) 3)),.int i64 (dF (rdG (List.map ac cs) 3)),.int
 i64 (dU (rdG (List.map ac cs) 3)),.bool (dCa (rdG (List.map ac cs) 3))] 35 6,.ro true (jH cs),.ro true (av 2 (strs (dL (zB_7
 cs)))),.ro true (av 2 (strs (dL (zB_9 cs)))),.ro true (av 2 (strs (dL (rdG (List.map ac cs) 3))))]∧bif hY
 {u:=u,s:=s,m:=m,d:=d,x:=x,n:=n,cs:=cs,now:=now,i:=1}then bif matV u s m d now cs 1 then ∀(j:Int),R (.bool true)else ∀(j:
 Int),R (.bool false)else False else False else False else False else R (.bool false)):=by kernel_rfl
def matB(u s m:Int)(d:List UInt8)(l:List (List UInt8))(h:List UInt8)(now:Int):Bool:=
 bif u==3 then(match l with|[]=>false|a::_=>ofB u s m d a)else bif u==2 then(!Nat.beq (rdN l) 0&&(hasH (dL (rdG l 0)) h&&matF u s m d now l (rdN l-1) 1))else false
def matT:List V→Option (List (Bool×(V×St)))
 |[.agg [.int .u8 u,.int .u8 s,.int .u8 m,.str d],.lst _ n cs,.str h,.int .i64 now]=>some [(okS n cs&&(u8B s&&u8B m),(.bool (matB u s m d (cs.map ac) h now),[]))]
 |_=>none
theorem mat_ok(args:List V)(L:List (Bool×(V×St)))(o:V×St)(h:matT args=some L)(ho:az L=some o):FnSat Tryz.prog 9 args [] (Is o):=by
 unfold matT at h;split at h
 ·rename_i u s m d x n cs h now;cases h;obtain⟨hk,rfl⟩:=aJ ho;rw[Bool.and_eq_true]at hk;obtain⟨hx1,hu⟩:=hk;obtain⟨l,rfl,rfl,p3,p4⟩:=c9 hx1;refine ax (lim:=9) (n:=10) mixed MT1_ok rfl rfl ?_;refine cast (mt_tree u s m d x l.length (strs l) h now _).symm ?_;unfold zB_13 zB_9 zB_8 zB_7 zB_6 fL zB_4 pP zB_3 jH zB_5;unfold matB;rw[ao];cases hu3:u==3 with
  |true=>
   rw[cond_true,cond_true];cases l with
   |nil=>exact ab (fun e=>absurd (of_decide_eq_true e) (by simp)) (fun _=>rfl)
   |cons a r=>
    rw[hu];have e1:decide (((a::r).length:Int)>0)=true:=decide_eq_true (by rw[List.length_cons];omega);rw[e1];exact rfl
  |false=>
  rw[cond_false,cond_false];cases hu2:u==2 with
  |false=>rfl
  |true=>
  rw[cond_true,cond_true,hx1,Bool.true_and,Bool.true_and,Bool.true_and,Bool.true_and,Bool.true_and];have h4:=(ci l).1;have q1:(dN (rdG l 0)*1).ble (av 2 (strs (dL (rdG l 0)))).length=true:=by rw[fh,aF,Nat.mul_one];exact Nat.ble_eq_true_of_le (Nat.le_refl _)
  have q2:List.take (dN (rdG l 0)*1) (av 2 (strs (dL (rdG l 0))))=strs (dL (rdG l 0)):=by rw[fh,Nat.mul_one];exact List.take_of_length_le (by rw[aF];exact Nat.le_refl _)
  have q3:(strs (dL (rdG l 0))).length.beq (dN (rdG l 0))=true:=by rw[aF];exact Nat.beq_refl _
  have q4:(dL (rdG l 0)).length.ble 9223372036854775807=true:=Nat.ble_eq_true_of_le (by have:=pm (rdG l 0);omega);have pre:rdN l≠0→hY ⟨u,s,m,d,x,l.length,strs l,now,1⟩=true:=fun h0=>by
   unfold hY;rw[ao,hx1,hu,Nat.ble_eq_true_of_le (show 1≤rdN l by omega)];rfl
  have fits:∀{st:St},matS u s m d now l=st→Fits 0 [.lst x l.length (strs l),.ptr 0 0,.ptr 1 0,.bool false,.slice 2 0 (rdN l) false 0 0,.int .i64 1] (matS u s m d now l) [some (.lst x l.length (strs l)),some (.ptr 0 0),some (.ptr 1 0),some (.bool false),some (.slice 2 0 (rdN l) false 0 0),some (.int .i64 1)] st:=fun{st} hs=>by
   have:=mt_fits' x l.length (strs l) u s m d now false 1 (st:=st) (by rw[ao];exact hs);rw[ao]at this;exact this
  have fin:∀{st:St},rdN l≠0→matS u s m d now l=st→hasH (dL (rdG l 0)) h=true→(Fits 0 [.lst x l.length (strs l),.ptr 0 0,.ptr 1 0,.bool false,.slice 2 0 (rdN l) false 0 0,.int .i64 1] (matS u s m d now l) [some (.lst x l.length (strs l)),some (.ptr 0 0),some (.ptr 1 0),some (.bool false),some (.slice 2 0 (rdN l) false 0 0),some (.int .i64 1)] st∧bif hY ⟨u,s,m,d,x,l.length,strs l,now,1⟩then bif matV u s m d now (strs l) 1 then ∀(j:Int),V.bool true=V.bool (!Nat.beq (rdN l) 0&&(hasH (dL (rdG l 0)) h&&matF u s m d now l (rdN l-1) 1))else ∀(j:Int),V.bool false=V.bool (!Nat.beq (rdN l) 0&&(hasH (dL (rdG l 0)) h&&matF u s m d now l (rdN l-1) 1))else False):=fun h0 hs hh=>by
   have n0:Nat.beq (rdN l) 0=false:=by
    cases hb:Nat.beq (rdN l) 0 with
    |false=>rfl
    |true=>exact absurd (Nat.eq_of_beq_eq_true hb) h0
   refine⟨fits hs,aa (pre h0) ?_⟩;unfold matV;rw[ao,hh,n0];cases hm:matF u s m d now l (rdN l-1) 1 with
   |true=>intro j;rfl
   |false=>intro j;rfl
  have no:hasH (dL (rdG l 0)) h=false→V.bool false=V.bool (!Nat.beq (rdN l) 0&&(hasH (dL (rdG l 0)) h&&matF u s m d now l (rdN l-1) 1)):=fun e=>by rw[e,Bool.false_and,Bool.and_false]
  rw[q1,q2,bZ,q3,ao,q4];have nb:∀{k:Nat} {A:Prop},rdN l≠k→Nat.beq (rdN l) k=true→A:=fun h e=>absurd (Nat.eq_of_beq_eq_true e) h;have yb:∀{k:Nat} {A B:Prop},rdN l=k→A→(bif Nat.beq (rdN l) k then A else B):=fun h a=>by rw[h,Nat.beq_refl];exact a
  have z0:∀{A B:Prop},rdN l≠0→B→(bif (rdN l:Int)==0 then A else B):=fun h b=>ab (fun e=>absurd (eq_of_beq e) (by omega)) (fun _=>b);have z1:rdN l≠0→(true&&decide (0<(rdN l:Int)))=true:=fun h=>by rw[Bool.true_and];exact decide_eq_true (by omega)
  rcases(by omega:rdN l=0∨rdN l=1∨rdN l=2∨rdN l=3∨rdN l=4)with hj|hj|hj|hj|hj
  ·exact yb hj (by rw[hj];rfl)
  ·refine ab (fun e=>nb (by omega) e) (fun _=>?_);refine yb hj (z0 (by omega) (aa (z1 (by omega)) (aa rfl ?_)));exact ab (fun e=>no (by simpa using e)) (fun e=>fin (by omega) (by unfold matS mA mB mN nmR rdT;rw[hj];rfl) (by simpa using e))
  ·refine ab (fun e=>nb (by omega) e) (fun _=>?_);refine ab (fun e=>nb (by omega) e) (fun _=>?_);refine yb hj (z0 (by omega) (aa (z1 (by omega)) (aa rfl ?_)));exact ab (fun e=>no (by simpa using e)) (fun e=>fin (by omega) (by unfold matS mA mB mN nmR rdT;rw[hj];rfl) (by simpa using e))
  ·refine ab (fun e=>nb (by omega) e) (fun _=>?_);refine ab (fun e=>nb (by omega) e) (fun _=>?_);refine ab (fun e=>nb (by omega) e) (fun _=>?_);refine yb hj (z0 (by omega) (aa (z1 (by omega)) (aa rfl ?_)));exact ab (fun e=>no (by simpa using e)) (fun e=>fin (by omega) (by unfold matS mA mB mN nmR rdT;rw[hj];rfl) (by simpa using e))
  ·refine ab (fun e=>nb (by omega) e) (fun _=>?_);refine ab (fun e=>nb (by omega) e) (fun _=>?_);refine ab (fun e=>nb (by omega) e) (fun _=>?_);refine ab (fun e=>nb (by omega) e) (fun _=>?_);refine yb hj (z0 (by omega) (aa (z1 (by omega)) (aa rfl ?_)));exact ab (fun e=>no (by simpa using e)) (fun e=>fin (by omega) (by unfold matS mA mB mN nmR rdT;rw[hj];rfl) (by simpa using e))
 ·cases h
noncomputable def RS0:Tab:=⟨noT,noL,aL 18⟩
theorem s8:TabOk3 Tryz.prog RS0:=⟨aA,aB,ak 18⟩
theorem rrot_tree(x n:Int)(R:V→Prop):runW Tryz.prog RS0 9 10 136 [.int .u32 x,.int .u64 n] R=
  (
 bif decide (0≤n)then bif decide (0≤u64.wrap (32-n))then R (.int u32 (u32.wrap (↑(BitVec.ofInt 32 (x.fdiv (2^min n.toNat 32))|||
 BitVec.ofInt 32 (u32.wrap (x*2^min (u64.wrap (32-n)).toNat 32))).toNat:Int)))else False else False):=by kernel_rfl
noncomputable def lookR(g:Nat)(lk:Nat→Trans→Trans)(args:List V)(st:St)(R:V→St→Prop):Prop:=fnK Tryz.prog (cqT Tryz.prog RS0 9 10) (KG Tryz.prog RS0 9 10) lk g args st R
theorem lookR_ok{g:Nat}{lk:Nat→Trans→Trans}{args:List V}{st:St}{R:V→St→Prop}(hl:aD Tryz.prog st.length lk g)(h:lookR g lk args st R):FnSat Tryz.prog g args st R:=
 jx mixed (kD mixed s8 9 10) (nf mixed s8 10) hl h
theorem rwds_tree(la:List V)(off c z:Nat)(R:V→St→Prop):lookR 135 (ad 18) [.slice 0 off 64 false c z] [.ro false la] (fun u st=>R u (vis u st))=
  (
 bif (off+0).blt la.length then bif ae u8 (la.getD (off+0) (.bool false))then bif (off+1).blt la.length then bif ae u8 (la.getD (off+1)
 (.bool false))then bif (off+2).blt la.length then bif ae u8 (la.getD (off+2) (.bool false))then bif (off+3).blt la.length then bif ae u8
 (la.getD (off+3) (.bool false))then bif (off+4).blt la.length then bif ae u8 (la.getD (off+4) (.bool false))then bif (off+5).blt la.length then
 bif ae u8 (la.getD (off+5) (.bool false))then bif (off+6).blt la.length then bif ae u8 (la.getD (off+6) (.bool false))then bif (off+
 7).blt la.length then bif ae u8 (la.getD (off+7) (.bool false))then bif (off+8).blt la.length then bif ae u8 (la.getD (off+8) (.bool
 false))then bif (off+9).blt la.length then bif ae u8 (la.getD (off+9) (.bool false))then bif (off+10).blt la.length then bif ae u8
 (la.getD (off+10) (.bool false))then bif (off+11).blt la.length then bif ae u8 (la.getD (off+11) (.bool false))then bif (off+12).blt la.length
 then bif ae u8 (la.getD (off+12) (.bool false))then bif (off+13).blt la.length then bif ae u8 (la.getD (off+13) (.bool false))then bif
 (off+14).blt la.length then bif ae u8 (la.getD (off+14) (.bool false))then bif (off+15).blt la.length then bif ae u8 (la.getD (off+15)
 (.bool false))then bif (off+16).blt la.length then bif ae u8 (la.getD (off+16) (.bool false))then bif (off+17).blt la.length then bif ae
 u8 (la.getD (off+17) (.bool false))then bif (off+18).blt la.length then bif ae u8 (la.getD (off+18) (.bool false))then bif (off+19).blt
 la.length then bif ae u8 (la.getD (off+19) (.bool false))then bif (off+20).blt la.length then bif ae u8 (la.getD (off+20) (.bool false))
 then bif (off+21).blt la.length then bif ae u8 (la.getD (off+21) (.bool false))then bif (off+22).blt la.length then bif ae u8 (la.getD
 (off+22) (.bool false))then bif (off+23).blt la.length then bif ae u8 (la.getD (off+23) (.bool false))then bif (off+24).blt la.length then bif
 ae u8 (la.getD (off+24) (.bool false))then bif (off+25).blt la.length then bif ae u8 (la.getD (off+25) (.bool false))then bif (off+
 26).blt la.length then bif ae u8 (la.getD (off+26) (.bool false))then bif (off+27).blt la.length then bif ae u8 (la.getD (off+27) (.bool
 false))then bif (off+28).blt la.length then bif ae u8 (la.getD (off+28) (.bool false))then bif (off+29).blt la.length then bif ae u8
 (la.getD (off+29) (.bool false))then bif (off+30).blt la.length then bif ae u8 (la.getD (off+30) (.bool false))then bif (off+31).blt la.length
 then bif ae u8 (la.getD (off+31) (.bool false))then bif (off+32).blt la.length then bif ae u8 (la.getD (off+32) (.bool false))then bif
 (off+33).blt la.length then bif ae u8 (la.getD (off+33) (.bool false))then bif (off+34).blt la.length then bif ae u8 (la.getD (off+34)
 (.bool false))then bif (off+35).blt la.length then bif ae u8 (la.getD (off+35) (.bool false))then bif (off+36).blt la.length then bif ae
 u8 (la.getD (off+36) (.bool false))then bif (off+37).blt la.length then bif ae u8 (la.getD (off+37) (.bool false))then bif (off+38).blt
 la.length then bif ae u8 (la.getD (off+38) (.bool false))then bif (off+39).blt la.length then bif ae u8 (la.getD (off+39) (.bool false))
 then bif (off+40).blt la.length then bif ae u8 (la.getD (off+40) (.bool false))then bif (off+41).blt la.length then bif ae u8 (la.getD
 (off+41) (.bool false))then bif (off+42).blt la.length then bif ae u8 (la.getD (off+42) (.bool false))then bif (off+43).blt la.length then bif
 ae u8 (la.getD (off+43) (.bool false))then bif (off+44).blt la.length then bif ae u8 (la.getD (off+44) (.bool false))then bif (off+
 45).blt la.length then bif ae u8 (la.getD (off+45) (.bool false))then bif (off+46).blt la.length then bif ae u8 (la.getD (off+46) (.bool
 false))then bif (off+47).blt la.length then bif ae u8 (la.getD (off+47) (.bool false))then bif (off+48).blt la.length then bif ae u8
 (la.getD (off+48) (.bool false))then bif (off+49).blt la.length then bif ae u8 (la.getD (off+49) (.bool false))then bif (off+50).blt la.length
 then bif ae u8 (la.getD (off+50) (.bool false))then bif (off+51).blt la.length then bif ae u8 (la.getD (off+51) (.bool false))then bif
 (off+52).blt la.length then bif ae u8 (la.getD (off+52) (.bool false))then bif (off+53).blt la.length then bif ae u8 (la.getD (off+53)
 (.bool false))then bif (off+54).blt la.length then bif ae u8 (la.getD (off+54) (.bool false))then bif (off+55).blt la.length then bif ae
 u8 (la.getD (off+55) (.bool false))then bif (off+56).blt la.length then bif ae u8 (la.getD (off+56) (.bool false))then bif (off+57).blt
 la.length then bif ae u8 (la.getD (off+57) (.bool false))then bif (off+58).blt la.length then bif ae u8 (la.getD (off+58) (.bool false))
 then bif (off+59).blt la.length then bif ae u8 (la.getD (off+59) (.bool false))then bif (off+60).blt la.length then bif ae u8 (la.getD
 (off+60) (.bool false))then bif (off+61).blt la.length then bif ae u8 (la.getD (off+61) (.bool false))then bif (off+62).blt la.length then bif
 ae u8 (la.getD (off+62) (.bool false))then bif (off+63).blt la.length then bif ae u8 (la.getD (off+63) (.bool false))then R (.slice 32
 0 16 false 0 0) [.dead,.dead,.dead,.dead,.dead,.dead,.dead,.dead,.dead,.dead,.dead,.dead,.dead,.dead,.dead,
 .dead,.dead,.dead,.dead,.dead,.dead,.dead,.dead,.dead,.dead,.dead,.dead,.dead,.dead,.dead,.dead,.dead,
 .row [.int u32 (u32.wrap (↑(BitVec.ofInt 32 (u32.wrap (↑(BitVec.ofInt 32 (u32.wrap (↑(BitVec.ofInt 32 (u32.wrap
 (u32.wrap (af (la.getD (off+0) (.bool false)))*16777216))|||BitVec.ofInt 32 (u32.wrap (u32.wrap (af (la.getD (off+1) (.bool
 false)))*65536))).toNat:Int))|||BitVec.ofInt 32 (u32.wrap (u32.wrap (af (la.getD (off+2) (.bool false)))*256))).toNat:Int))|||
 BitVec.ofInt 32 (u32.wrap (af (la.getD (off+3) (.bool false))))).toNat:Int)),.int u32 (u32.wrap (↑(BitVec.ofInt 32 (u32.wrap
 (↑(BitVec.ofInt 32 (u32.wrap (↑(BitVec.ofInt 32 (u32.wrap (u32.wrap (af (la.getD (off+4) (.bool false)))*16777216))|||BitVec.ofInt 32
 (u32.wrap (u32.wrap (af (la.getD (off+5) (.bool false)))*65536))).toNat:Int))|||BitVec.ofInt 32 (u32.wrap (u32.wrap (af
 (la.getD (off+6) (.bool false)))*256))).toNat:Int))|||BitVec.ofInt 32 (u32.wrap (af (la.getD (off+7) (.bool false))))).toNat:Int)),.int
 u32 (u32.wrap (↑(BitVec.ofInt 32 (u32.wrap (↑(BitVec.ofInt 32 (u32.wrap (↑(BitVec.ofInt 32 (u32.wrap (u32.wrap (af
 (la.getD (off+8) (.bool false)))*16777216))|||BitVec.ofInt 32 (u32.wrap (u32.wrap (af (la.getD (off+9) (.bool false)))*65536))).toNat:
 Int))|||BitVec.ofInt 32 (u32.wrap (u32.wrap (af (la.getD (off+10) (.bool false)))*256))).toNat:Int))|||BitVec.ofInt 32 (u32.wrap
 (af (la.getD (off+11) (.bool false))))).toNat:Int)),.int u32 (u32.wrap (↑(BitVec.ofInt 32 (u32.wrap (↑(BitVec.ofInt 32
 (u32.wrap (↑(BitVec.ofInt 32 (u32.wrap (u32.wrap (af (la.getD (off+12) (.bool false)))*16777216))|||BitVec.ofInt 32 (u32.wrap
 (u32.wrap (af (la.getD (off+13) (.bool false)))*65536))).toNat:Int))|||BitVec.ofInt 32 (u32.wrap (u32.wrap (af (la.getD (off+
 14) (.bool false)))*256))).toNat:Int))|||BitVec.ofInt 32 (u32.wrap (af (la.getD (off+15) (.bool false))))).toNat:Int)),.int u32
 (u32.wrap (↑(BitVec.ofInt 32 (u32.wrap (↑(BitVec.ofInt 32 (u32.wrap (↑(BitVec.ofInt 32 (u32.wrap (u32.wrap (af (la.getD (off+
 16) (.bool false)))*16777216))|||BitVec.ofInt 32 (u32.wrap (u32.wrap (af (la.getD (off+17) (.bool false)))*65536))).toNat:Int))|||
 BitVec.ofInt 32 (u32.wrap (u32.wrap (af (la.getD (off+18) (.bool false)))*256))).toNat:Int))|||BitVec.ofInt 32 (u32.wrap (af
 (la.getD (off+19) (.bool false))))).toNat:Int)),.int u32 (u32.wrap (↑(BitVec.ofInt 32 (u32.wrap (↑(BitVec.ofInt 32 (u32.wrap
 (↑(BitVec.ofInt 32 (u32.wrap (u32.wrap (af (la.getD (off+20) (.bool false)))*16777216))|||BitVec.ofInt 32 (u32.wrap (u32.wrap
 (af (la.getD (off+21) (.bool false)))*65536))).toNat:Int))|||BitVec.ofInt 32 (u32.wrap (u32.wrap (af (la.getD (off+22) (.bool false)))
 *256))).toNat:Int))|||BitVec.ofInt 32 (u32.wrap (af (la.getD (off+23) (.bool false))))).toNat:Int)),.int u32 (u32.wrap
 (↑(BitVec.ofInt 32 (u32.wrap (↑(BitVec.ofInt 32 (u32.wrap (↑(BitVec.ofInt 32 (u32.wrap (u32.wrap (af (la.getD (off+24) (.bool
 false)))*16777216))|||BitVec.ofInt 32 (u32.wrap (u32.wrap (af (la.getD (off+25) (.bool false)))*65536))).toNat:Int))|||BitVec.ofInt 32
 (u32.wrap (u32.wrap (af (la.getD (off+26) (.bool false)))*256))).toNat:Int))|||BitVec.ofInt 32 (u32.wrap (af (la.getD (off+27)
 (.bool false))))).toNat:Int)),.int u32 (u32.wrap (↑(BitVec.ofInt 32 (u32.wrap (↑(BitVec.ofInt 32 (u32.wrap (↑(BitVec.ofInt 32
 (u32.wrap (u32.wrap (af (la.getD (off+28) (.bool false)))*16777216))|||BitVec.ofInt 32 (u32.wrap (u32.wrap (af (la.getD
 (off+29) (.bool false)))*65536))).toNat:Int))|||BitVec.ofInt 32 (u32.wrap (u32.wrap (af (la.getD (off+30) (.bool false)))*256))).toNat:
 Int))|||BitVec.ofInt 32 (u32.wrap (af (la.getD (off+31) (.bool false))))).toNat:Int)),.int u32 (u32.wrap (↑(BitVec.ofInt 32
 (u32.wrap (↑(BitVec.ofInt 32 (u32.wrap (↑(BitVec.ofInt 32 (u32.wrap (u32.wrap (af (la.getD (off+32) (.bool false)))*16777216))
 |||BitVec.ofInt 32 (u32.wrap (u32.wrap (af (la.getD (off+33) (.bool false)))*65536))).toNat:Int))|||BitVec.ofInt 32 (u32.wrap
 (u32.wrap (af (la.getD (off+34) (.bool false)))*256))).toNat:Int))|||BitVec.ofInt 32 (u32.wrap (af (la.getD (off+35) (.bool
 false))))).toNat:Int)),.int u32 (u32.wrap (↑(BitVec.ofInt 32 (u32.wrap (↑(BitVec.ofInt 32 (u32.wrap (↑(BitVec.ofInt 32
 (u32.wrap (u32.wrap (af (la.getD (off+36) (.bool false)))*16777216))|||BitVec.ofInt 32 (u32.wrap (u32.wrap (af (la.getD
 (off+37) (.bool false)))*65536))).toNat:Int))|||BitVec.ofInt 32 (u32.wrap (u32.wrap (af (la.getD (off+38) (.bool false)))*256))).toNat:
 Int))|||BitVec.ofInt 32 (u32.wrap (af (la.getD (off+39) (.bool false))))).toNat:Int)),.int u32 (u32.wrap (↑(BitVec.ofInt 32
 (u32.wrap (↑(BitVec.ofInt 32 (u32.wrap (↑(BitVec.ofInt 32 (u32.wrap (u32.wrap (af (la.getD (off+40) (.bool false)))*16777216))
 |||BitVec.ofInt 32 (u32.wrap (u32.wrap (af (la.getD (off+41) (.bool false)))*65536))).toNat:Int))|||BitVec.ofInt 32 (u32.wrap
 (u32.wrap (af (la.getD (off+42) (.bool false)))*256))).toNat:Int))|||BitVec.ofInt 32 (u32.wrap (af (la.getD (off+43) (.bool
 false))))).toNat:Int)),.int u32 (u32.wrap (↑(BitVec.ofInt 32 (u32.wrap (↑(BitVec.ofInt 32 (u32.wrap (↑(BitVec.ofInt 32
 (u32.wrap (u32.wrap (af (la.getD (off+44) (.bool false)))*16777216))|||BitVec.ofInt 32 (u32.wrap (u32.wrap (af (la.getD
 (off+45) (.bool false)))*65536))).toNat:Int))|||BitVec.ofInt 32 (u32.wrap (u32.wrap (af (la.getD (off+46) (.bool false)))*256))).toNat:
 Int))|||BitVec.ofInt 32 (u32.wrap (af (la.getD (off+47) (.bool false))))).toNat:Int)),.int u32 (u32.wrap (↑(BitVec.ofInt 32
 (u32.wrap (↑(BitVec.ofInt 32 (u32.wrap (↑(BitVec.ofInt 32 (u32.wrap (u32.wrap (af (la.getD (off+48) (.bool false)))*16777216))
 |||BitVec.ofInt 32 (u32.wrap (u32.wrap (af (la.getD (off+49) (.bool false)))*65536))).toNat:Int))|||BitVec.ofInt 32 (u32.wrap
 (u32.wrap (af (la.getD (off+50) (.bool false)))*256))).toNat:Int))|||BitVec.ofInt 32 (u32.wrap (af (la.getD (off+51) (.bool
 false))))).toNat:Int)),.int u32 (u32.wrap (↑(BitVec.ofInt 32 (u32.wrap (↑(BitVec.ofInt 32 (u32.wrap (↑(BitVec.ofInt 32
 (u32.wrap (u32.wrap (af (la.getD (off+52) (.bool false)))*16777216))|||BitVec.ofInt 32 (u32.wrap (u32.wrap (af (la.getD
 (off+53) (.bool false)))*65536))).toNat:Int))|||BitVec.ofInt 32 (u32.wrap (u32.wrap (af (la.getD (off+54) (.bool false)))*256))).toNat:
 Int))|||BitVec.ofInt 32 (u32.wrap (af (la.getD (off+55) (.bool false))))).toNat:Int)),.int u32 (u32.wrap (↑(BitVec.ofInt 32
 (u32.wrap (↑(BitVec.ofInt 32 (u32.wrap (↑(BitVec.ofInt 32 (u32.wrap (u32.wrap (af (la.getD (off+56) (.bool false)))*16777216))
 |||BitVec.ofInt 32 (u32.wrap (u32.wrap (af (la.getD (off+57) (.bool false)))*65536))).toNat:Int))|||BitVec.ofInt 32 (u32.wrap
 (u32.wrap (af (la.getD (off+58) (.bool false)))*256))).toNat:Int))|||BitVec.ofInt 32 (u32.wrap (af (la.getD (off+59) (.bool
 false))))).toNat:Int)),.int u32 (u32.wrap (↑(BitVec.ofInt 32 (u32.wrap (↑(BitVec.ofInt 32 (u32.wrap (↑(BitVec.ofInt 32
 (u32.wrap (u32.wrap (af (la.getD (off+60) (.bool false)))*16777216))|||BitVec.ofInt 32 (u32.wrap (u32.wrap (af (la.getD
 (off+61) (.bool false)))*65536))).toNat:Int))|||BitVec.ofInt 32 (u32.wrap (u32.wrap (af (la.getD (off+62) (.bool false)))*256))).toNat:
 Int))|||BitVec.ofInt 32 (u32.wrap (af (la.getD (off+63) (.bool false))))).toNat:Int))] 124 1]else False else False else False else False else False
 else False else False else False else False else False else False else False else False else False else False else False else False else False else False else False else
 False else False else False else False else False else False else False else False else False else False else False else False else False else False else False else False
 else False else False else False else False else False else False else False else False else False else False else False else False else False else False else False else
 False else False else False else False else False else False else False else False else False else False else False else False else False else False else False else False
 else False else False else False else False else False else False else False else False else False else False else False else False else False else False else False else
 False else False else False else False else False else False else False else False else False else False else False else False else False else False else False else False
 else False else False else False else False else False else False else False else False else False else False else False else False else False else False else False else
 False else False else False else False else False else False else False else False else False else False else False else False else False else False else False):=by kernel_rfl
theorem rot_u(x n:Int)(h0:0<n)(h1:n<32):rotI x n=u32.wrap (((BitVec.ofInt 32 (x.fdiv (2^min n.toNat 32))|||BitVec.ofInt 32 (u32.wrap (x*2^min (u64.wrap (32-n)).toNat 32))).toNat:Nat):Int):=by
 have hn:n=1∨n=2∨n=3∨n=4∨n=5∨n=6∨n=7∨n=8∨n=9∨n=10∨n=11∨n=12∨n=13∨n=14∨n=15∨n=16∨n=17∨n=18∨n=19∨n=20∨n=21∨n=22∨n=23∨n=24∨n=25∨n=26∨n=27∨n=28∨n=29∨n=30∨n=31:=by omega
 unfold rotI;rcases hn with h|h|h|h|h|h|h|h|h|h|h|h|h|h|h|h|h|h|h|h|h|h|h|h|h|h|h|h|h|h|h<;>(subst h;rw[BitVec.or_comm];rfl)
def rrotT(F:Int→Int→Int):List V→Option (List (Bool×(V×St)))
 |[.int .u32 x,.int .u64 n]=>some [(decide (0<n)&&decide (n<32),(.int .u32 (F x n),[]))]
 |_=>none
theorem rrot_ok(args:List V)(l:List (Bool×(V×St)))(o:V×St)(h:rrotT rotI args=some l)(ho:az l=some o):FnSat Tryz.prog 136 args [] (Is o):=by
 unfold rrotT at h;split at h
 ·rename_i x n;cases h;cases hk:(decide (0<n)&&decide (n<32))with
  |false=>rw[hk]at ho;cases ho
  |true=>
  rw[hk]at ho;cases ho;rw[Bool.and_eq_true]at hk;have h0:=of_decide_eq_true hk.1;have h1:=of_decide_eq_true hk.2;refine ax (lim:=9) (n:=10) mixed s8 rfl rfl ?_;rw[rrot_tree];have h2:=IntWalk.u64_in (32-n) ⟨by omega,by omega⟩;rw[decide_eq_true (by omega:(0:Int)≤n),decide_eq_true (by rw[h2];omega:(0:Int)≤u64.wrap (32-n))];rw[cond_true,cond_true,rot_u x n h0 h1]
 ·cases h
def nM(W:Nat→Int):List V:=[.int .u32 (W 0),.int .u32 (W 1),.int .u32 (W 2),.int .u32 (W 3),.int .u32 (W 4),.int .u32 (W 5),.int .u32 (W 6),.int .u32 (W 7),.int .u32 (W 8),.int .u32 (W 9),.int .u32 (W 10),.int .u32 (W 11),.int .u32 (W 12),.int .u32 (W 13),.int .u32 (W 14),.int .u32 (W 15)]
def wdsT(OB:List V→Nat→Bool)(WB:List V→Nat→Nat→Int):List V→St→Option (List (Bool×(V×St)))
 |[.slice 0 off n false c z],[.ro false la]=>some [(Nat.beq n 64&&OB la off,(.slice 0 0 16 false 0 0,[.row (nM (WB la off)) 124 1]))]
 |_,_=>none
theorem wds_ok(args:List V)(s:St)(l:List (Bool×(V×St)))(v:V)(n:St)(h:wdsT okB gF args s=some l)(ho:az l=some (v,n)):(∀b∈s,aC b.cs=true)∧FnSat Tryz.prog 135 args s (fun u st=>Fits 0 [v] n [some u] st):=by
 unfold wdsT at h;split at h
 ·rename_i off m c z la;cases h;cases hk2:(Nat.beq m 64&&okB la off)with
  |false=>rw[hk2]at ho;cases ho
  |true=>
   rw[hk2]at ho;cases ho;rw[Bool.and_eq_true]at hk2;have hm:=Nat.eq_of_beq_eq_true hk2.1;have hk:=hk2.2;subst hm;refine⟨by simp[Blk.cs,lh hk],(lookR_ok (R:=fun u st=>Fits 0 [.slice 0 0 16 false 0 0] [.row (nM (gF la off)) 124 1] [some u] (vis u st)) (lk:=ad 18) (aP 18 1 _) ?_).mono fun u st hq=>fits_vis hq⟩;rw[rwds_tree];refine aa (ag (i:=0) hk (by decide)).1 (aa (ag (i:=0) hk (by decide)).2 ?_);refine aa (ag (i:=1) hk (by decide)).1 (aa (ag (i:=1) hk (by decide)).2 ?_);refine aa (ag (i:=2) hk (by decide)).1 (aa (ag (i:=2) hk (by decide)).2 ?_);refine aa (ag (i:=3) hk (by decide)).1 (aa (ag (i:=3) hk (by decide)).2 ?_);refine aa (ag (i:=4) hk (by decide)).1 (aa (ag (i:=4) hk (by decide)).2 ?_);refine aa (ag (i:=5) hk (by decide)).1 (aa (ag (i:=5) hk (by decide)).2 ?_);refine aa (ag (i:=6) hk (by decide)).1 (aa (ag (i:=6) hk (by decide)).2 ?_);refine aa (ag (i:=7) hk (by decide)).1 (aa (ag (i:=7) hk (by decide)).2 ?_);refine aa (ag (i:=8) hk (by decide)).1 (aa (ag (i:=8) hk (by decide)).2 ?_);refine aa (ag (i:=9) hk (by decide)).1 (aa (ag (i:=9) hk (by decide)).2 ?_);refine aa (ag (i:=10) hk (by decide)).1 (aa (ag (i:=10) hk (by decide)).2 ?_);refine aa (ag (i:=11) hk (by decide)).1 (aa (ag (i:=11) hk (by decide)).2 ?_);refine aa (ag (i:=12) hk (by decide)).1 (aa (ag (i:=12) hk (by decide)).2 ?_);refine aa (ag (i:=13) hk (by decide)).1 (aa (ag (i:=13) hk (by decide)).2 ?_);refine aa (ag (i:=14) hk (by decide)).1 (aa (ag (i:=14) hk (by decide)).2 ?_);refine aa (ag (i:=15) hk (by decide)).1 (aa (ag (i:=15) hk (by decide)).2 ?_);refine aa (ag (i:=16) hk (by decide)).1 (aa (ag (i:=16) hk (by decide)).2 ?_);refine aa (ag (i:=17) hk (by decide)).1 (aa (ag (i:=17) hk (by decide)).2 ?_);refine aa (ag (i:=18) hk (by decide)).1 (aa (ag (i:=18) hk (by decide)).2 ?_);refine aa (ag (i:=19) hk (by decide)).1 (aa (ag (i:=19) hk (by decide)).2 ?_);refine aa (ag (i:=20) hk (by decide)).1 (aa (ag (i:=20) hk (by decide)).2 ?_);refine aa (ag (i:=21) hk (by decide)).1 (aa (ag (i:=21) hk (by decide)).2 ?_);refine aa (ag (i:=22) hk (by decide)).1 (aa (ag (i:=22) hk (by decide)).2 ?_);refine aa (ag (i:=23) hk (by decide)).1 (aa (ag (i:=23) hk (by decide)).2 ?_);refine aa (ag (i:=24) hk (by decide)).1 (aa (ag (i:=24) hk (by decide)).2 ?_);refine aa (ag (i:=25) hk (by decide)).1 (aa (ag (i:=25) hk (by decide)).2 ?_);refine aa (ag (i:=26) hk (by decide)).1 (aa (ag (i:=26) hk (by decide)).2 ?_);refine aa (ag (i:=27) hk (by decide)).1 (aa (ag (i:=27) hk (by decide)).2 ?_);refine aa (ag (i:=28) hk (by decide)).1 (aa (ag (i:=28) hk (by decide)).2 ?_);refine aa (ag (i:=29) hk (by decide)).1 (aa (ag (i:=29) hk (by decide)).2 ?_);refine aa (ag (i:=30) hk (by decide)).1 (aa (ag (i:=30) hk (by decide)).2 ?_);refine aa (ag (i:=31) hk (by decide)).1 (aa (ag (i:=31) hk (by decide)).2 ?_);refine aa (ag (i:=32) hk (by decide)).1 (aa (ag (i:=32) hk (by decide)).2 ?_);refine aa (ag (i:=33) hk (by decide)).1 (aa (ag (i:=33) hk (by decide)).2 ?_);refine aa (ag (i:=34) hk (by decide)).1 (aa (ag (i:=34) hk (by decide)).2 ?_);refine aa (ag (i:=35) hk (by decide)).1 (aa (ag (i:=35) hk (by decide)).2 ?_);refine aa (ag (i:=36) hk (by decide)).1 (aa (ag (i:=36) hk (by decide)).2 ?_);refine aa (ag (i:=37) hk (by decide)).1 (aa (ag (i:=37) hk (by decide)).2 ?_);refine aa (ag (i:=38) hk (by decide)).1 (aa (ag (i:=38) hk (by decide)).2 ?_);refine aa (ag (i:=39) hk (by decide)).1 (aa (ag (i:=39) hk (by decide)).2 ?_);refine aa (ag (i:=40) hk (by decide)).1 (aa (ag (i:=40) hk (by decide)).2 ?_);refine aa (ag (i:=41) hk (by decide)).1 (aa (ag (i:=41) hk (by decide)).2 ?_);refine aa (ag (i:=42) hk (by decide)).1 (aa (ag (i:=42) hk (by decide)).2 ?_);refine aa (ag (i:=43) hk (by decide)).1 (aa (ag (i:=43) hk (by decide)).2 ?_);refine aa (ag (i:=44) hk (by decide)).1 (aa (ag (i:=44) hk (by decide)).2 ?_);refine aa (ag (i:=45) hk (by decide)).1 (aa (ag (i:=45) hk (by decide)).2 ?_);refine aa (ag (i:=46) hk (by decide)).1 (aa (ag (i:=46) hk (by decide)).2 ?_);refine aa (ag (i:=47) hk (by decide)).1 (aa (ag (i:=47) hk (by decide)).2 ?_);refine aa (ag (i:=48) hk (by decide)).1 (aa (ag (i:=48) hk (by decide)).2 ?_);refine aa (ag (i:=49) hk (by decide)).1 (aa (ag (i:=49) hk (by decide)).2 ?_);refine aa (ag (i:=50) hk (by decide)).1 (aa (ag (i:=50) hk (by decide)).2 ?_);refine aa (ag (i:=51) hk (by decide)).1 (aa (ag (i:=51) hk (by decide)).2 ?_);refine aa (ag (i:=52) hk (by decide)).1 (aa (ag (i:=52) hk (by decide)).2 ?_);refine aa (ag (i:=53) hk (by decide)).1 (aa (ag (i:=53) hk (by decide)).2 ?_);refine aa (ag (i:=54) hk (by decide)).1 (aa (ag (i:=54) hk (by decide)).2 ?_);refine aa (ag (i:=55) hk (by decide)).1 (aa (ag (i:=55) hk (by decide)).2 ?_);refine aa (ag (i:=56) hk (by decide)).1 (aa (ag (i:=56) hk (by decide)).2 ?_);refine aa (ag (i:=57) hk (by decide)).1 (aa (ag (i:=57) hk (by decide)).2 ?_);refine aa (ag (i:=58) hk (by decide)).1 (aa (ag (i:=58) hk (by decide)).2 ?_);refine aa (ag (i:=59) hk (by decide)).1 (aa (ag (i:=59) hk (by decide)).2 ?_);refine aa (ag (i:=60) hk (by decide)).1 (aa (ag (i:=60) hk (by decide)).2 ?_);refine aa (ag (i:=61) hk (by decide)).1 (aa (ag (i:=61) hk (by decide)).2 ?_);refine aa (ag (i:=62) hk (by decide)).1 (aa (ag (i:=62) hk (by decide)).2 ?_);refine aa (ag (i:=63) hk (by decide)).1 (aa (ag (i:=63) hk (by decide)).2 ?_);exact⟨[32],[.slice 32 0 16 false 0 0],rfl,rfl,FitsM.of ⟨fb rfl rfl,trivial⟩,by decide,fun i hi=>by omega⟩
 ·cases h
noncomputable def RS1(F:Int→Int→Int):Tab:=⟨addT noT 136 (rrotT F),noL,aL 9⟩
theorem RS1_ok:TabOk3 Tryz.prog (RS1 rotI):=⟨aE aA rrot_ok,aB,ak 9⟩
noncomputable def zD_1(ws:List V)(i:Int):=ws.getD (0+(i64.wrap (i-15)).toNat*1) (V.bool false)
noncomputable def zD_2(ws:List V)(i:Int):=ws.getD (0+(i64.wrap (i-2)).toNat*1) (V.bool false)
noncomputable def zD_0(F:Int→Int→Int)(ws:List V)(i:Int):=[V.int u32 (u32.wrap (u32.wrap (u32.wrap (af (ws.getD (0+(i64.wrap (i-16)).toNat*1) (V.bool false))+af (ws.getD (0+(i64.wrap (i-7)).toNat*1) (V.bool false)))+u32.wrap (↑(BitVec.ofInt 32 (u32.wrap (↑(BitVec.ofInt 32 (F (af (zD_1 ws i)) 7)^^^BitVec.ofInt 32 (F (af (zD_1 ws i)) 18)).toNat:Int))^^^BitVec.ofInt 32 ((af (zD_1 ws i)).fdiv 8)).toNat:Int))+u32.wrap (↑(BitVec.ofInt 32 (u32.wrap (↑(BitVec.ofInt 32 (F (af (zD_2 ws i)) 17)^^^BitVec.ofInt 32 (F (af (zD_2 ws i)) 19)).toNat:Int))^^^BitVec.ofInt 32 ((af (zD_2 ws i)).fdiv 1024)).toNat:Int)))]
theorem rsch_round(F:Int→Int→Int)(hs key p ws:List V)(pl nw:Nat)(from' i:Int)(R:Exit→List (Option V)→St→Prop):ah Tryz.prog (RS1 F) 9 10 (ad 9) 92 129610 [3,4,5,7,8,9] [.slice 0 0 8 false 0 0,.slice 1 0 64 false 0 0,.slice 2 0 pl false 0 0,.int .i64 from',.slice 3 0 nw false 0 0,.int .i64 i] [.row hs 124 1,.row key 124 1,.row p 5 1,.row ws 124 1] R=
 (
 bif decide (i<64)then bif decide (0≤i64.wrap (i-15))&&decide (i64.wrap (i-15)<(↑nw:Int))then bif (0+(i64.wrap (i-
 15)).toNat*1).blt ws.length then bif ae u32 (zD_1 ws i)then bif decide (0≤i64.wrap (i-2))&&decide (i64.wrap (i-2)<(↑nw:
 Int))then bif (0+(i64.wrap (i-2)).toNat*1).blt ws.length then bif ae u32 (zD_2 ws i)then bif decide (0≤i64.wrap (i-16))
 &&decide (i64.wrap (i-16)<(↑nw:Int))then bif (0+(i64.wrap (i-16)).toNat*1).blt ws.length then bif ae u32 (ws.getD (0+
 (i64.wrap (i-16)).toNat*1) (.bool false))then bif decide (0≤i64.wrap (i-7))&&decide (i64.wrap (i-7)<(↑nw:Int))then bif
 (0+(i64.wrap (i-7)).toNat*1).blt ws.length then bif ae u32 (ws.getD (0+(i64.wrap (i-7)).toNat*1) (.bool false))then bif
 ws.length.beq (nw*1)then bif (nw+1).ble 9223372036854775807&&((nw+1)*4).ble 140737488355328 then R .normal [some (.slice 0 0 8 false 0 0),some
 (.slice 1 0 64 false 0 0),some (.slice 2 0 pl false 0 0),some (.int i64 from'),some (.slice 5 0 (nw+1) false 0 0),some (.int i64
 (i64.wrap (i+1)))] [.row hs 124 1,.row key 124 1,.row p 5 1,.dead,.row (zD_0 F ws i) 124 1,.row (ws++(zD_0 F ws i)) 124 1]
 else False else False else False else False else False else False else False else False else False else False else False else False else False else False else R
 (.exit 6) [some (.slice 0 0 8 false 0 0),some (.slice 1 0 64 false 0 0),some (.slice 2 0 pl false 0 0),some (.int i64 from'),some (.slice 3
 0 nw false 0 0),some (.int i64 i)] [.row hs 124 1,.row key 124 1,.row p 5 1,.row ws 124 1]):=by kernel_rfl
theorem kI:∀{ws:List V},cx ws=true→aC ws=true
 |[],_=>rfl
 |v::r,h=>by
  unfold cx at h;rw[List.all_cons,Bool.and_eq_true]at h;have ih:aC r=true:=kI (ws:=r) h.2;rw[aC,ih,Bool.and_true];cases v<;>simp[ae]at h;rfl
theorem re{a b:List V}(h1:cx a=true)(h2:cx b=true):cx (a++b)=true:=by
 unfold cx at*
 rw[List.all_append,h1,h2];rfl
def schL:Nat→List V→List V
 |0,g=>g
 |n+1,g=>schL n (g++[.int .u32 (gW g g.length)])
theorem j4:∀(n:Nat) (g:List V),cx g=true→cx (schL n g)=true
 |0,_,h=>h
 |n+1,g,h=>j4 n _ (re h rfl)
theorem nW:∀(n:Nat) (g:List V),(schL n g).length=g.length+n
 |0,_=>rfl
 |n+1,g=>by rw[schL,nW n,List.length_append];simp;omega
theorem nj{ws:List V}{j k:Nat}(h:k<j):wI (ws.take j) k=wI ws k:=by
 unfold wI;rw[List.getD_eq_getElem?_getD,List.getD_eq_getElem?_getD,List.getElem?_take,if_pos h]
theorem sch_blk(la:List V)(off:Nat):∀(n j:Nat) (ws:List V),ws.length=64→j+n=64→16≤j→blkL la off n j ws=schL n (ws.take j)
 |0,j,ws,hl,hj,h16=>by
  rw[blkL,schL,List.take_of_length_le (by omega)]
 |n+1,j,ws,hl,hj,h16=>by
  have h2:(dQ j [V.int .u32 (jI la off ws j)] ws).length=ws.length:=by
   unfold dQ;simp only[List.length_append,List.length_take,List.length_drop,List.length_cons,List.length_nil];omega
  rw[blkL,schL,sch_blk la off n (j+1) _ (by omega) (by omega) (by omega)];have hlt:(ws.take j).length=j:=by rw[List.length_take];omega
  have h3:gW (ws.take j) (ws.take j).length=jI la off ws j:=by
   rw[hlt];unfold jI gW;rw[if_neg (by omega),nj (by omega),nj (by omega),nj (by omega),nj (by omega)]
  rw[h3];congr 1;unfold dQ;rw[List.take_append_of_le_length (by simp;omega),List.take_of_length_le (by simp;omega)]
theorem blkL_add(la:List V)(off m:Nat):∀(n j:Nat) (ws:List V),blkL la off (n+m) j ws=blkL la off m (j+n) (blkL la off n j ws)
 |0,j,ws=>by rw[Nat.zero_add];rfl
 |n+1,j,ws=>by
  have e:n+1+m=(n+m)+1:=by omega
  have e2:j+(n+1)=j+1+n:=by omega
  rw[e,e2,blkL,blkL,blkL_add la off m n]
theorem blk_len(la:List V)(off:Nat):∀(n j:Nat) (ws:List V),ws.length=64→j+n≤64→(blkL la off n j ws).length=64
 |0,j,ws,hl,_=>hl
 |n+1,j,ws,hl,hj=>by
  rw[blkL];refine blk_len la off n (j+1) _ ?_ (by omega);unfold dQ;simp only[List.length_append,List.length_take,List.length_drop,List.length_cons,List.length_nil];omega
theorem blk_take(la:List V)(off:Nat):∀(n j:Nat) (ws:List V),ws.length=64→j+n≤16→(blkL la off n j ws).take (j+n)=ws.take j++(List.range' j n).map (fun i=>V.int .u32 (gF la off i))
 |0,j,ws,hl,_=>by rw[blkL,Nat.add_zero];simp
 |n+1,j,ws,hl,hj=>by
  have h2:(dQ j [V.int .u32 (jI la off ws j)] ws).length=64:=by
   unfold dQ;simp only[List.length_append,List.length_take,List.length_drop,List.length_cons,List.length_nil];omega
  have e:j+(n+1)=j+1+n:=by omega
  rw[blkL,e,blk_take la off n (j+1) _ h2 (by omega)];have h3:jI la off ws j=gF la off j:=by unfold jI;rw[if_pos (by omega)]
  rw[h3,List.range'_succ,List.map_cons];unfold dQ;rw[List.take_append_of_le_length (by simp;omega),List.take_of_length_le (by simp;omega)];simp
theorem blk_first(la:List V)(off:Nat):(blkL la off 16 0 dB).take 16=nM (gF la off):=by
 have h:=blk_take la off 16 0 dB rfl (Nat.le_refl _);rw[Nat.zero_add]at h;rw[h];rfl
theorem pL(la:List V)(off:Nat):(blkL la off 16 0 dB).length=64:=blk_len la off 16 0 dB rfl (by decide)
theorem blk_sch(la:List V)(off:Nat):blkL la off 64 0 dB=schL 48 (nM (gF la off)):=by
 rw[blkL_add la off 48 16 0,sch_blk la off 48 (0+16) _ (pL la off) rfl (Nat.le_refl _),Nat.zero_add,blk_first]
theorem cells_sch{la:List V}{off:Nat}:cF (blkA la off)=schL 48 (nM (gF la off)):=by
 unfold blkA blkF;rw[blk_sch];exact pu (j4 48 _ rfl) (nW 48 _)
structure SC where
 hs:List V
 key:List V
 p:List V
 pl:Nat
 fr:Int
 ws:List V
def scV(y:SC):List V:=[.slice 0 0 8 false 0 0,.slice 1 0 64 false 0 0,.slice 2 0 y.pl false 0 0,.int .i64 y.fr,.slice 3 0 y.ws.length false 0 0,.int .i64 y.ws.length]
def scJ(y:SC):St:=[.row y.hs 124 1,.row y.key 124 1,.row y.p 5 1,.row y.ws 124 1]
def mE(y:SC):Bool:=(aC y.hs&&aC y.key&&aC y.p)&&(cx y.ws&&(Nat.ble 16 y.ws.length&&Nat.ble y.ws.length 64))
def scMu(y:SC):Nat:=64-y.ws.length
def scOutG(SL:Nat→List V→List V):Asks SC:=fun y K=>∀g:List V,g=SL (64-y.ws.length) y.ws→K (.exit 6) [.slice 0 0 8 false 0 0,.slice 1 0 64 false 0 0,.slice 2 0 y.pl false 0 0,.int .i64 y.fr,.slice 3 0 64 false 0 0,.int .i64 64] [.row y.hs 124 1,.row y.key 124 1,.row y.p 5 1,.row g 124 1]
theorem rE{hs key p ws:List V}(h1:aC hs=true)(h2:aC key=true)(h3:aC p=true)(h4:cx ws=true){a b c d:Nat}{st:St}(g1:st[a]?=some (.row hs 124 1))(g2:st[b]?=some (.row key 124 1))(g3:st[c]?=some (.row p 5 1))(g4:st[d]?=some (.row ws 124 1))(hd:[a,b,c,d].Nodup)(pl nw:Nat)(fr i:Int):
  Fits 0 [.slice 0 0 8 false 0 0,.slice 1 0 64 false 0 0,.slice 2 0 pl false 0 0,.int .i64 fr,.slice 3 0 nw false 0 0,.int .i64 i] [.row hs 124 1,.row key 124 1,.row p 5 1,.row ws 124 1]
   [some (.slice a 0 8 false 0 0),some (.slice b 0 64 false 0 0),some (.slice c 0 pl false 0 0),some (.int .i64 fr),some (.slice d 0 nw false 0 0),some (.int .i64 i)] st:=
 ⟨[a,b,c,d],[.slice a 0 8 false 0 0,.slice b 0 64 false 0 0,.slice c 0 pl false 0 0,.int .i64 fr,.slice d 0 nw false 0 0,.int .i64 i],rfl,rfl,FitsM.of ⟨fb h1 g1,fb h2 g2,fb h3 g3,fb (kI h4) g4,trivial⟩,hd,fun i hi=>by omega⟩
theorem sc_roundOk(y:SC)(hy:mE y=true):ah Tryz.prog (RS1 rotI) 9 10 (ad 9) 92 129610 [3,4,5,7,8,9] (scV y) (scJ y) (ay 0 mE scV scJ scMu (scOutG schL) y):=by
 obtain⟨hs,key,p,pl,fr,ws⟩:=y;unfold mE at hy;rw[Bool.and_eq_true,Bool.and_eq_true,Bool.and_eq_true,Bool.and_eq_true,Bool.and_eq_true]at hy;have h1:aC hs=true:=hy.1.1.1;have h2:aC key=true:=hy.1.1.2;have h3:aC p=true:=hy.1.2;have h4:cx ws=true:=hy.2.1;have h5:16≤ws.length:=Nat.le_of_ble_eq_true hy.2.2.1;have h6:ws.length≤64:=Nat.le_of_ble_eq_true hy.2.2.2;clear hy;show ah Tryz.prog (RS1 rotI) 9 10 (ad 9) 92 129610 [3,4,5,7,8,9] [.slice 0 0 8 false 0 0,.slice 1 0 64 false 0 0,.slice 2 0 pl false 0 0,.int .i64 fr,.slice 3 0 ws.length false 0 0,.int .i64 ws.length] [.row hs 124 1,.row key 124 1,.row p 5 1,.row ws 124 1] _;rw[rsch_round];unfold zD_0 zD_2 zD_1;cases hb:decide ((ws.length:Int)<64)with
 |true=>
  have hj:ws.length<64:=by have:=of_decide_eq_true hb;omega
  have w15:i64.wrap ((ws.length:Int)-15)=((ws.length-15:Nat):Int):=by rw[IntWalk.i64_in _ ⟨by omega,by omega⟩];omega
  have w2:i64.wrap ((ws.length:Int)-2)=((ws.length-2:Nat):Int):=by rw[IntWalk.i64_in _ ⟨by omega,by omega⟩];omega
  have w16:i64.wrap ((ws.length:Int)-16)=((ws.length-16:Nat):Int):=by rw[IntWalk.i64_in _ ⟨by omega,by omega⟩];omega
  have w7:i64.wrap ((ws.length:Int)-7)=((ws.length-7:Nat):Int):=by rw[IntWalk.i64_in _ ⟨by omega,by omega⟩];omega
  have e1:i64.wrap ((ws.length:Int)+1)=((ws.length+1:Nat):Int):=by rw[IntWalk.i64_in _ ⟨by omega,by omega⟩];omega
  rw[w15,w2,w16,w7,e1];simp only[Int.toNat_natCast];have s0:∀i:Nat,0+i*1=i:=fun i=>by omega
  simp only[s0];rw[cond_true];have k:∀i:Nat,i<ws.length→(decide ((0:Int)≤(i:Int))&&decide ((i:Int)<(ws.length:Int)))=true:=fun i hi=>by
   rw[Bool.and_eq_true];exact⟨decide_eq_true (by omega),decide_eq_true (by omega)⟩
  have q:∀i:Nat,i<ws.length→i.blt ws.length=true:=fun i hi=>Nat.ble_eq_true_of_le (by omega);refine aa (k _ (by omega)) (aa (q _ (by omega)) (aa (df h4 (by omega)) ?_));refine aa (k _ (by omega)) (aa (q _ (by omega)) (aa (df h4 (by omega)) ?_));refine aa (k _ (by omega)) (aa (q _ (by omega)) (aa (df h4 (by omega)) ?_));refine aa (k _ (by omega)) (aa (q _ (by omega)) (aa (df h4 (by omega)) ?_));refine aa (by rw[Nat.mul_one];exact Nat.beq_refl _) (aa (by rw[Bool.and_eq_true];exact⟨Nat.ble_eq_true_of_le (by omega),Nat.ble_eq_true_of_le (by omega)⟩) ?_);have fin:∀x:V,x=.int .u32 (gW ws ws.length)→ay 0 mE scV scJ scMu (scOutG schL) ⟨hs,key,p,pl,fr,ws⟩ .normal [some (.slice 0 0 8 false 0 0),some (.slice 1 0 64 false 0 0),some (.slice 2 0 pl false 0 0),some (.int .i64 fr),some (.slice 5 0 (ws.length+1) false 0 0),some (.int .i64 ((ws.length+1:Nat):Int))] [.row hs 124 1,.row key 124 1,.row p 5 1,.dead,.row [x] 124 1,.row (ws++[x]) 124 1]:=by
   intro x hx;subst hx;have ha:cx (ws++[V.int .u32 (gW ws ws.length)])=true:=re h4 rfl;have hl:(ws++[V.int .u32 (gW ws ws.length)]).length=ws.length+1:=by rw[List.length_append];rfl
   refine⟨⟨hs,key,p,pl,fr,ws++[.int .u32 (gW ws ws.length)]⟩,?_,?_,?_,fun K hK g hg=>hK g ?_⟩
   ·unfold mE;rw[Bool.and_eq_true,Bool.and_eq_true,Bool.and_eq_true,Bool.and_eq_true,Bool.and_eq_true];exact⟨⟨⟨h1,h2⟩,h3⟩,ha,Nat.ble_eq_true_of_le (by rw[hl];omega),Nat.ble_eq_true_of_le (by rw[hl];omega)⟩
   ·show Fits 0 [.slice 0 0 8 false 0 0,.slice 1 0 64 false 0 0,.slice 2 0 pl false 0 0,.int .i64 fr,.slice 3 0 (ws++[V.int .u32 (gW ws ws.length)]).length false 0 0,.int .i64 ((ws++[V.int .u32 (gW ws ws.length)]).length:Nat)] _ _ _;rw[hl];exact rE h1 h2 h3 ha rfl rfl rfl rfl (by decide) _ _ _ _
   ·show 64-(ws++[V.int .u32 (gW ws ws.length)]).length<64-ws.length;rw[hl];omega
   ·have hg:g=schL (64-(ws++[V.int .u32 (gW ws ws.length)]).length) (ws++[V.int .u32 (gW ws ws.length)]):=hg;rw[hl]at hg;show g=schL (64-ws.length) ws;have e:64-ws.length=(64-(ws.length+1))+1:=by omega
    rw[e,hg];rfl
  exact fin _ rfl
 |false=>
  have hj:ws.length=64:=by have:=of_decide_eq_false hb;omega
  refine⟨[.slice 0 0 8 false 0 0,.slice 1 0 64 false 0 0,.slice 2 0 pl false 0 0,.int .i64 fr,.slice 3 0 64 false 0 0,.int .i64 64],[.row hs 124 1,.row key 124 1,.row p 5 1,.row ws 124 1],fun K hK=>hK ws ?_,?_⟩
  ·show ws=schL (64-ws.length) ws;rw[hj];rfl
  ·rw[hj];exact rE h1 h2 h3 h4 rfl rfl rfl rfl (by decide) _ _ _ _
def scDec:List (Option V)→St→Option SC
 |[some (.slice a 0 8 false 0 0),some (.slice b 0 64 false 0 0),some (.slice c 0 pl false 0 0),some (.int .i64 fr),some (.slice d 0 16 false 0 0),some (.int .i64 16)],st=>
  match st[a]?,st[b]?,st[c]?,st[d]? with
  |some (.row hs _ _),some (.row key _ _),some (.row p _ _),some (.row ws _ _)=>some ⟨hs,key,p,pl,fr,ws⟩
  |_,_,_,_=>none
 |_,_=>none
noncomputable def zE_0:=[V.int u32 1116352408,V.int u32 1899447441,V.int u32 3049323471,V.int u32 3921009573,V.int u32 961987163,V.int u32 1508970993,V.int u32 2453635748,V.int u32 2870763221,V.int u32 3624381080,V.int u32 310598401,V.int u32 607225278,V.int u32 1426881987,V.int u32 1925078388,V.int u32 2162078206,V.int u32 2614888103,V.int u32 3248222580,V.int u32 3835390401,V.int u32 4022224774,V.int u32 264347078,V.int u32 604807628,V.int u32 770255983,V.int u32 1249150122,V.int u32 1555081692,V.int u32 1996064986,V.int u32 2554220882,V.int u32 2821834349,V.int u32 2952996808,V.int u32 3210313671,V.int u32 3336571891,V.int u32 3584528711,V.int u32 113926993,V.int u32 338241895,V.int u32 666307205,V.int u32 773529912,V.int u32 1294757372,V.int u32 1396182291,V.int u32 1695183700,V.int u32 1986661051,V.int u32 2177026350,V.int u32 2456956037,V.int u32 2730485921,V.int u32 2820302411,V.int u32 3259730800,V.int u32 3345764771,V.int u32 3516065817,V.int u32 3600352804,V.int u32 4094571909,V.int u32 275423344,V.int u32 430227734,V.int u32 506948616,V.int u32 659060556,V.int u32 883997877,V.int u32 958139571,V.int u32 1322822218,V.int u32 1537002063,V.int u32 1747873779,V.int u32 1955562222,V.int u32 2024104815,V.int u32 2227730452,V.int u32 2361852424,V.int u32 2428436474,V.int u32 2756734187,V.int u32 3204031479,V.int u32 3329325298]
noncomputable def zE_1(F:Int→Int→Int)(ws:List V)(i v4 v5 v6 v7:Int):=(u32.wrap (u32.wrap (u32.wrap (v7+u32.wrap (↑(BitVec.ofInt 32 (u32.wrap (↑(BitVec.ofInt 32 (F (v4) 6)^^^BitVec.ofInt 32 (F (v4) 11)).toNat:Int))^^^BitVec.ofInt 32 (F (v4) 25)).toNat:Int))+u32.wrap (↑(BitVec.ofInt 32 (u32.wrap (↑(BitVec.ofInt 32 (v4)&&&BitVec.ofInt 32 (v5)).toNat:Int))|||BitVec.ofInt 32 (u32.wrap (↑(BitVec.ofInt 32 (u32.wrap (↑(BitVec.ofInt 32 4294967295^^^BitVec.ofInt 32 (v4)).toNat:Int))&&&BitVec.ofInt 32 (v6)).toNat:Int))).toNat:Int))+af (zE_0.getD (0+i.toNat*1) (V.bool false)))+af (ws.getD (0+i.toNat*1) (V.bool false)))
theorem rmix_round(F:Int→Int→Int)(hs p ws:List V)(pl nw:Nat)(from' i:Int)(v0 v1 v2 v3 v4 v5 v6 v7:Int)(R:Exit→List (Option V)→St→Prop):ah Tryz.prog (RS1 F) 9 10 (ad 9) 92 518458 [3,4,5,7,8,12,13] [.slice 0 0 8 false 0 0,.slice 1 0 64 false 0 0,.slice 2 0 pl false 0 0,.int .i64 from',.slice 3 0 nw false 0 0,.slice 4 0 8 false 0 0,.int .i64 i] [.row hs 124 1,.row keyC 124 1,.row p 5 1,.row ws 124 1,.row [.int .u32 v0,.int .u32 v1,.int .u32 v2,.int .u32 v3,.int .u32 v4,.int .u32 v5,.int .u32 v6,.int .u32 v7] 124 1] R=
 (
 bif decide (i<64)then bif decide (0≤i)&&decide (i<64)then bif (0+i.toNat*1).blt 64 then bif ae u32 (zE_0.getD (0+i.toNat*1) (.bool
 false))then bif decide (0≤i)&&decide (i<(↑nw:Int))then bif (0+i.toNat*1).blt ws.length then bif ae u32 (ws.getD (0+i.toNat*1)
 (.bool false))then R .normal [some (.slice 0 0 8 false 0 0),some (.slice 1 0 64 false 0 0),some (.slice 2 0 pl false 0 0),some (.int i64
 from'),some (.slice 3 0 nw false 0 0),some (.slice 6 0 8 false 0 0),some (.int i64 (i64.wrap (i+1)))] [.row hs 124 1,.row zE_0 124
 1,.row p 5 1,.row ws 124 1,.row [.int u32 v0,.int u32 v1,.int u32 v2,.int u32 v3,.int u32 v4,.int
 u32 v5,.int u32 v6,.int u32 v7] 124 1,.dead,.row [.int u32 (u32.wrap (u32.wrap (zE_1 F ws i v4 v5 v6
 v7)+u32.wrap (u32.wrap (↑(BitVec.ofInt 32 (u32.wrap (↑(BitVec.ofInt 32 (F (v0) 2)^^^BitVec.ofInt 32 (F (v0) 13)).toNat:Int))^^^
 BitVec.ofInt 32 (F (v0) 22)).toNat:Int)+u32.wrap (↑(BitVec.ofInt 32 (u32.wrap (↑(BitVec.ofInt 32 (u32.wrap (↑(BitVec.ofInt 32 (v0)
 &&&BitVec.ofInt 32 (v1)).toNat:Int))|||BitVec.ofInt 32 (u32.wrap (↑(BitVec.ofInt 32 (v0)&&&BitVec.ofInt 32 (v2)).toNat:Int))).toNat:Int))|||
 BitVec.ofInt 32 (u32.wrap (↑(BitVec.ofInt 32 (v1)&&&BitVec.ofInt 32 (v2)).toNat:Int))).toNat:Int)))),.int u32 v0,.int u32 v1,
 .int u32 v2,.int u32 (u32.wrap (v3+u32.wrap (zE_1 F ws i v4 v5 v6 v7))),.int u32 v4,.int u32 v5,.int
 u32 v6] 124 1]else False else False else False else False else False else False else R (.exit 8) [some (.slice 0 0 8 false 0 0),some (.slice 1 0
 64 false 0 0),some (.slice 2 0 pl false 0 0),some (.int i64 from'),some (.slice 3 0 nw false 0 0),some (.slice 4 0 8 false 0 0),some (.int
 i64 i)] [.row hs 124 1,.row zE_0 124 1,.row p 5 1,.row ws 124 1,.row [.int u32 v0,.int u32 v1,.int u32
 v2,.int u32 v3,.int u32 v4,.int u32 v5,.int u32 v6,.int u32 v7] 124 1]):=by kernel_rfl
theorem gN(z:BitVec 32):BitVec.ofInt 32 (u32.wrap ((z.toNat:Nat):Int))=z:=by
 have h:=z.isLt;rw[IntWalk.u32_in _ ⟨by omega,by omega⟩,BitVec.ofInt_natCast,BitVec.ofNat_toNat,BitVec.setWidth_eq]
theorem ch_bv(E F G:BitVec 32):(E&&&F)|||((BitVec.allOnes 32^^^E)&&&G)=(E&&&F)^^^((BitVec.allOnes 32^^^E)&&&G):=by
 apply BitVec.eq_of_getLsbD_eq;intro i hi;simp only[BitVec.getLsbD_or,BitVec.getLsbD_and,BitVec.getLsbD_xor,BitVec.getLsbD_allOnes,hi,decide_true];cases E.getLsbD i<;>cases F.getLsbD i<;>cases G.getLsbD i<;>rfl
theorem maj_bv(A B C:BitVec 32):((A&&&B)|||(A&&&C))|||(B&&&C)=((A&&&B)^^^(A&&&C))^^^(B&&&C):=by
 apply BitVec.eq_of_getLsbD_eq;intro i hi;simp only[BitVec.getLsbD_or,BitVec.getLsbD_and,BitVec.getLsbD_xor];cases A.getLsbD i<;>cases B.getLsbD i<;>cases C.getLsbD i<;>rfl
theorem ch_or(e f g:Int):orI (andI e f) (andI (xorI 4294967295 e) g)=xorI (andI e f) (andI (xorI 4294967295 e) g):=by
 have h:BitVec.ofInt 32 4294967295=BitVec.allOnes 32:=by decide
 unfold orI xorI andI;rw[gN,gN,gN,h,ch_bv]
theorem maj_or(a b c:Int):orI (orI (andI a b) (andI a c)) (andI b c)=xorI (xorI (andI a b) (andI a c)) (andI b c):=by
 unfold orI xorI andI;rw[gN,gN,gN,gN,gN,maj_bv]
def tO(e f g h k w:Int):Int:=addI (addI (addI (addI h (xorI (xorI (rotI e 6) (rotI e 11)) (rotI e 25))) (orI (andI e f) (andI (xorI 4294967295 e) g))) k) w
def uO(a b c:Int):Int:=addI (xorI (xorI (rotI a 2) (rotI a 13)) (rotI a 22)) (orI (orI (andI a b) (andI a c)) (andI b c))
theorem tO_eq(e f g h k w:Int):tO e f g h k w=tI e f g h k w:=by unfold tO tI;rw[ch_or]
theorem uO_eq(a b c:Int):uO a b c=uI a b c:=by unfold uO uI;rw[maj_or]
def mixO(x:W8)(k w:Int):W8:=⟨addI (tO x.e x.f x.g x.h k w) (uO x.a x.b x.c),x.a,x.b,x.c,addI x.d (tO x.e x.f x.g x.h k w),x.e,x.f,x.g⟩
theorem mixO_eq(x:W8)(k w:Int):mixO x k w=mixR x k w:=by unfold mixO mixR;rw[tO_eq,uO_eq]
structure MD where
 hs:List V
 p:List V
 pl:Nat
 fr:Int
 ws:List V
 x:W8
 i:Nat
def mdV(y:MD):List V:=[.slice 0 0 8 false 0 0,.slice 1 0 64 false 0 0,.slice 2 0 y.pl false 0 0,.int .i64 y.fr,.slice 3 0 64 false 0 0,.slice 4 0 8 false 0 0,.int .i64 y.i]
def mdJ(y:MD):St:=[.row y.hs 124 1,.row keyC 124 1,.row y.p 5 1,.row y.ws 124 1,.row y.x.cells 124 1]
def mR(y:MD):Bool:=(aC y.hs&&aC y.p)&&(cx y.ws&&(Nat.beq y.ws.length 64&&Nat.ble y.i 64))
def mdMu(y:MD):Nat:=64-y.i
def mdOutG(ML:Nat→Nat→List V→W8→W8):Asks MD:=fun y K=>∀x:W8,x=ML (64-y.i) y.i y.ws y.x→K (.exit 8) [.slice 0 0 8 false 0 0,.slice 1 0 64 false 0 0,.slice 2 0 y.pl false 0 0,.int .i64 y.fr,.slice 3 0 64 false 0 0,.slice 4 0 8 false 0 0,.int .i64 64] [.row y.hs 124 1,.row keyC 124 1,.row y.p 5 1,.row y.ws 124 1,.row x.cells 124 1]
theorem fZ:aC keyC=true:=by decide+kernel
theorem sh{hs p ws:List V}{x:W8}(h1:aC hs=true)(h3:aC p=true)(h4:cx ws=true){a b c d e:Nat}{st:St}(g1:st[a]?=some (.row hs 124 1))(g2:st[b]?=some (.row keyC 124 1))(g3:st[c]?=some (.row p 5 1))(g4:st[d]?=some (.row ws 124 1))(g5:st[e]?=some (.row x.cells 124 1))(hd:[a,b,c,d,e].Nodup)(pl nw:Nat)(fr i:Int):
  Fits 0 [.slice 0 0 8 false 0 0,.slice 1 0 64 false 0 0,.slice 2 0 pl false 0 0,.int .i64 fr,.slice 3 0 nw false 0 0,.slice 4 0 8 false 0 0,.int .i64 i] [.row hs 124 1,.row keyC 124 1,.row p 5 1,.row ws 124 1,.row x.cells 124 1]
   [some (.slice a 0 8 false 0 0),some (.slice b 0 64 false 0 0),some (.slice c 0 pl false 0 0),some (.int .i64 fr),some (.slice d 0 nw false 0 0),some (.slice e 0 8 false 0 0),some (.int .i64 i)] st:=
 ⟨[a,b,c,d,e],[.slice a 0 8 false 0 0,.slice b 0 64 false 0 0,.slice c 0 pl false 0 0,.int .i64 fr,.slice d 0 nw false 0 0,.slice e 0 8 false 0 0,.int .i64 i],rfl,rfl,FitsM.of ⟨fb h1 g1,fb fZ g2,fb h3 g3,fb (kI h4) g4,fb rfl g5,trivial⟩,hd,fun i hi=>by omega⟩
theorem md_roundOk(y:MD)(hy:mR y=true):ah Tryz.prog (RS1 rotI) 9 10 (ad 9) 92 518458 [3,4,5,7,8,12,13] (mdV y) (mdJ y) (ay 0 mR mdV mdJ mdMu (mdOutG mixL) y):=by
 obtain⟨hs,p,pl,fr,ws,x,i⟩:=y;unfold mR at hy;rw[Bool.and_eq_true,Bool.and_eq_true,Bool.and_eq_true,Bool.and_eq_true]at hy;have h1:aC hs=true:=hy.1.1;have h3:aC p=true:=hy.1.2;have h4:cx ws=true:=hy.2.1;have h5:ws.length=64:=Nat.eq_of_beq_eq_true hy.2.2.1;have h6:i≤64:=Nat.le_of_ble_eq_true hy.2.2.2;clear hy;show ah Tryz.prog (RS1 rotI) 9 10 (ad 9) 92 518458 [3,4,5,7,8,12,13] [.slice 0 0 8 false 0 0,.slice 1 0 64 false 0 0,.slice 2 0 pl false 0 0,.int .i64 fr,.slice 3 0 64 false 0 0,.slice 4 0 8 false 0 0,.int .i64 i] [.row hs 124 1,.row keyC 124 1,.row p 5 1,.row ws 124 1,.row [.int .u32 x.a,.int .u32 x.b,.int .u32 x.c,.int .u32 x.d,.int .u32 x.e,.int .u32 x.f,.int .u32 x.g,.int .u32 x.h] 124 1] _;rw[rmix_round];unfold zE_1 zE_0;cases hb:decide ((i:Int)<64)with
 |true=>
  have hj:i<64:=by have:=of_decide_eq_true hb;omega
  have e1:i64.wrap ((i:Int)+1)=((i+1:Nat):Int):=by rw[IntWalk.i64_in _ ⟨by omega,by omega⟩];omega
  have c1:(decide ((0:Int)≤(i:Int))&&true)=true:=by rw[Bool.and_true];exact decide_eq_true (by omega)
  have c4:∀i:Fin 64,ae .u32 (keyC.getD i.val (.bool false))=true:=by decide+kernel
  have c5:=c4 ⟨i,hj⟩;have e0:0+i*1=i:=by omega
  have c6:i.blt keyC.length=true:=Nat.ble_eq_true_of_le (by show i+1≤64;omega);have c7:(decide ((0:Int)≤(i:Int))&&decide ((i:Int)<((64:Nat):Int)))=true:=by rw[Bool.and_eq_true];exact⟨decide_eq_true (by omega),decide_eq_true (by omega)⟩
  rw[Int.toNat_natCast,e1,e0,cond_true];refine aa c1 (aa c6 (aa c5 (aa c1 (aa (Nat.ble_eq_true_of_le (by omega)) (aa (df h4 (by omega)) ?_)))));have fin:∀cs:List V,cs=(mixO x (keyI i) (wI ws i)).cells→ay 0 mR mdV mdJ mdMu (mdOutG mixL) ⟨hs,p,pl,fr,ws,x,i⟩ .normal [some (.slice 0 0 8 false 0 0),some (.slice 1 0 64 false 0 0),some (.slice 2 0 pl false 0 0),some (.int .i64 fr),some (.slice 3 0 64 false 0 0),some (.slice 6 0 8 false 0 0),some (.int .i64 ((i+1:Nat):Int))] [.row hs 124 1,.row keyC 124 1,.row p 5 1,.row ws 124 1,.row x.cells 124 1,.dead,.row cs 124 1]:=by
   intro cs hx;rw[mixO_eq]at hx;subst hx;refine⟨⟨hs,p,pl,fr,ws,mixR x (keyI i) (wI ws i),i+1⟩,?_,?_,?_,fun K hK g hg=>hK g ?_⟩
   ·unfold mR;rw[Bool.and_eq_true,Bool.and_eq_true,Bool.and_eq_true,Bool.and_eq_true];exact⟨⟨h1,h3⟩,h4,by rw[h5];rfl,Nat.ble_eq_true_of_le hj⟩
   ·exact sh h1 h3 h4 rfl rfl rfl rfl rfl (by decide) _ _ _ _
   ·simp only[mdMu];omega
   ·have hg:g=mixL (64-(i+1)) (i+1) ws (mixR x (keyI i) (wI ws i)):=hg;show g=mixL (64-i) i ws x;have e:64-i=(64-(i+1))+1:=by omega
    rw[e,hg];rfl
  exact fin _ rfl
 |false=>
  have hj:i=64:=by have:=of_decide_eq_false hb;omega
  subst hj;refine⟨[.slice 0 0 8 false 0 0,.slice 1 0 64 false 0 0,.slice 2 0 pl false 0 0,.int .i64 fr,.slice 3 0 64 false 0 0,.slice 4 0 8 false 0 0,.int .i64 64],[.row hs 124 1,.row keyC 124 1,.row p 5 1,.row ws 124 1,.row x.cells 124 1],fun K hK=>hK x rfl,?_⟩;exact sh h1 h3 h4 rfl rfl rfl rfl rfl (by decide) _ _ _ _
def mdDec:List (Option V)→St→Option MD
 |[some (.slice a 0 8 false 0 0),some (.slice b 0 64 false 0 0),some (.slice c 0 pl false 0 0),some (.int .i64 fr),some (.slice d 0 64 false 0 0),some (.slice e 0 8 false 0 0),some (.int .i64 0)],st=>
  match st[a]?,st[c]?,st[d]?,st[e]? with
  |some (.row hs _ _),some (.row p _ _),some (.row ws _ _),some (.row [.int .u32 a1,.int .u32 a2,.int .u32 a3,.int .u32 a4,.int .u32 a5,.int .u32 a6,.int .u32 a7,.int .u32 a8] _ _)=>some ⟨hs,p,pl,fr,ws,⟨a1,a2,a3,a4,a5,a6,a7,a8⟩,0⟩
  |_,_,_,_=>none
 |_,_=>none
noncomputable def RS2(OB:List V→Nat→Bool)(WB:List V→Nat→Nat→Int):Tab:=⟨noT,addM noL 135 (wdsT OB WB),aL 9⟩
theorem RS2_ok:TabOk3 Tryz.prog (RS2 okB gF):=⟨aA,nG aB wds_ok,ak 9⟩
noncomputable def lkIn(SL:Nat→List V→List V)(ML:Nat→Nat→List V→W8→W8):Nat→Trans→Trans:=aR 129610 (br 0 (szOf Tryz.prog 92) [3,4,5,7,8,9] scDec mE scV scJ (scOutG SL)) (aR 518458 (br 0 (szOf Tryz.prog 92) [3,4,5,7,8,12,13] mdDec mR mdV mdJ (mdOutG ML)) (ad 9))
theorem rpad_round(s:List UInt8)(hs key cs:List V)(k:Nat)(R:Exit→List (Option V)→St→Prop):ah Tryz.prog RS0 9 10 (ad 9) 92 60 [0,3,4,5] [.str s,.slice 0 0 8 false 0 0,.slice 1 0 64 false 0 0,.slice 2 0 k false 0 0] [.row hs 124 1,.row key 124 1,.row cs 5 1] R=
  (
 bif (↑k:Int).tmod 64!=56 then bif cs.length.beq (k*1)then bif (k+1).ble 9223372036854775807&&((k+1)*1).ble 140737488355328 then R .normal [some (.str
 s),some (.slice 0 0 8 false 0 0),some (.slice 1 0 64 false 0 0),some (.slice 4 0 (k+1) false 0 0)] [.row hs 124 1,.row key 124 1,.dead,.row [.int
 u8 0] 5 1,.row (cs++[V.int u8 0]) 5 1]else False else False else R (.exit 0) [some (.str s),some (.slice 0 0 8 false 0 0),some (.slice 1 0
 64 false 0 0),some (.slice 2 0 k false 0 0)] [.row hs 124 1,.row key 124 1,.row cs 5 1]):=by kernel_rfl
noncomputable def zF_2(fr:Nat):=(0+(↑fr:Int).toNat*1)
noncomputable def zF_0(WB:List V→Nat→Nat→Int)(la:List V)(fr:Nat):=[V.int u32 (WB la (zF_2 fr) 0),V.int u32 (WB la (zF_2 fr) 1),V.int u32 (WB la (zF_2 fr) 2),V.int u32 (WB la (zF_2 fr) 3),V.int u32 (WB la (zF_2 fr) 4),V.int u32 (WB la (zF_2 fr) 5),V.int u32 (WB la (zF_2 fr) 6),V.int u32 (WB la (zF_2 fr) 7),V.int u32 (WB la (zF_2 fr) 8),V.int u32 (WB la (zF_2 fr) 9),V.int u32 (WB la (zF_2 fr) 10),V.int u32 (WB la (zF_2 fr) 11),V.int u32 (WB la (zF_2 fr) 12),V.int u32 (WB la (zF_2 fr) 13),V.int u32 (WB la (zF_2 fr) 14),V.int u32 (WB la (zF_2 fr) 15)]
noncomputable def zF_1(a b c d e f g h:Int):=[V.int u32 a,V.int u32 b,V.int u32 c,V.int u32 d,V.int u32 e,V.int u32 f,V.int u32 g,V.int u32 h]
theorem rblk_round(OB:List V→Nat→Bool)(WB:List V→Nat→Nat→Int)(SL:Nat→List V→List V)(ML:Nat→Nat→List V→W8→W8)(a b c d e f g h:Int)(key la:List V)(pl fr:Nat)(R:Exit→List (Option V)→St→Prop):ah Tryz.prog (RS2 OB WB) 9 10 (lkIn SL ML) 92 506 [3,4,5,7] [.slice 0 0 8 false 0 0,.slice 1 0 64 false 0 0,.slice 2 0 pl false 0 0,.int .i64 fr] [.row [.int .u32 a,.int .u32 b,.int .u32 c,.int .u32 d,.int .u32 e,.int .u32 f,.int .u32 g,.int .u32 h] 124 1,.row key 124 1,.row la 5 1] R=
 (
 bif decide ((↑fr:Int)<(↑pl:Int))then bif decide (0≤i64.wrap ((↑fr:Int)+64))then bif (↑fr:Int).toNat.ble (i64.wrap ((↑fr:Int)+
 64)).toNat&&(i64.wrap ((↑fr:Int)+64)).toNat.ble pl then bif ((i64.wrap ((↑fr:Int)+64)).toNat-(↑fr:Int).toNat).beq 64&&OB la (zF_2
 fr)then Fits 0 [.slice 0 0 8 false 0 0,.slice 1 0 64 false 0 0,.slice 2 0 pl false 0 0,.int i64 (↑fr:Int),.slice 3 0 16 false 0 0,.int
 i64 16] [.row (zF_1 a b c d e f g h) 124 1,.row key 124 1,.row la 5 1,.row (zF_0 WB la fr) 124 1] [some (.slice 0 0 8 false 0 0),some
 (.slice 1 0 64 false 0 0),some (.slice 2 0 pl false 0 0),some (.int i64 (↑fr:Int)),some (.slice 3 0 16 false 0 0),some (.int i64 16)]
 [.row (zF_1 a b c d e f g h) 124 1,.row key 124 1,.row la 5 1,.row (zF_0 WB la fr) 124 1]∧bif mE
 {hs:=(zF_1 a b c d e f g h),key:=key,p:=la,pl:=pl,fr:=(↑fr:Int),ws:=(zF_0 WB la fr)}then ∀(g_1:List V),g_1=SL 48 (zF_0 WB la fr)→
 Fits 0 [.slice 0 0 8 false 0 0,.slice 1 0 64 false 0 0,.slice 2 0 pl false 0 0,.int i64 (↑fr:Int),.slice 3 0 64 false 0 0,.slice 4 0 8 false
 0 0,.int i64 0] [.row (zF_1 a b c d e f g h) 124 1,.row keyC 124 1,.row la 5 1,.row g_1 124 1,.row (zF_1 a b c d e f g h) 124 1]
 [some (.slice 0 0 8 false 0 0),some (.slice 1 0 64 false 0 0),some (.slice 2 0 pl false 0 0),some (.int i64 (↑fr:Int)),some (.slice 3 0 64
 false 0 0),some (.slice 5 0 8 false 0 0),some (.int i64 0)] [.row (zF_1 a b c d e f g h) 124 1,.row key 124 1,.row la 5 1,.row g_1 124
 1,.dead,.row (zF_1 a b c d e f g h) 124 1]∧bif mR
 {hs:=(zF_1 a b c d e f g h),p:=la,pl:=pl,fr:=(↑fr:Int),ws:=g_1,x:={a:=a,b:=b,c:=c,d:=d,e:=e,f:=f,g:=g,h:=h},i:=0}
 then ∀(x:W8),x=ML 64 0 g_1 {a:=a,b:=b,c:=c,d:=d,e:=e,f:=f,g:=g,h:=h}→R .normal [some (.slice 0 0 8 false 0 0),some
 (.slice 1 0 64 false 0 0),some (.slice 2 0 pl false 0 0),some (.int i64 (i64.wrap ((↑fr:Int)+64)))] [.row [.int u32
 (u32.wrap (a+x.a)),.int u32 (u32.wrap (b+x.b)),.int u32 (u32.wrap (c+x.c)),.int u32 (u32.wrap
 (d+x.d)),.int u32 (u32.wrap (e+x.e)),.int u32 (u32.wrap (f+x.f)),.int u32 (u32.wrap (g+x.g)),.int
 u32 (u32.wrap (h+x.h))] 124 1,.row keyC 124 1,.row la 5 1,.row g_1 124 1,.row [.int u32 x.a,.int u32 x.b,
 .int u32 x.c,.int u32 x.d,.int u32 x.e,.int u32 x.f,.int u32 x.g,.int u32 x.h] 124 1]else False else
 False else False else False else False else R (.exit 4) [some (.slice 0 0 8 false 0 0),some (.slice 1 0 64 false 0 0),some (.slice 2 0 pl false 0 0),
 some (.int i64 (↑fr:Int))] [.row (zF_1 a b c d e f g h) 124 1,.row key 124 1,.row la 5 1]):=by kernel_rfl
theorem eS(a b:Int):addI a b=addI b a:=by unfold addI;rw[Int.add_comm]
theorem lkIn_ok:dA Tryz.prog none 0 (lkIn schL mixL) (2*506) (cp Tryz.prog 92 506):=by
 unfold lkIn;refine ce _ _ (ce _ _ (aS 9 _ _) fun c' hc f st Q h=>?_) fun c' hc f st Q h=>?_
 ·rw[show bv 518458 (2*506) (cp Tryz.prog 92 506)=[cp Tryz.prog 92 518458] by kernel_rfl]at hc;obtain rfl:=List.mem_singleton.1 hc;exact aU (P:=Tryz.prog) (T:=RS1 rotI) (k:=0) (lim:=9) (n:=10) (g:=92) (p0:=518458) (lk:=ad 9) mixed RS1_ok (aS 9 _ _) mdMu md_roundOk h
 ·rw[show bv 129610 (2*506) (cp Tryz.prog 92 506)=[cp Tryz.prog 92 129610] by kernel_rfl]at hc;obtain rfl:=List.mem_singleton.1 hc;exact aU (P:=Tryz.prog) (T:=RS1 rotI) (k:=0) (lim:=9) (n:=10) (g:=92) (p0:=129610) (lk:=ad 9) mixed RS1_ok (aS 9 _ _) scMu sc_roundOk h
structure PD where
 s:List UInt8
 hs:List V
 key:List V
 cs:List V
def pdV(x:PD):List V:=[.str x.s,.slice 0 0 8 false 0 0,.slice 1 0 64 false 0 0,.slice 2 0 x.cs.length false 0 0]
def pdJ(x:PD):St:=[.row x.hs 124 1,.row x.key 124 1,.row x.cs 5 1]
def mM(x:PD):Bool:=(aC x.hs&&aC x.key)&&(aC x.cs&&Nat.ble (x.cs.length+dxN x.cs.length) 1000000)
def pdMu(x:PD):Nat:=dxN x.cs.length
def pdOutG(FP:List V→List V):Asks PD:=fun x K=>∀p:List V,p=FP x.cs→K (.exit 0) [.str x.s,.slice 0 0 8 false 0 0,.slice 1 0 64 false 0 0,.slice 2 0 p.length false 0 0] [.row x.hs 124 1,.row x.key 124 1,.row p 5 1]
def pdDec:List (Option V)→St→Option PD
 |[some (.str s),some (.slice a 0 8 false 0 0),some (.slice b 0 64 false 0 0),some (.slice c 0 _ false 0 0)],st=>
  match st[a]?,st[b]?,st[c]? with
  |some (.row hs _ _),some (.row key _ _),some (.row cs _ _)=>some ⟨s,hs,key,cs⟩
  |_,_,_=>none
 |_,_=>none
theorem rW(s:List UInt8){hs key cs:List V}(h1:aC hs=true)(h2:aC key=true)(h3:aC cs=true)(k:Nat){a b c:Nat}{st:St}(g1:st[a]?=some (.row hs 124 1))(g2:st[b]?=some (.row key 124 1))(g3:st[c]?=some (.row cs 5 1))(hd:[a,b,c].Nodup):Fits 0 [.str s,.slice 0 0 8 false 0 0,.slice 1 0 64 false 0 0,.slice 2 0 k false 0 0] [.row hs 124 1,.row key 124 1,.row cs 5 1] [some (.str s),some (.slice a 0 8 false 0 0),some (.slice b 0 64 false 0 0),some (.slice c 0 k false 0 0)] st:=
 ⟨[a,b,c],[.str s,.slice a 0 8 false 0 0,.slice b 0 64 false 0 0,.slice c 0 k false 0 0],rfl,rfl,FitsM.of ⟨fb h1 g1,fb h2 g2,fb h3 g3,trivial⟩,hd,fun i hi=>by omega⟩
theorem pd_roundOk(x:PD)(hx:mM x=true):ah Tryz.prog RS0 9 10 (ad 9) 92 60 [0,3,4,5] (pdV x) (pdJ x) (ay 0 mM pdV pdJ pdMu (pdOutG dxP) x):=by
 obtain⟨s,hs,key,cs⟩:=x;unfold mM at hx;rw[Bool.and_eq_true,Bool.and_eq_true,Bool.and_eq_true]at hx;have h1:aC hs=true:=hx.1.1;have h2:aC key=true:=hx.1.2;have p1:aC cs=true:=hx.2.1;have p2:cs.length+dxN cs.length≤1000000:=Nat.le_of_ble_eq_true hx.2.2;clear hx;show ah Tryz.prog RS0 9 10 (ad 9) 92 60 [0,3,4,5] [.str s,.slice 0 0 8 false 0 0,.slice 1 0 64 false 0 0,.slice 2 0 cs.length false 0 0] [.row hs 124 1,.row key 124 1,.row cs 5 1] _;generalize hn:cs.length=n at*
 rw[rpad_round];have hm:(n:Int).tmod 64=((n%64:Nat):Int):=by rw[Int.tmod_eq_emod_of_nonneg (by omega)];omega
 rw[hm];refine ab (fun h=>?_) (fun h=>?_)
 ·have h:n%64≠56:=by
   intro h0;rw[h0]at h;simp at h
  have p3:dxN n=dxN (n+1)+1:=by unfold dxN;omega
  refine aa (by rw[Nat.mul_one,hn];exact Nat.beq_refl _) (aa (by rw[Bool.and_eq_true];exact⟨Nat.ble_eq_true_of_le (by omega),Nat.ble_eq_true_of_le (by omega)⟩) ?_);have hl:(cs++[V.int .u8 0]).length=n+1:=by rw[List.length_append,hn];rfl
  have hf:aC (cs++[V.int .u8 0])=true:=jy p1 rfl;refine⟨⟨s,hs,key,cs++[.int .u8 0]⟩,?_,?_,?_,fun K hK=>?_⟩
  ·unfold mM;rw[Bool.and_eq_true,Bool.and_eq_true,Bool.and_eq_true];refine⟨⟨h1,h2⟩,hf,Nat.ble_eq_true_of_le ?_⟩;show(cs++[V.int .u8 0]).length+dxN (cs++[V.int .u8 0]).length≤1000000;rw[hl];omega
  ·show Fits 0 [.str s,.slice 0 0 8 false 0 0,.slice 1 0 64 false 0 0,.slice 2 0 (cs++[V.int .u8 0]).length false 0 0] _ _ _;rw[hl];exact rW s h1 h2 hf _ rfl rfl rfl (by decide)
  ·show dxN (cs++[V.int .u8 0]).length<dxN cs.length;rw[hl,hn];omega
  ·have:dxP (cs++[.int .u8 0])=dxP cs:=by
    unfold dxP;rw[hl,hn,List.append_assoc];rw[p3,List.replicate_succ];rfl
   exact fun p hp=>hK p (hp.trans this)
 ·have h:n%64=56:=by
   have:((n%64:Nat):Int)=56:=by simpa using h
   omega
  refine⟨[.str s,.slice 0 0 8 false 0 0,.slice 1 0 64 false 0 0,.slice 2 0 n false 0 0],[.row hs 124 1,.row key 124 1,.row cs 5 1],fun K hK=>?_,rW s h1 h2 p1 _ rfl rfl rfl (by decide)⟩;have:dxP cs=cs:=by
   unfold dxP;have:dxN cs.length=0:=by rw[hn];unfold dxN;omega
   rw[this,List.replicate_zero,List.append_nil]
  have hK:=hK cs this.symm;rw[hn]at hK;exact hK
theorem pd_loop{f:Fr}{st:St}{Q:Exit→Fr→St→Prop}(h:br 0 (szOf Tryz.prog 92) [0,3,4,5] pdDec mM pdV pdJ (pdOutG dxP) f st Q):CodeSatW Tryz.prog none 0 (.loop (cp Tryz.prog 92 60)) f st Q:=
 aU (P:=Tryz.prog) (T:=RS0) (k:=0) (lim:=9) (n:=10) (g:=92) (p0:=60) (lk:=ad 9) mixed s8 (aS 9 _ _) pdMu pd_roundOk h
structure BD where
 la:List V
 x:W8
 fr:Nat
def bdV(y:BD):List V:=[.slice 0 0 8 false 0 0,.slice 1 0 64 false 0 0,.slice 2 0 y.la.length false 0 0,.int .i64 y.fr]
def bdJ(y:BD):St:=[.row y.x.cells 124 1,.row keyC 124 1,.row y.la 5 1]
def lM(y:BD):Bool:=okA y.la&&(Nat.ble y.la.length 1000000&&(Nat.ble y.fr y.la.length&&(Nat.beq (y.la.length%64) 0&&Nat.beq (y.fr%64) 0)))
def bdMu(y:BD):Nat:=y.la.length-y.fr
def sS(SL:Nat→Nat→List V→W8→W8):Asks BD:=fun y K=>∀x:W8,x=SL ((y.la.length-y.fr)/64) y.fr y.la y.x→∀fr:Int,K (.exit 4) [.slice 0 0 8 false 0 0,.slice 1 0 64 false 0 0,.slice 2 0 y.la.length false 0 0,.int .i64 fr] [.row x.cells 124 1,.dead,.dead]
theorem bd_fits(x:W8){la:List V}(h3:aC la=true){a b c:Nat}{st:St}(g1:st[a]?=some (.row x.cells 124 1))(g2:st[b]?=some (.row keyC 124 1))(g3:st[c]?=some (.row la 5 1))(hd:[a,b,c].Nodup)(k:Nat)(fr:Int):Fits 0 [.slice 0 0 8 false 0 0,.slice 1 0 64 false 0 0,.slice 2 0 k false 0 0,.int .i64 fr] [.row x.cells 124 1,.row keyC 124 1,.row la 5 1] [some (.slice a 0 8 false 0 0),some (.slice b 0 64 false 0 0),some (.slice c 0 k false 0 0),some (.int .i64 fr)] st:=
 ⟨[a,b,c],[.slice a 0 8 false 0 0,.slice b 0 64 false 0 0,.slice c 0 k false 0 0,.int .i64 fr],rfl,rfl,FitsM.of ⟨fb rfl g1,fb fZ g2,fb h3 g3,trivial⟩,hd,fun i hi=>by omega⟩
theorem bd_out(x:W8)(la:List V)(k:Nat)(fr:Int):Fits 0 [.slice 0 0 8 false 0 0,.slice 1 0 64 false 0 0,.slice 2 0 k false 0 0,.int .i64 fr] [.row x.cells 124 1,.dead,.dead] [some (.slice 0 0 8 false 0 0),some (.slice 1 0 64 false 0 0),some (.slice 2 0 k false 0 0),some (.int .i64 fr)] [.row x.cells 124 1,.row keyC 124 1,.row la 5 1]:=
 ⟨[0,1,2],[.slice 0 0 8 false 0 0,.slice 1 0 64 false 0 0,.slice 2 0 k false 0 0,.int .i64 fr],rfl,rfl,FitsM.of ⟨fb rfl rfl,.inl rfl,.inl rfl,trivial⟩,by decide,fun i hi=>by omega⟩
theorem bd_roundOk(y:BD)(hy:lM y=true):ah Tryz.prog (RS2 okB gF) 9 10 (lkIn schL mixL) 92 506 [3,4,5,7] (bdV y) (bdJ y) (ay 0 lM bdV bdJ bdMu (sS sumL) y):=by
 obtain⟨la,x,fr⟩:=y;unfold lM at hy;rw[Bool.and_eq_true,Bool.and_eq_true,Bool.and_eq_true,Bool.and_eq_true]at hy;have p1:okA la=true:=hy.1;have p2:la.length≤1000000:=Nat.le_of_ble_eq_true hy.2.1;have p3:fr≤la.length:=Nat.le_of_ble_eq_true hy.2.2.1;have p4:la.length%64=0:=Nat.eq_of_beq_eq_true hy.2.2.2.1;have p5:fr%64=0:=Nat.eq_of_beq_eq_true hy.2.2.2.2;clear hy;have hf:aC la=true:=by have h:=p1;unfold okA at h;rw[Bool.and_eq_true]at h;exact h.1
 show ah Tryz.prog (RS2 okB gF) 9 10 (lkIn schL mixL) 92 506 [3,4,5,7] [.slice 0 0 8 false 0 0,.slice 1 0 64 false 0 0,.slice 2 0 la.length false 0 0,.int .i64 fr] [.row [.int .u32 x.a,.int .u32 x.b,.int .u32 x.c,.int .u32 x.d,.int .u32 x.e,.int .u32 x.f,.int .u32 x.g,.int .u32 x.h] 124 1,.row keyC 124 1,.row la 5 1] _;rw[rblk_round];unfold zF_1 zF_0 zF_2;refine ab (fun hb=>?_) (fun hb=>?_)
 ·have hb:=of_decide_eq_true hb;have hl:fr+64≤la.length:=by omega
  have e1:i64.wrap ((fr:Int)+64)=((fr+64:Nat):Int):=by rw[IntWalk.i64_in _ ⟨by omega,by omega⟩];omega
  have e0:0+fr*1=fr:=by omega
  rw[e1];simp only[Int.toNat_natCast,e0];refine aa (decide_eq_true (by omega)) (aa (by rw[Bool.and_eq_true];exact⟨Nat.ble_eq_true_of_le (by omega),Nat.ble_eq_true_of_le (by omega)⟩) (aa ?_ ?_))
  ·rw[Bool.and_eq_true];refine⟨?_,okA_B p1 hl⟩;have:fr+64-fr=64:=by omega
   rw[this];rfl
  refine⟨rE (ws:=nM (gF la fr)) rfl fZ hf rfl rfl rfl rfl rfl (by decide) _ _ _ _,aa ?_ fun g hg=>?_⟩
  ·unfold mE;rw[Bool.and_eq_true,Bool.and_eq_true,Bool.and_eq_true];exact⟨⟨⟨rfl,fZ⟩,hf⟩,rfl⟩
  have hg:g=schL 48 (nM (gF la fr)):=hg;have g1:cx g=true:=by rw[hg];exact j4 48 _ rfl
  have g2:g.length=64:=by rw[hg];exact nW 48 _
  refine⟨sh (x:=x) rfl hf g1 rfl rfl rfl rfl rfl (by decide) _ _ _ _,aa ?_ fun x' hx=>?_⟩
  ·unfold mR;rw[Bool.and_eq_true,Bool.and_eq_true,Bool.and_eq_true,Bool.and_eq_true];exact⟨⟨rfl,hf⟩,g1,by rw[g2];rfl,rfl⟩
  have hx:x'=mixL 64 0 (cF (blkA la fr)) x:=by rw[hx,hg,cells_sch]
  have fin:∀cs:List V,cs=(mixE x (cF (blkA la fr))).cells→∀r:St,ay 0 lM bdV bdJ bdMu (sS sumL) ⟨la,x,fr⟩ .normal [some (.slice 0 0 8 false 0 0),some (.slice 1 0 64 false 0 0),some (.slice 2 0 la.length false 0 0),some (.int .i64 ((fr+64:Nat):Int))] (.row cs 124 1::.row keyC 124 1::.row la 5 1::r):=by
   intro cs hcs r;subst hcs;refine⟨⟨la,mixE x (cF (blkA la fr)),fr+64⟩,?_,?_,?_,fun K hK z hz=>hK z ?_⟩
   ·unfold lM;rw[Bool.and_eq_true,Bool.and_eq_true,Bool.and_eq_true,Bool.and_eq_true];refine⟨p1,Nat.ble_eq_true_of_le p2,Nat.ble_eq_true_of_le hl,?_,?_⟩
    ·show Nat.beq (la.length%64) 0=true;rw[p4];rfl
    ·show Nat.beq ((fr+64)%64) 0=true;have:(fr+64)%64=0:=by omega
     rw[this];rfl
   ·exact bd_fits _ hf rfl rfl rfl (by decide) _ _
   ·simp only[bdMu];omega
   ·have hz:z=sumL ((la.length-(fr+64))/64) (fr+64) la (mixE x (cF (blkA la fr))):=hz;show z=sumL ((la.length-fr)/64) fr la x;have e:(la.length-fr)/64=(la.length-(fr+64))/64+1:=by omega
    rw[e,hz];rfl
  refine fin _ ?_ _;unfold mixE;rw[←hx];rw[eS x'.a,eS x'.b,eS x'.c,eS x'.d,eS x'.e,eS x'.f,eS x'.g,eS x'.h];rfl
 ·have hb:=of_decide_eq_false hb;have hl:fr=la.length:=by omega
  refine⟨[.slice 0 0 8 false 0 0,.slice 1 0 64 false 0 0,.slice 2 0 la.length false 0 0,.int .i64 fr],[.row x.cells 124 1,.dead,.dead],fun K hK=>?_,bd_out x la _ _⟩;refine hK x ?_ fr;show x=sumL ((la.length-fr)/64) fr la x;rw[hl,Nat.sub_self,Nat.zero_div];rfl
def bdDec:List (Option V)→St→Option BD
 |[some (.slice a 0 8 false 0 0),some (.slice b 0 64 false 0 0),some (.slice c 0 _ false 0 0),some (.int .i64 0)],st=>
  match st[a]?,st[c]? with
  |some (.row [.int .u32 a1,.int .u32 a2,.int .u32 a3,.int .u32 a4,.int .u32 a5,.int .u32 a6,.int .u32 a7,.int .u32 a8] _ _),some (.row la _ _)=>some ⟨la,⟨a1,a2,a3,a4,a5,a6,a7,a8⟩,0⟩
  |_,_=>none
 |_,_=>none
theorem bd_loop{f:Fr}{st:St}{Q:Exit→Fr→St→Prop}(h:br 0 (szOf Tryz.prog 92) [3,4,5,7] bdDec lM bdV bdJ (sS sumL) f st Q):CodeSatW Tryz.prog none 0 (.loop (cp Tryz.prog 92 506)) f st Q:=
 aU (P:=Tryz.prog) (T:=RS2 okB gF) (k:=0) (lim:=9) (n:=10) (g:=92) (p0:=506) (lk:=lkIn schL mixL) mixed RS2_ok lkIn_ok bdMu bd_roundOk h
noncomputable def lkRS(FP:List V→List V)(SL:Nat→Nat→List V→W8→W8):Nat→Trans→Trans:=aR 506 (br 0 (szOf Tryz.prog 92) [3,4,5,7] bdDec lM bdV bdJ (sS SL)) (aR 60 (br 0 (szOf Tryz.prog 92) [0,3,4,5] pdDec mM pdV pdJ (pdOutG FP)) (ad 10))
theorem lkRS_ok:aD Tryz.prog 0 (lkRS dxP sumL) 92:=by
 unfold lkRS;exact bo (bo (aP 10 0 92) (by kernel_rfl) fun f st Q h=>pd_loop h) (by kernel_rfl) fun f st Q h=>bd_loop h
noncomputable def RS3(FP:List V→List V)(SL:Nat→Nat→List V→W8→W8):Tab:=⟨noT,noL,cn (aL 10) 92 0 (lkRS FP SL)⟩
theorem RS3_ok:TabOk3 Tryz.prog (RS3 dxP sumL):=⟨aA,aB,bc (ak 10) lkRS_ok⟩
noncomputable def zG_0(s:List UInt8):=(u64.wrap (u64.wrap (↑s.length:Int)*8))
noncomputable def zG_1:=[V.int u32 1779033703,V.int u32 3144134277,V.int u32 1013904242,V.int u32 2773480762,V.int u32 1359893119,V.int u32 2600822924,V.int u32 528734635,V.int u32 1541459225]
noncomputable def zG_2(s:List UInt8):=[V.int u8 (u8.wrap ((zG_0 s).fdiv 72057594037927936))]
noncomputable def zG_3(s:List UInt8):=[V.int u8 (u8.wrap ((zG_0 s).fdiv 281474976710656))]
noncomputable def zG_4(s:List UInt8):=[V.int u8 (u8.wrap ((zG_0 s).fdiv 1099511627776))]
noncomputable def zG_5(s:List UInt8):=[V.int u8 (u8.wrap ((zG_0 s).fdiv 4294967296))]
noncomputable def zG_6(s:List UInt8):=[V.int u8 (u8.wrap ((zG_0 s).fdiv 16777216))]
noncomputable def zG_7(s:List UInt8):=[V.int u8 (u8.wrap ((zG_0 s).fdiv 65536))]
noncomputable def zG_8(s:List UInt8):=[V.int u8 (u8.wrap ((zG_0 s).fdiv 256))]
noncomputable def zG_9(s:List UInt8):=[V.int u8 (u8.wrap ((zG_0 s).fdiv 1))]
theorem rsum_tree(FP:List V→List V)(SL:Nat→Nat→List V→W8→W8)(s:List UInt8)(R:V→Prop):runW Tryz.prog (RS3 FP SL) 10 10 92 [.str s] R=
 (
 bif s.length.ble 281474976710656 then bif (List.map (fun b=>V.int u8 (↑b.toNat:Int)) s).length.beq (s.length*1)then bif (s.length+1).ble
 9223372036854775807&&((s.length+1)*1).ble 140737488355328 then Fits 0 [.str s,.slice 0 0 8 false 0 0,.slice 1 0 64 false 0 0,.slice 2 0 (List.map
 (fun b=>V.int u8 (↑b.toNat:Int)) s++[V.int u8 128]).length false 0 0] [.row zG_1 124 1,.row keyC 124 1,.row (List.map (fun b=>
 .int u8 (↑b.toNat:Int)) s++[V.int u8 128]) 5 1] [some (.str s),some (.slice 0 0 8 false 0 0),some (.slice 1 0 64 false 0 0),some
 (.slice 4 0 (s.length+1) false 0 0)] [.row zG_1 124 1,.row keyC 124 1,.dead,.row [.int u8 128] 5 1,.row (List.map (fun b=>V.int
 u8 (↑b.toNat:Int)) s++[V.int u8 128]) 5 1]∧bif mM
 {s:=s,hs:=zG_1,key:=keyC,cs:=List.map (fun b=>V.int u8 (↑b.toNat:Int)) s++[V.int u8 128]}then ∀(p:List V),p=FP
 (List.map (fun b=>V.int u8 (↑b.toNat:Int)) s++[V.int u8 128])→bif p.length.beq (p.length*1)then bif (p.length+1).ble
 9223372036854775807&&((p.length+1)*1).ble 140737488355328 then bif (p++(zG_2 s)).length.beq ((p.length+1)*1)then bif (p.length+1+1).ble
 9223372036854775807&&((p.length+1+1)*1).ble 140737488355328 then bif (p++(zG_2 s)++(zG_3 s)).length.beq ((p.length+1+1)*1)then bif (p.length+
 1+1+1).ble 9223372036854775807&&((p.length+1+1+1)*1).ble 140737488355328 then bif (p++(zG_2 s)++(zG_3 s)++(zG_4 s)).length.beq ((p.length+1
 +1+1)*1)then bif (p.length+1+1+1+1).ble 9223372036854775807&&((p.length+1+1+1+1)*1).ble 140737488355328 then bif (p++(zG_2 s)++
 (zG_3 s)++(zG_4 s)++(zG_5 s)).length.beq ((p.length+1+1+1+1)*1)then bif (p.length+1+1+1+1+1).ble 9223372036854775807&&((p.length+1+
 1+1+1+1)*1).ble 140737488355328 then bif (p++(zG_2 s)++(zG_3 s)++(zG_4 s)++(zG_5 s)++(zG_6 s)).length.beq ((p.length+1+1+1+1+1)*1)
 then bif (p.length+1+1+1+1+1+1).ble 9223372036854775807&&((p.length+1+1+1+1+1+1)*1).ble 140737488355328 then bif (p++(zG_2 s)++
 (zG_3 s)++(zG_4 s)++(zG_5 s)++(zG_6 s)++(zG_7 s)).length.beq ((p.length+1+1+1+1+1+1)*1)then bif (p.length+1+1+1+1+1+1+1).ble
 9223372036854775807&&((p.length+1+1+1+1+1+1+1)*1).ble 140737488355328 then bif (p++(zG_2 s)++(zG_3 s)++(zG_4 s)++(zG_5 s)++(zG_6 s)
 ++(zG_7 s)++(zG_8 s)).length.beq ((p.length+1+1+1+1+1+1+1)*1)then bif (p.length+1+1+1+1+1+1+1+1).ble 9223372036854775807&&
 ((p.length+1+1+1+1+1+1+1+1)*1).ble 140737488355328 then Fits 0 [.slice 0 0 8 false 0 0,.slice 1 0 64 false 0 0,.slice 2 0 (p++(zG_2 s)
 ++(zG_3 s)++(zG_4 s)++(zG_5 s)++(zG_6 s)++(zG_7 s)++(zG_8 s)++(zG_9 s)).length false 0 0,.int i64 0] [.row zG_1 124 1,.row keyC 124
 1,.row (p++(zG_2 s)++(zG_3 s)++(zG_4 s)++(zG_5 s)++(zG_6 s)++(zG_7 s)++(zG_8 s)++(zG_9 s)) 5 1] [some (.slice 0 0 8 false 0 0),some
 (.slice 1 0 64 false 0 0),some (.slice 18 0 (p.length+1+1+1+1+1+1+1+1) false 0 0),some (.int i64 0)] [.row zG_1 124 1,.row
 keyC 124 1,.dead,.row (zG_2 s) 5 1,.dead,.row (zG_3 s) 5 1,.dead,.row (zG_4 s) 5 1,.dead,.row (zG_5 s) 5 1,.dead,.row
 (zG_6 s) 5 1,.dead,.row (zG_7 s) 5 1,.dead,.row (zG_8 s) 5 1,.dead,.row (zG_9 s) 5 1,.row (p++(zG_2 s)++(zG_3 s)++(zG_4 s)++
 (zG_5 s)++(zG_6 s)++(zG_7 s)++(zG_8 s)++(zG_9 s)) 5 1]∧bif lM
 {la:=p++(zG_2 s)++(zG_3 s)++(zG_4 s)++(zG_5 s)++(zG_6 s)++(zG_7 s)++(zG_8 s)++(zG_9 s),x:={a:=1779033703,b:=3144134277,c:=1013904242,d:=2773480762,e:=1359893119,f:=2600822924,g:=528734635,h:=1541459225},fr:=0}
 then ∀(x:W8),x=SL (((p++(zG_2 s)++(zG_3 s)++(zG_4 s)++(zG_5 s)++(zG_6 s)++(zG_7 s)++(zG_8 s)++(zG_9 s)).length-0)/64) 0 (p++(zG_2 s)
 ++(zG_3 s)++(zG_4 s)++(zG_5 s)++(zG_6 s)++(zG_7 s)++(zG_8 s)++(zG_9 s))
 {a:=1779033703,b:=3144134277,c:=1013904242,d:=2773480762,e:=1359893119,f:=2600822924,g:=528734635,h:=1541459225}→∀(fr:Int),R
 (.str (List.map Vm.byteOf [.int u8 (u8.wrap (x.a.fdiv 16777216)),.int u8 (u8.wrap (x.a.fdiv 65536)),.int u8
 (u8.wrap (x.a.fdiv 256)),.int u8 (u8.wrap x.a),.int u8 (u8.wrap (x.b.fdiv 16777216)),.int u8
 (u8.wrap (x.b.fdiv 65536)),.int u8 (u8.wrap (x.b.fdiv 256)),.int u8 (u8.wrap x.b),.int u8 (u8.wrap
 (x.c.fdiv 16777216)),.int u8 (u8.wrap (x.c.fdiv 65536)),.int u8 (u8.wrap (x.c.fdiv 256)),.int u8 (u8.wrap
 x.c),.int u8 (u8.wrap (x.d.fdiv 16777216)),.int u8 (u8.wrap (x.d.fdiv 65536)),.int u8 (u8.wrap (x.d.fdiv
 256)),.int u8 (u8.wrap x.d),.int u8 (u8.wrap (x.e.fdiv 16777216)),.int u8 (u8.wrap (x.e.fdiv 65536)),.int
 u8 (u8.wrap (x.e.fdiv 256)),.int u8 (u8.wrap x.e),.int u8 (u8.wrap (x.f.fdiv 16777216)),.int u8
 (u8.wrap (x.f.fdiv 65536)),.int u8 (u8.wrap (x.f.fdiv 256)),.int u8 (u8.wrap x.f),.int u8 (u8.wrap
 (x.g.fdiv 16777216)),.int u8 (u8.wrap (x.g.fdiv 65536)),.int u8 (u8.wrap (x.g.fdiv 256)),.int u8 (u8.wrap
 x.g),.int u8 (u8.wrap (x.h.fdiv 16777216)),.int u8 (u8.wrap (x.h.fdiv 65536)),.int u8 (u8.wrap (x.h.fdiv
 256)),.int u8 (u8.wrap x.h)]))else False else False else False else False else False else False else False else False else False else False
 else False else False else False else False else False else False else False else False else False else False else False):=by kernel_rfl
theorem rsum_ok(args:List V)(l:List (Bool×(V×St)))(o:V×St)(h:sumT args=some l)(ho:az l=some o):FnSat Tryz.prog 92 args [] (Is o):=by
 unfold sumT at h;split at h
 ·rename_i s;cases h;cases hk:okL s with
  |false=>rw[hk]at ho;cases ho
  |true=>
  rw[hk]at ho;cases ho;have p1:=okL_le hk;have hc:okA (bys s++[V.int .u8 128])=true:=cf (okA_bys s) rfl;have hcl:(bys s++[V.int .u8 128]).length=s.length+1:=aw (bys_len s);have hP:okA (padP s)=true:=cf hc (okA_rep _);have hPl:(padP s).length=s.length+1+dxN (s.length+1):=by unfold padP dxP;rw[List.length_append,List.length_replicate,hcl]
  have hN:dxN (s.length+1)<64:=by unfold dxN;omega
  have hM:(padP s).length%64=56:=by rw[hPl];unfold dxN;omega
  have hcf:aC (bys s++[V.int .u8 128])=true:=by have h:=hc;unfold okA at h;rw[Bool.and_eq_true]at h;exact h.1
  refine ax (lim:=10) (n:=10) mixed RS3_ok rfl rfl ?_;rw[rsum_tree];unfold zG_9 zG_8 zG_7 zG_6 zG_5 zG_4 zG_3 zG_2 zG_1 zG_0;refine aa (Nat.ble_eq_true_of_le (by omega)) (bY (bys_ln s) (by omega) ⟨?_,aa ?_ (fun p hp=>?_)⟩)
  ·have:=rW s (hs:=ivW.cells) (key:=keyC) (cs:=bys s++[V.int .u8 128]) rfl fZ hcf (bys s++[V.int .u8 128]).length (a:=0) (b:=1) (c:=4) (st:=[.row ivW.cells 124 1,.row keyC 124 1,.dead,.row [.int .u8 128] 5 1,.row (bys s++[V.int .u8 128]) 5 1]) rfl rfl rfl (by decide);have hcl2:(List.map (fun b:UInt8=>V.int .u8 (b.toNat:Int)) s++[V.int .u8 128]).length=s.length+1:=hcl;rw[hcl2];rw[hcl]at this;exact this
  ·unfold mM;rw[Bool.and_eq_true,Bool.and_eq_true,Bool.and_eq_true];refine⟨⟨rfl,fZ⟩,hcf,Nat.ble_eq_true_of_le ?_⟩;show(bys s++[V.int .u8 128]).length+dxN (bys s++[V.int .u8 128]).length≤1000000;rw[hcl];omega
  ·have hp:p=padP s:=hp;have hl:p.length≤200000:=by rw[hp];omega
   have hA:okA (la8 p s.length)=true:=by
    rw[hp];unfold la8;exact cf (cf (cf (cf (cf (cf (cf (cf hP rfl) rfl) rfl) rfl) rfl) rfl) rfl) rfl
   have hF:aC (la8 p s.length)=true:=by have h:=hA;unfold okA at h;rw[Bool.and_eq_true]at h;exact h.1
   have hL:(la8 p s.length).length=p.length+1+1+1+1+1+1+1+1:=aw (aw (aw (aw (aw (aw (aw (aw rfl)))))));refine bY rfl (by omega) (bY (aw rfl) (by omega) (bY (aw (aw rfl)) (by omega) (bY (aw (aw (aw rfl))) (by omega) (bY (aw (aw (aw (aw rfl)))) (by omega) (bY (aw (aw (aw (aw (aw rfl))))) (by omega) (bY (aw (aw (aw (aw (aw (aw rfl)))))) (by omega) (bY (aw (aw (aw (aw (aw (aw (aw rfl))))))) (by omega) (?_))))))));refine⟨?_,aa ?_ (fun x hx fr=>?_)⟩
   ·have:=fun st g1 g2 g3=>bd_fits ivW (la:=la8 p s.length) hF (a:=0) (b:=1) (c:=18) (st:=st) g1 g2 g3 (by decide) (la8 p s.length).length 0;rw[hL]at this;have h2:(p++[lenD s.length 72057594037927936]++[lenD s.length 281474976710656]++[lenD s.length 1099511627776]++[lenD s.length 4294967296]++[lenD s.length 16777216]++[lenD s.length 65536]++[lenD s.length 256]++[lenD s.length 1]).length=p.length+1+1+1+1+1+1+1+1:=hL;unfold lenD at h2;rw[h2];exact this _ rfl rfl rfl
   ·unfold lM;rw[Bool.and_eq_true,Bool.and_eq_true,Bool.and_eq_true,Bool.and_eq_true];refine⟨hA,Nat.ble_eq_true_of_le ?_,Nat.ble_eq_true_of_le (Nat.zero_le _),?_,rfl⟩
    ·show(la8 p s.length).length≤1000000;rw[hL];omega
    ·show Nat.beq ((la8 p s.length).length%64) 0=true;have:(la8 p s.length).length%64=0:=by rw[hL,hp];omega
     rw[this];rfl
   ·have hx:x=sumL (((la8 p s.length).length-0)/64) 0 (la8 p s.length) ivW:=hx;have hx:x=sumW s:=by rw[hx,Nat.sub_zero,hL,hp];rfl
    rw[hx];rfl
 ·cases h
theorem byte1_tree(n:Int)(R:V→Prop):runW Tryz.prog DT9 9 10 171 [.int .i64 n] R=
  (
 R (.str (List.map Vm.byteOf [.int u8 (u8.wrap (n.tmod 256))]))):=by kernel_rfl
def oneB(n:Int):UInt8:=UInt8.ofNat (u8.wrap (n.tmod 256)).toNat
def my:List V→Option V
 |[.int .i64 n]=>some (.str [oneB n])
 |_=>none
noncomputable def RN13:Tab:=⟨addP noT 171 my,noL,aL 9⟩
theorem ri_round1(n u i:Int)(s:List UInt8)(R:Exit→List (Option V)→St→Prop):ah Tryz.prog RN13 9 10 (ad 9) 146 122 [0,2,3,4,5] [.int .i64 n,.str [],.str s,.int .u64 u,.int .i64 i] [] R=
  (
 bif decide (i<8)then bif (1+s.length).ble 9223372036854775807 then R .normal [some (.int i64 n),some (.str []),some (.str ([oneB (i64.wrap
 (u.tmod 256))]++s)),some (.int u64 (u64.wrap (u.tdiv 256))),some (.int i64 (i64.wrap (i+1)))] []else False else R (.exit 0)
 [some (.int i64 n),some (.str []),some (.str s),some (.int u64 u),some (.int i64 i)] []):=by kernel_rfl
noncomputable def zH_0(n:Int)(s:List UInt8):=[some (V.int i64 n),some (V.str []),some (V.str s)]
noncomputable def zH_1(n:Int)(s:List UInt8):=[some (V.int i64 n),some (V.str []),some (V.str (List.take (s.length-1) (List.drop 1 s)))]
theorem ri_round2(n:Int)(s:List UInt8)(R:Exit→List (Option V)→St→Prop):ah Tryz.prog RN13 9 10 (ad 9) 146 124 [0,2,3] [.int .i64 n,.str [],.str s] [] R=
 (
 bif decide ((↑s.length:Int)>1)then bif true&&Nat.blt 0 s.length then bif (↑(s.getD 0 0).toNat:Int)==0 then bif true&&Nat.blt 1 s.length then bif
 decide ((↑(s.getD 1 0).toNat:Int)<128)then bif Nat.ble 1 s.length&&s.length.ble s.length then R .normal (zH_1 n s) []else False else bif true&&
 Nat.blt 0 s.length then bif (↑(s.getD 0 0).toNat:Int)==255 then bif true&&Nat.blt 1 s.length then bif decide ((↑(s.getD 1 0).toNat:Int)≥128)then bif
 Nat.ble 1 s.length&&s.length.ble s.length then R .normal (zH_1 n s) []else False else R (.exit 2) (zH_0 n s) []else False else R (.exit 2) (zH_0
 n s) []else False else False else bif true&&Nat.blt 0 s.length then bif (↑(s.getD 0 0).toNat:Int)==255 then bif true&&Nat.blt 1 s.length then bif decide
 ((↑(s.getD 1 0).toNat:Int)≥128)then bif Nat.ble 1 s.length&&s.length.ble s.length then R .normal (zH_1 n s) []else False else R (.exit 2) (zH_0 n
 s) []else False else R (.exit 2) (zH_0 n s) []else False else False else R (.exit 2) (zH_0 n s) []):=by kernel_rfl
theorem rr_round(s:List UInt8)(u i:Int)(R:Exit→List (Option V)→St→Prop):ah Tryz.prog RN13 9 10 (ad 9) 107 250 [0,2,3,4,5] [.str s,.int .i64 0,.int .i64 0,.int .u64 u,.int .i64 i] [] R=
  (
 bif decide (i<(↑s.length:Int))then bif decide (0≤i)&&i.toNat.blt s.length then R .normal [some (.str s),some (.int i64 0),some (.int i64
 0),some (.int u64 (u64.wrap (u64.wrap (u*256)+u64.wrap (↑(s.getD i.toNat 0).toNat:Int)))),some (.int i64
 (i64.wrap (i+1)))] []else False else R (.exit 0) [some (.str s),some (.int i64 0),some (.int i64 0),some (.int u64 u),some
 (.int i64 i)] []):=by kernel_rfl
theorem rbool_tree(b:Bool)(R:V→Prop):runW Tryz.prog RN13 9 10 147 [.bool b] R=
  (
 bif b then R (.str [255])else R (.str [0])):=by kernel_rfl
theorem rJ(s:List UInt8)(R:V→Prop):runW Tryz.prog RN13 9 10 108 [.str s] R=
  (
 bif (↑s.length:Int)==1 then bif true&&Nat.blt 0 s.length then bif (↑(s.getD 0 0).toNat:Int)==0 then bif true&&Nat.blt 0 s.length then R (.tuple [.bool
 ((↑(s.getD 0 0).toNat:Int)==255),.int i64 0])else False else bif true&&Nat.blt 0 s.length then bif (↑(s.getD 0 0).toNat:Int)==255 then bif true&&
 Nat.blt 0 s.length then R (.tuple [.bool ((↑(s.getD 0 0).toNat:Int)==255),.int i64 0])else False else R (.tuple [.bool false,.int i64 4])
 else False else False else R (.tuple [.bool false,.int i64 4])):=by kernel_rfl
theorem lK(args:List V)(v:V)(h:my args=some v):FnSat Tryz.prog 171 args [] (Is (v,[])):=by
 unfold my at h;split at h
 ·cases h;refine ax (lim:=9) (n:=10) mixed DT9_ok rfl rfl ?_;rw[byte1_tree];rfl
 ·cases h
theorem jE:TabOk3 Tryz.prog RN13:=⟨aN aA lK,aB,ak 9⟩
theorem si(n:Int)(j:Nat)(hj:j≤6):bq n≤(j:Int)+1↔(-(128*((256^j:Nat):Int))≤n∧n<128*((256^j:Nat):Int)):=by
 obtain rfl|rfl|rfl|rfl|rfl|rfl|rfl:j=0∨j=1∨j=2∨j=3∨j=4∨j=5∨j=6:=by omega
 ·have:=qA n;simp at this ⊢;omega
 ·have:=qz n;simp at this ⊢;omega
 ·have:=qy n;simp at this ⊢;omega
 ·have:=qx n;simp at this ⊢;omega
 ·have:=qw n;simp at this ⊢;omega
 ·have:=qv n;simp at this ⊢;omega
 ·have:=qu n;simp at this ⊢;omega
def red(b0 b1:UInt8):Prop:=(b0.toNat=0∧b1.toNat<128)∨(b0.toNat=255∧b1.toNat≥128)
theorem red_iff(b0 b1:UInt8)(r:List UInt8)(hr:r.length≤6):red b0 b1↔bq (dec (b0::b1::r))≤(r.length:Int)+1:=by
 rw[si _ _ hr];have h0:=b0.toNat_lt;have h1:=b1.toNat_lt;have hp:=dR r.length;have hd:=fH r (sgnB b0*256+b1.toNat);simp only[dec,decF];generalize ((256^r.length:Nat):Int)=c at*
 generalize decF (sgnB b0*256+b1.toNat) r=D at*
 generalize hq:sgnB b0*256+b1.toNat=q at*
 have hs:sgnB b0=b0.toNat∨sgnB b0=(b0.toNat:Int)-256:=by unfold sgnB;split<;>simp
 have hs2:sgnB b0=if b0.toNat≥128 then(b0.toNat:Int)-256 else b0.toNat:=rfl
 have hrq:red b0 b1↔(-128≤q∧q≤127):=by
  unfold red;split at hs2<;>omega
 rw[hrq];constructor
 ·intro h;have e1:-128*c≤q*c:=Int.mul_le_mul_of_nonneg_right h.1 (by omega);have e2:(q+1)*c≤128*c:=Int.mul_le_mul_of_nonneg_right (by omega) (by omega);omega
 ·intro h;refine⟨?_,?_⟩
  ·refine Int.not_lt.1 fun hlt=>?_;have e2:(q+1)*c≤-128*c:=Int.mul_le_mul_of_nonneg_right (by omega) (by omega);omega
  ·refine Int.not_lt.1 fun hlt=>?_;have e1:128*c≤q*c:=Int.mul_le_mul_of_nonneg_right (by omega) (by omega);omega
theorem many_dec(b:UInt8)(r:List UInt8)(hr:r.length≤7):bq (dec (b::r))≤(r.length:Int)+1:=by
 by_cases h:r.length≤6
 ·rw[si _ _ h];exact kC b r
 ·have:=e9 (dec (b::r));omega
theorem dec_beL{n:Int}(h0:-9223372036854775808≤n)(h1:n≤9223372036854775807){m:Nat}(hm:bq n≤m+1)(h7:m≤7):dec (beL (m+1) n)=n:=by
 by_cases h:m≤6
 ·have:=(si n m h).1 hm;exact dec_be this.1 this.2
 ·have:m=7:=by omega
  subst this;exact dec_be (by simp;omega) (by simp;omega)
def uAt(n:Int)(i:Nat):Int:=(n%18446744073709551616)/((256^i:Nat):Int)
theorem oneB_nat{u:Int}(h0:0≤u):((oneB (i64.wrap (u.tmod 256))).toNat:Int)=u%256:=by
 have e:u.tmod 256=u%256:=Int.tmod_eq_emod_of_nonneg h0;have b1:=Int.emod_nonneg u (show(256:Int)≠0 by omega);have b2:=Int.emod_lt_of_pos u (show(0:Int)<256 by omega);rw[e,IntWalk.i64_in _ ⟨by omega,by omega⟩];unfold oneB;rw[Int.tmod_eq_emod_of_nonneg b1,IntKind.wrap_u8,UInt8.toNat_ofNat'];omega
theorem uAt_step(n:Int)(i:Nat)(hi:i<8):0≤uAt n i∧uAt n i<18446744073709551616∧uAt n i%256=(n/((256^i:Nat):Int))%256∧uAt n i/256=uAt n (i+1):=by
 obtain rfl|rfl|rfl|rfl|rfl|rfl|rfl|rfl:i=0∨i=1∨i=2∨i=3∨i=4∨i=5∨i=6∨i=7:=by omega
 all_goals simp only[uAt,Nat.reducePow,Nat.reduceAdd]
 all_goals omega
structure AS where
 n:Int
 s:List UInt8
 i:Nat
def asV(x:AS):List V:=[.int .i64 x.n,.str [],.str x.s,.int .u64 (uAt x.n x.i),.int .i64 x.i]
def rd(x:AS):Bool:=decide (x.i≤8)&&decide (x.s=beL x.i x.n)
def asJ(x:AS):St:=[]
def asMu(x:AS):Nat:=8-x.i
def asOut:Asks AS:=fun x K=>K (.exit 0) (asV ⟨x.n,beL 8 x.n,8⟩) []
theorem sV(x:AS):Fits 0 (asV x) [] ((asV x).map some) []:=⟨[],asV x,rfl,rfl,FitsM.of trivial,by simp,fun i hi=>by omega⟩
theorem as_round(x:AS)(hx:rd x=true):ah Tryz.prog RN13 9 10 (ad 9) 146 122 [0,2,3,4,5] (asV x) (asJ x) (ay 0 rd asV asJ asMu asOut x):=by
 obtain⟨n,s,i⟩:=x;simp only[rd,Bool.and_eq_true,decide_eq_true_eq]at hx;have p1:=hx.1;have p2:=hx.2;clear hx;show ah Tryz.prog RN13 9 10 (ad 9) 146 122 [0,2,3,4,5] [.int .i64 n,.str [],.str s,.int .u64 (uAt n i),.int .i64 i] [] _;rw[ri_round1];have hl:s.length=i:=by rw[p2];exact nE n i
 refine ab (fun h=>aa (Nat.ble_eq_true_of_le (by omega)) ?_) (fun h=>?_)
 ·have h:=of_decide_eq_true h;have hu:=uAt_step n i (by omega);have hb:=gA n i;have ho:=oneB_nat hu.1;have e1:[oneB (i64.wrap ((uAt n i).tmod 256))]++s=beL (i+1) n:=by
   simp only[beL,List.cons_append,List.nil_append,←p2];congr 1;apply UInt8.toNat_inj.1;omega
  have e2:u64.wrap ((uAt n i).tdiv 256)=uAt n (i+1):=by
   rw[Int.tdiv_eq_ediv_of_nonneg hu.1,hu.2.2.2,IntKind.wrap_u64];rw[←hu.2.2.2];omega
  have e3:i64.wrap ((i:Int)+1)=((i+1:Nat):Int):=by rw[IntWalk.i64_in _ ⟨by omega,by omega⟩];omega
  rw[e1,e2,e3];refine⟨⟨n,beL (i+1) n,i+1⟩,?_,sV _,by simp only[asMu];omega,fun K hK=>hK⟩;simp only[rd,Bool.and_eq_true,decide_eq_true_eq];exact⟨by omega,trivial⟩
 ·have h:=of_decide_eq_false h;have:i=8:=by omega
  subst this;subst p2;exact⟨_,_,fun K hK=>hK,sV ⟨n,beL 8 n,8⟩⟩
theorem red_leaf{x0 x1:UInt8}{A B:Prop}(hA:red x0 x1→A)(hB:¬red x0 x1→B):
  (bif (x0.toNat:Int)==0 then bif decide ((x1.toNat:Int)<128)then A else bif (x0.toNat:Int)==255 then bif decide ((x1.toNat:Int)≥128)then A else B else B
    else bif (x0.toNat:Int)==255 then bif decide ((x1.toNat:Int)≥128)then A else B else B):=by
 unfold red at hA hB;cases h1:((x0.toNat:Int)==0)<;>cases h2:decide ((x1.toNat:Int)<128)<;>cases h3:((x0.toNat:Int)==255)<;>cases h4:decide ((x1.toNat:Int)≥128)<;>simp only[cond_true,cond_false]<;>
  first
   |(apply hA;clear hA hB;simp only[beq_iff_eq,beq_eq_false_iff_ne,decide_eq_true_eq,decide_eq_false_iff_not]at h1 h2 h3 h4;omega)
   |(apply hB;clear hA hB;simp only[beq_iff_eq,beq_eq_false_iff_ne,decide_eq_true_eq,decide_eq_false_iff_not]at h1 h2 h3 h4;omega)
structure BS where
 n:Int
 s:List UInt8
def bsV(x:BS):List V:=[.int .i64 x.n,.str [],.str x.s]
def okI(n:Int):Bool:=decide (-9223372036854775808≤n)&&decide (n≤9223372036854775807)
def jf(x:BS):Bool:=okI x.n&&decide (bq x.n≤x.s.length)&&decide (x.s.length≤8)&&decide (x.s=beL x.s.length x.n)
def bsJ(x:BS):St:=[]
def bsMu(x:BS):Nat:=x.s.length
def q9:Asks BS:=fun x K=>K (.exit 2) (bsV ⟨x.n,intL x.n⟩) []
theorem sQ(x:BS):Fits 0 (bsV x) [] ((bsV x).map some) []:=⟨[],bsV x,rfl,rfl,FitsM.of trivial,by simp,fun i hi=>by omega⟩
theorem bs_round(x:BS)(hx:jf x=true):ah Tryz.prog RN13 9 10 (ad 9) 146 124 [0,2,3] (bsV x) (bsJ x) (ay 0 jf bsV bsJ bsMu q9 x):=by
 obtain⟨n,s⟩:=x;simp only[jf,okI,Bool.and_eq_true,decide_eq_true_eq]at hx;have q1:=hx.1.1.1.1;have q2:=hx.1.1.1.2;have p1:=hx.1.1.2;have p2:=hx.1.2;have p3:=hx.2;clear hx;have hmx:=e9 n;have stop:bq n=s.length→ay 0 jf bsV bsJ bsMu q9 ⟨n,s⟩ (.exit 2) ((bsV ⟨n,s⟩).map some) []:=by
  intro h;have e:intL n=s:=by unfold intL;rw[h,Int.toNat_natCast];exact p3.symm
  refine⟨bsV ⟨n,intL n⟩,[],fun K hK=>hK,?_⟩;rw[e];exact sQ _
 show ah Tryz.prog RN13 9 10 (ad 9) 146 124 [0,2,3] [.int .i64 n,.str [],.str s] [] _;rw[ri_round2];unfold zH_1 zH_0
 match s,p1,p2,p3,stop with
 |[],p1,_,_,_=>simp at p1;omega
 |[b],p1,_,_,stop=>
  simp only[List.length_cons,List.length_nil]at p1 ⊢;refine ab (fun h=>?_) (fun h=>stop (by simp;omega));have:=of_decide_eq_true h;omega
 |b0::b1::r,p1,p2,p3,stop=>
  simp only[List.length_cons]at p1 p2;have hd:dec (b0::b1::r)=n:=by
   rw[p3];exact dec_beL q1 q2 (m:=r.length+1) (by omega) (by omega)
  have hr:=red_iff b0 b1 r (by omega);rw[hd]at hr;have htail:b1::r=beL (r.length+1) n:=by
   have:b0::b1::r=beL (r.length+1+1) n:=p3;rw[beL]at this;exact(List.cons.inj this).2
  have next:red b0 b1→ay 0 jf bsV bsJ bsMu q9 ⟨n,b0::b1::r⟩ .normal ((bsV ⟨n,b1::r⟩).map some) []:=by
   intro h;refine⟨⟨n,b1::r⟩,?_,sQ _,by simp only[bsMu,List.length_cons];omega,fun K hK=>hK⟩;simp only[jf,okI,Bool.and_eq_true,decide_eq_true_eq,List.length_cons];exact⟨⟨⟨⟨q1,q2⟩,hr.1 h⟩,by omega⟩,htail⟩
  have done:¬red b0 b1→ay 0 jf bsV bsJ bsMu q9 ⟨n,b0::b1::r⟩ (.exit 2) ((bsV ⟨n,b0::b1::r⟩).map some) []:=by
   intro h;refine stop ?_;have:¬bq n≤(r.length:Int)+1:=fun h2=>h (hr.2 h2);simp only[List.length_cons];omega
  have et:List.take ((b0::b1::r).length-1) (List.drop 1 (b0::b1::r))=b1::r:=by simp
  have c1:decide (((b0::b1::r).length:Int)>1)=true:=decide_eq_true (by simp;omega);have c2:(true&&Nat.blt 0 (b0::b1::r).length)=true:=by simp[fS]
  have c3:(true&&Nat.blt 1 (b0::b1::r).length)=true:=by simp[fS]
  have c4:(Nat.ble 1 (b0::b1::r).length&&(b0::b1::r).length.ble (b0::b1::r).length)=true:=by simp[sR]
  rw[et,c1,c2,c3,c4];simp only[cond_true,List.getD_cons_zero,List.getD_cons_succ];exact red_leaf next done
def asDec:List (Option V)→St→Option AS
 |[some (.int .i64 n),some (.str []),some (.str s),some (.int .u64 u),some (.int .i64 i)],[]=>some ⟨n,s,i.toNat⟩
 |_,_=>none
def bsDec:List (Option V)→St→Option BS
 |[some (.int .i64 n),some (.str []),some (.str s)],[]=>some ⟨n,s⟩
 |_,_=>none
noncomputable def lk17b:Nat→Trans→Trans:=aR 124 (br 0 (szOf Tryz.prog 146) [0,2,3] bsDec jf bsV bsJ q9) (ad 9)
noncomputable def lkN17:Nat→Trans→Trans:=aR 122 (br 0 (szOf Tryz.prog 146) [0,2,3,4,5] asDec rd asV asJ asOut) lk17b
theorem as_loop{f:Fr}{st:St}{Q:Exit→Fr→St→Prop}(h:br 0 (szOf Tryz.prog 146) [0,2,3,4,5] asDec rd asV asJ asOut f st Q):CodeSatW Tryz.prog none 0 (.loop (cp Tryz.prog 146 122)) f st Q:=
 aU (P:=Tryz.prog) (T:=RN13) (k:=0) (lim:=9) (n:=10) (g:=146) (p0:=122) (lk:=ad 9) mixed jE (aS 9 _ _) asMu as_round h
theorem bs_loop{f:Fr}{st:St}{Q:Exit→Fr→St→Prop}(h:br 0 (szOf Tryz.prog 146) [0,2,3] bsDec jf bsV bsJ q9 f st Q):CodeSatW Tryz.prog none 0 (.loop (cp Tryz.prog 146 124)) f st Q:=
 aU (P:=Tryz.prog) (T:=RN13) (k:=0) (lim:=9) (n:=10) (g:=146) (p0:=124) (lk:=ad 9) mixed jE (aS 9 _ _) bsMu bs_round h
theorem lkN17_ok:aD Tryz.prog 0 lkN17 146:=by
 unfold lkN17 lk17b;exact bo (bo (aP 9 0 146) (by kernel_rfl) fun f st Q h=>bs_loop h) (by kernel_rfl) fun f st Q h=>as_loop h
noncomputable def RN14:Tab:=⟨addP noT 171 my,noL,cn (aL 9) 146 0 lkN17⟩
theorem RN14_ok:TabOk3 Tryz.prog RN14:=⟨aN aA lK,aB,bc (ak 9) lkN17_ok⟩
theorem rint_tree(n:Int)(R:V→Prop):runW Tryz.prog RN14 9 10 146 [.int .i64 n] R=
  (
 Fits 0 [.int i64 n,.str [],.str [],.int u64 (uAt n 0),.int i64 0] [] [some (.int i64 n),some (.str []),some (.str []),some
 (.int u64 (u64.wrap n)),some (.int i64 0)] []∧Fits 0 [.int i64 n,.str [],.str (beL 8 n)] [] [some (.int i64 n),some
 (.str []),some (.str (beL 8 n))] []∧bif jf {n:=n,s:=beL 8 n}then R (.str (intL n))else False):=by kernel_rfl
def rintF:List V→Option (List (Bool×(V×St)))
 |[.int .i64 n]=>some [(okI n,(.str (intL n),[]))]
 |_=>none
theorem rint_ok(args:List V)(l:List (Bool×(V×St)))(o:V×St)(h:rintF args=some l)(ho:az l=some o):FnSat Tryz.prog 146 args [] (Is o):=by
 unfold rintF at h;split at h
 ·rename_i n;cases h;cases ht:okI n with
  |false=>rw[ht]at ho;simp[az]at ho
  |true=>
   rw[ht]at ho;simp only[az,cond_true,Option.some.injEq]at ho;subst ho;refine ax (lim:=9) (n:=10) mixed RN14_ok rfl rfl ?_;rw[rint_tree];have hmx:=e9 n;have e:u64.wrap n=uAt n 0:=by
    rw[IntKind.wrap_u64];simp only[uAt,Nat.reducePow];omega
   rw[e];refine⟨sV ⟨n,[],0⟩,⟨sQ ⟨n,beL 8 n⟩,aa ?_ rfl⟩⟩
   ·simp only[jf,ht,nE,Bool.true_and,Bool.and_eq_true,decide_eq_true_eq];exact⟨⟨by omega,by omega⟩,trivial⟩
 ·cases h
structure US where
 s:List UInt8
 u:Int
 i:Nat
def usV(x:US):List V:=[.str x.s,.int .i64 0,.int .i64 0,.int .u64 x.u,.int .i64 x.i]
def topC(s:List UInt8):Int:=if(s.getD 0 0).toNat≥128 then-1 else 0
def eA(x:US):Bool:=decide (x.i≤x.s.length)&&decide (x.s.length≤8)&&decide (x.u=u64.wrap (decF (topC x.s) (x.s.take x.i)))
def usJ(x:US):St:=[]
def usMu(x:US):Nat:=x.s.length-x.i
def usOut:Asks US:=fun x K=>K (.exit 0) (usV ⟨x.s,u64.wrap (decF (topC x.s) x.s),x.s.length⟩) []
theorem np(x:US):Fits 0 (usV x) [] ((usV x).map some) []:=⟨[],usV x,rfl,rfl,FitsM.of trivial,by simp,fun i hi=>by omega⟩
theorem decF_take{s:List UInt8}{a:Int}{i:Nat}(h:i<s.length):decF a (s.take (i+1))=decF a (s.take i)*256+(s.getD i 0).toNat:=by
 rw[List.take_add_one,List.getElem?_eq_getElem h,Option.toList_some,ja,List.getD_eq_getElem?_getD,List.getElem?_eq_getElem h,Option.getD_some]
theorem us_round(x:US)(hx:eA x=true):ah Tryz.prog RN13 9 10 (ad 9) 107 250 [0,2,3,4,5] (usV x) (usJ x) (ay 0 eA usV usJ usMu usOut x):=by
 obtain⟨s,u,i⟩:=x;simp only[eA,Bool.and_eq_true,decide_eq_true_eq]at hx;have p1:=hx.1.1;have p2:=hx.1.2;have p3:=hx.2;clear hx;show ah Tryz.prog RN13 9 10 (ad 9) 107 250 [0,2,3,4,5] [.str s,.int .i64 0,.int .i64 0,.int .u64 u,.int .i64 i] [] _;rw[rr_round];cases hb:decide ((i:Int)<s.length)with
 |true=>
  rw[cond_true];have h:=of_decide_eq_true hb;have hi:i<s.length:=by omega
  refine aa ?_ ?_
  ·rw[decide_eq_true (show(0:Int)≤i by omega),Int.toNat_natCast,Bool.true_and];exact Nat.ble_eq_true_of_le hi
  ·have e1:i64.wrap ((i:Int)+1)=((i+1:Nat):Int):=by rw[IntWalk.i64_in _ ⟨by omega,by omega⟩];omega
   have e2:=decF_take (a:=topC s) hi;rw[e1,Int.toNat_natCast];refine⟨⟨s,u64.wrap (u64.wrap (u*256)+u64.wrap (s.getD i 0).toNat),i+1⟩,?_,np _,by simp only[usMu];omega,fun K hK=>hK⟩;simp only[eA,Bool.and_eq_true,decide_eq_true_eq];refine⟨⟨by omega,p2⟩,?_⟩;rw[e2,p3];simp only[IntKind.wrap_u64];omega
 |false=>
  rw[cond_false];have h:=of_decide_eq_false hb;have hi:i=s.length:=by omega
  subst hi;rw[p3,List.take_length];exact⟨_,_,fun K hK=>hK,np ⟨s,u64.wrap (decF (topC s) s),s.length⟩⟩
def usDec:List (Option V)→St→Option US
 |[some (.str s),some (.int .i64 0),some (.int .i64 0),some (.int .u64 u),some (.int .i64 i)],[]=>some ⟨s,u,i.toNat⟩
 |_,_=>none
noncomputable def lkN13:Nat→Trans→Trans:=aR 250 (br 0 (szOf Tryz.prog 107) [0,2,3,4,5] usDec eA usV usJ usOut) (ad 9)
theorem us_loop{f:Fr}{st:St}{Q:Exit→Fr→St→Prop}(h:br 0 (szOf Tryz.prog 107) [0,2,3,4,5] usDec eA usV usJ usOut f st Q):CodeSatW Tryz.prog none 0 (.loop (cp Tryz.prog 107 250)) f st Q:=
 aU (P:=Tryz.prog) (T:=RN13) (k:=0) (lim:=9) (n:=10) (g:=107) (p0:=250) (lk:=ad 9) mixed jE (aS 9 _ _) usMu us_round h
theorem lkN13_ok:aD Tryz.prog 0 lkN13 107:=by
 unfold lkN13;exact bo (aP 9 0 107) (by kernel_rfl) fun f st Q h=>us_loop h
noncomputable def RN15:Tab:=⟨noT,noL,cn (aL 9) 107 0 lkN13⟩
theorem RN15_ok:TabOk3 Tryz.prog RN15:=⟨aA,aB,bc (ak 9) lkN13_ok⟩
noncomputable def zH_2(s:List UInt8):=V.tuple [V.int i64 (i64.wrap (u64.wrap (decF (topC s) s))),V.int i64 0]
noncomputable def zH_3(s:List UInt8):=[some (V.str s),some (V.int i64 0),some (V.int i64 0),some (V.int u64 18446744073709551615),some (V.int i64 0)]
noncomputable def zH_4(s:List UInt8):=[some (V.str s),some (V.int i64 0),some (V.int i64 0),some (V.int u64 0),some (V.int i64 0)]
noncomputable def zH_5(s:List UInt8):=[V.str s,V.int i64 0,V.int i64 0,V.int u64 18446744073709551615,V.int i64 0]
noncomputable def zH_6(s:List UInt8):=[V.str s,V.int i64 0,V.int i64 0,V.int u64 0,V.int i64 0]
noncomputable def zH_7:=V.tuple [V.int i64 0,V.int i64 4]
theorem rread_tree(s:List UInt8)(R:V→Prop):runW Tryz.prog RN15 9 10 107 [.str s] R=
 (
 bif s==[]then R zH_7 else bif decide ((↑s.length:Int)>8)then R zH_7 else bif decide ((↑s.length:Int)>1)then bif true&&Nat.blt 0 s.length then bif
 (↑(s.getD 0 0).toNat:Int)==0 then bif true&&Nat.blt 1 s.length then bif decide ((↑(s.getD 1 0).toNat:Int)<128)then R zH_7 else bif true&&Nat.blt 0
 s.length then bif (↑(s.getD 0 0).toNat:Int)==255 then bif true&&Nat.blt 1 s.length then bif decide ((↑(s.getD 1 0).toNat:Int)≥128)then R zH_7 else bif
 true&&Nat.blt 0 s.length then bif decide ((↑(s.getD 0 0).toNat:Int)≥128)then Fits 0 (zH_5 s) [] (zH_3 s) []∧bif eA
 {s:=s,u:=18446744073709551615,i:=0}then R (zH_2 s)else False else Fits 0 (zH_6 s) [] (zH_4 s) []∧bif eA {s:=s,u:=0,i:=0}then R (zH_2
 s)else False else False else False else bif true&&Nat.blt 0 s.length then bif decide ((↑(s.getD 0 0).toNat:Int)≥128)then Fits 0 (zH_5 s) [] (zH_3 s) []∧
 bif eA {s:=s,u:=18446744073709551615,i:=0}then R (zH_2 s)else False else Fits 0 (zH_6 s) [] (zH_4 s) []∧bif eA {s:=s,u:=0,i:=0}
 then R (zH_2 s)else False else False else False else False else bif true&&Nat.blt 0 s.length then bif (↑(s.getD 0 0).toNat:Int)==255 then bif true&&
 Nat.blt 1 s.length then bif decide ((↑(s.getD 1 0).toNat:Int)≥128)then R zH_7 else bif true&&Nat.blt 0 s.length then bif decide ((↑(s.getD 0 0).toNat:
 Int)≥128)then Fits 0 (zH_5 s) [] (zH_3 s) []∧bif eA {s:=s,u:=18446744073709551615,i:=0}then R (zH_2 s)else False else Fits 0 (zH_6 s) []
 (zH_4 s) []∧bif eA {s:=s,u:=0,i:=0}then R (zH_2 s)else False else False else False else bif true&&Nat.blt 0 s.length then bif decide
 ((↑(s.getD 0 0).toNat:Int)≥128)then Fits 0 (zH_5 s) [] (zH_3 s) []∧bif eA {s:=s,u:=18446744073709551615,i:=0}then R (zH_2 s)else False else
 Fits 0 (zH_6 s) [] (zH_4 s) []∧bif eA {s:=s,u:=0,i:=0}then R (zH_2 s)else False else False else False else False else bif true&&Nat.blt 0
 s.length then bif decide ((↑(s.getD 0 0).toNat:Int)≥128)then Fits 0 (zH_5 s) [] (zH_3 s) []∧bif eA {s:=s,u:=18446744073709551615,i:=0}then R
 (zH_2 s)else False else Fits 0 (zH_6 s) [] (zH_4 s) []∧bif eA {s:=s,u:=0,i:=0}then R (zH_2 s)else False else False):=by kernel_rfl
theorem dec_top(b:UInt8)(r:List UInt8):decF (topC (b::r)) (b::r)=dec (b::r):=by
 simp only[decF,dec,topC,List.getD_cons_zero];congr 1;unfold sgnB;split<;>omega
theorem dec_i64(b:UInt8)(r:List UInt8)(hr:r.length≤7):-9223372036854775808≤dec (b::r)∧dec (b::r)≤9223372036854775807:=by
 have h:=kC b r;have:((256^r.length:Nat):Int)≤((256^7:Nat):Int):=by
  have:=Nat.pow_le_pow_right (n:=256) (by omega) hr;omega
 have e:((256^7:Nat):Int)=72057594037927936:=by simp
 omega
theorem wraps{x:Int}(h:-9223372036854775808≤x∧x≤9223372036854775807):i64.wrap (u64.wrap x)=x:=by
 rw[IntKind.wrap_i64,IntKind.wrap_u64];omega
theorem readE_one(b:UInt8):aW [b]=0:=by
 have h:=many_dec b [] (by simp);have hm:=e9 (dec [b]);have hb:=be_dec [b] (by simp);unfold aW;rw[if_neg (by simp),if_pos ?_];unfold intL;have:(bq (dec [b])).toNat=1:=by simp at h;omega
 rw[this];exact hb
theorem readE_two(b0 b1:UInt8)(r:List UInt8)(hr:r.length≤6):(red b0 b1→aW (b0::b1::r)=4)∧(¬red b0 b1→aW (b0::b1::r)=0):=by
 have hi:=red_iff b0 b1 r hr;have hm:=e9 (dec (b0::b1::r));have hd:=many_dec b0 (b1::r) (by simp;omega);have hb:=be_dec (b0::b1::r) (by simp);have hl:¬((b0::b1::r).length<1∨8<(b0::b1::r).length):=by simp;omega
 simp only[List.length_cons]at hd hb;constructor
 ·intro h;have h2:=hi.1 h;unfold aW;rw[if_neg hl,if_neg fun e=>?_];have:=congrArg List.length e;rw[o4]at this;simp only[List.length_cons]at this;omega
 ·intro h;have h2:¬bq (dec (b0::b1::r))≤(r.length:Int)+1:=fun h2=>h (hi.2 h2);unfold aW;rw[if_neg hl,if_pos ?_];unfold intL;have:(bq (dec (b0::b1::r))).toNat=r.length+1+1:=by omega
  rw[this];exact hb
theorem p9(b:UInt8)(r:List UInt8)(hr:r.length≤7)(hE:aW (b::r)=0):
  (bif decide ((b.toNat:Int)≥128)then
    Fits 0 [V.str (b::r),V.int .i64 0,V.int .i64 0,V.int .u64 18446744073709551615,V.int .i64 0] [] [some (V.str (b::r)),some (V.int .i64 0),some (V.int .i64 0),some (V.int .u64 18446744073709551615),some (V.int .i64 0)] []∧
     bif eA ⟨b::r,18446744073709551615,0⟩then V.tuple [V.int .i64 (i64.wrap (u64.wrap (decF (topC (b::r)) (b::r)))),V.int .i64 0]=V.tuple [V.int .i64 (aI (b::r)),V.int .i64 (aW (b::r))]else False
  else
   Fits 0 [V.str (b::r),V.int .i64 0,V.int .i64 0,V.int .u64 0,V.int .i64 0] [] [some (V.str (b::r)),some (V.int .i64 0),some (V.int .i64 0),some (V.int .u64 0),some (V.int .i64 0)] []∧
    bif eA ⟨b::r,0,0⟩then V.tuple [V.int .i64 (i64.wrap (u64.wrap (decF (topC (b::r)) (b::r)))),V.int .i64 0]=V.tuple [V.int .i64 (aI (b::r)),V.int .i64 (aW (b::r))]else False):=by
 have val:V.tuple [V.int .i64 (i64.wrap (u64.wrap (decF (topC (b::r)) (b::r)))),V.int .i64 0]=V.tuple [V.int .i64 (aI (b::r)),V.int .i64 (aW (b::r))]:=by
  rw[dec_top,wraps (dec_i64 b r hr),hE];unfold aI;rw[if_pos hE]
 have pre:∀u,u=u64.wrap (topC (b::r))→eA ⟨b::r,u,0⟩=true:=by
  rintro u rfl;simp only[eA,Bool.and_eq_true,decide_eq_true_eq,List.length_cons];exact⟨⟨by omega,by omega⟩,rfl⟩
 cases h:decide ((b.toNat:Int)≥128)with
 |true=>
  have h:=of_decide_eq_true h;have ht:topC (b::r)=-1:=by unfold topC;rw[List.getD_cons_zero,if_pos (by omega)]
  exact⟨np ⟨b::r,18446744073709551615,0⟩,aa (pre _ (by rw[ht,IntKind.wrap_u64];rfl)) val⟩
 |false=>
  have h:=of_decide_eq_false h;have ht:topC (b::r)=0:=by unfold topC;rw[List.getD_cons_zero,if_neg (by omega)]
  exact⟨np ⟨b::r,0,0⟩,aa (pre _ (by rw[ht,IntKind.wrap_u64];rfl)) val⟩
theorem rread_ok(args:List V)(v:V)(h:qf args=some v):FnSat Tryz.prog 107 args [] (Is (v,[])):=by
 unfold qf at h;split at h
 ·rename_i s;cases h;refine ax (lim:=9) (n:=10) mixed RN15_ok rfl rfl ?_;rw[rread_tree];unfold zH_7 zH_6 zH_5 zH_4 zH_3 zH_2;have none4:aW s=4→V.tuple [V.int i64 0,V.int i64 4]=V.tuple [V.int i64 (aI s),V.int i64 (aW s)]:=by
   intro h;rw[h];unfold aI;rw[if_neg (by omega)]
  match s,none4 with
  |[],none4=>exact none4 rfl
  |[b],none4=>
   have c1:([b]==[])=false:=rfl;have c2:decide (([b].length:Int)>8)=false:=rfl;have c3:decide (([b].length:Int)>1)=false:=rfl;have c4:(true&&Nat.blt 0 [b].length)=true:=rfl;rw[c1,c2,c3,c4];simp only[cond_true,cond_false];exact p9 b [] (by simp) (readE_one b)
  |b0::b1::r,none4=>
   have c1:((b0::b1::r)==[])=false:=rfl;rw[c1,cond_false];cases hl:decide (((b0::b1::r).length:Int)>8)with
   |true=>
    rw[cond_true];have:=of_decide_eq_true hl;refine none4 ?_;unfold aW;rw[if_pos (.inr (by omega))]
   |false=>
    rw[cond_false];have hl:=of_decide_eq_false hl;simp only[List.length_cons]at hl;have h2:=readE_two b0 b1 r (by omega);have d1:decide (((b0::b1::r).length:Int)>1)=true:=decide_eq_true (by simp;omega);have d2:(true&&Nat.blt 0 (b0::b1::r).length)=true:=by simp[fS]
    have d3:(true&&Nat.blt 1 (b0::b1::r).length)=true:=by simp[fS]
    rw[d1,d2,d3];simp only[cond_true,List.getD_cons_zero,List.getD_cons_succ];exact red_leaf (fun h=>none4 (h2.1 h)) (fun h=>p9 b0 (b1::r) (by simp;omega) (h2.2 h))
 ·cases h
theorem rbool_ok(args:List V)(v:V)(h:boolF args=some v):FnSat Tryz.prog 147 args [] (Is (v,[])):=by
 unfold boolF at h;split at h
 ·rename_i b;cases h;refine ax (lim:=9) (n:=10) mixed jE rfl rfl ?_;rw[rbool_tree];cases b<;>rfl
 ·cases h
theorem rrdbool_ok(args:List V)(v:V)(h:jo args=some v):FnSat Tryz.prog 108 args [] (Is (v,[])):=by
 unfold jo at h;split at h
 ·rename_i s;cases h;refine ax (lim:=9) (n:=10) mixed jE rfl rfl ?_;rw[rJ]
  match s with
  |[]=>rfl
  |[b]=>
   have hb:=b.toNat_lt;have c1:(([b].length:Int)==1)=true:=rfl;have c2:(true&&Nat.blt 0 [b].length)=true:=rfl;rw[c1,c2];simp only[cond_true,List.getD_cons_zero];by_cases h1:b=255
   ·subst h1;rfl
   ·by_cases h2:b=0
    ·subst h2;rfl
    ·have n1:¬b.toNat=255:=fun e=>h1 (UInt8.toNat_inj.1 e);have n2:¬b.toNat=0:=fun e=>h2 (UInt8.toNat_inj.1 e);have e1:((b.toNat:Int)==255)=false:=by simp;omega
     have e2:((b.toNat:Int)==0)=false:=by simp;omega
     have e3:rbE [b]=4:=by unfold rbE;rw[if_neg (by simp[h1,h2])]
     have e4:([b]==[255])=false:=by simp[h1]
     rw[e1,e2,e3,e4];rfl
  |b0::b1::r=>
   have c1:(((b0::b1::r).length:Int)==1)=false:=by simp;omega
   have e3:rbE (b0::b1::r)=4:=by unfold rbE;rw[if_neg (by simp)]
   have e4:((b0::b1::r)==[255])=false:=by simp
   rw[c1,e3,e4,cond_false]
 ·cases h
end Go.Proofs.YthcoeoibejgaiaaGreatDoor
