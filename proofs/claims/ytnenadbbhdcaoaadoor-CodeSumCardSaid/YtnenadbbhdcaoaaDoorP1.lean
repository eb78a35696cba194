/- Parts of this work: what the functions come to. -/
import Derived.Test.YtnenadbbhdcaoaaDoorVmc
import Derived.Test.YtnenadbbhdcaoaaDoorRows
import Derived.KernelRfl
import Derived.IntWalk
namespace Go.Proofs.YtnenadbbhdcaoaaDoor
open Go.IntKind (u8 u16 u32 u64 i8 i16 i32 i64)
open Go Go.Vm Go.RowKit
set_option linter.unusedVariables false
set_option maxRecDepth 100000
set_option linter.unusedSectionVars false
variable [Φ:Frz]
theorem bL:Tryd.prog.follows .mixedOrders=true:=by kernel_rfl
def keyC:List V:=[.int .u32 1116352408,.int .u32 1899447441,.int .u32 3049323471,.int .u32 3921009573,.int .u32 961987163,.int .u32 1508970993,.int .u32 2453635748,.int .u32 2870763221,.int .u32 3624381080,.int .u32 310598401,.int .u32 607225278,.int .u32 1426881987,.int .u32 1925078388,.int .u32 2162078206,.int .u32 2614888103,.int .u32 3248222580,.int .u32 3835390401,.int .u32 4022224774,.int .u32 264347078,.int .u32 604807628,.int .u32 770255983,.int .u32 1249150122,.int .u32 1555081692,.int .u32 1996064986,.int .u32 2554220882,.int .u32 2821834349,.int .u32 2952996808,.int .u32 3210313671,.int .u32 3336571891,.int .u32 3584528711,.int .u32 113926993,.int .u32 338241895,.int .u32 666307205,.int .u32 773529912,.int .u32 1294757372,.int .u32 1396182291,.int .u32 1695183700,.int .u32 1986661051,.int .u32 2177026350,.int .u32 2456956037,.int .u32 2730485921,.int .u32 2820302411,.int .u32 3259730800,.int .u32 3345764771,.int .u32 3516065817,.int .u32 3600352804,.int .u32 4094571909,.int .u32 275423344,.int .u32 430227734,.int .u32 506948616,.int .u32 659060556,.int .u32 883997877,.int .u32 958139571,.int .u32 1322822218,.int .u32 1537002063,.int .u32 1747873779,.int .u32 1955562222,.int .u32 2024104815,.int .u32 2227730452,.int .u32 2361852424,.int .u32 2428436474,.int .u32 2756734187,.int .u32 3204031479,.int .u32 3329325298]
def powC:List V:=[.int .u64 1,.int .u64 10,.int .u64 100,.int .u64 1000,.int .u64 10000,.int .u64 100000,.int .u64 1000000,.int .u64 10000000,.int .u64 100000000,.int .u64 1000000000,.int .u64 10000000000,.int .u64 100000000000,.int .u64 1000000000000,.int .u64 10000000000000,.int .u64 100000000000000,.int .u64 1000000000000000,.int .u64 10000000000000000,.int .u64 100000000000000000,.int .u64 1000000000000000000,.int .u64 10000000000000000000]
instance gl:Glob:={n:=9,cells:=fun|0=>some keyC|6=>some powC|_=>none,more:=fun _=>(0,0)}
noncomputable def T0:Tab:=⟨noT,noL,dA 6⟩
theorem T0_ok:TabOk3 Tryd.prog T0:=⟨cK,cL,bE 6⟩
noncomputable def za_0(n:Int):=(↑(BitVec.ofInt 64 (u64.wrap (i64.wrap (0-n)))&&&BitVec.ofInt 64 31).toNat:Int)
theorem rot_tree(x n:Int)(R:V→Prop):runW Tryd.prog T0 6 10 114 [.int .u32 x,.int .i64 n] R=
 (
 bif decide (0≤u64.wrap (32-u64.wrap (za_0 n)))then R (.int u32 (u32.wrap (↑(BitVec.ofInt 32 (u32.wrap (x*2^min
 (u64.wrap (za_0 n)).toNat 32))|||BitVec.ofInt 32 (x.fdiv (2^min (u64.wrap (32-u64.wrap (za_0 n))).toNat 32))).toNat:Int)))else
 False):=by kernel_rfl
def rotI(x n:Int):Int:=u32.wrap (((BitVec.ofInt 32 (u32.wrap (x*2^min (u64.wrap (((BitVec.ofInt 64 (u64.wrap (i64.wrap (0-n)))&&&BitVec.ofInt 64 31).toNat:Nat):Int)).toNat 32))|||
 BitVec.ofInt 32 (x.fdiv (2^min (u64.wrap (32-u64.wrap (((BitVec.ofInt 64 (u64.wrap (i64.wrap (0-n)))&&&BitVec.ofInt 64 31).toNat:Nat):Int))).toNat 32))).toNat:Nat):Int)
def rotF:List V→Option V
 |[.int .u32 x,.int .i64 n]=>some (.int .u32 (rotI x n))
 |_=>none
theorem and31_le(y:BitVec 64):((y&&&BitVec.ofInt 64 31).toNat:Int)≤31:=by
 rw[BitVec.toNat_and];have:(BitVec.ofInt 64 31).toNat=31:=by decide
 rw[this];have:=Nat.and_le_right (n:=y.toNat) (m:=31);omega
theorem rot_ok(args:List V)(v:V)(h:rotF args=some v):FnSat Tryd.prog 114 args [] (Is (v,[])):=by
 unfold rotF at h;split at h
 ·rename_i x n;cases h;refine fw (lim:=6) (n:=10) bL T0_ok rfl rfl ?_;rw[rot_tree];unfold za_0;have h1:=and31_le (BitVec.ofInt 64 (u64.wrap (i64.wrap (0-n))));have h2:=IntWalk.u64_in (((BitVec.ofInt 64 (u64.wrap (i64.wrap (0-n)))&&&BitVec.ofInt 64 31).toNat:Nat):Int) ⟨by omega,by omega⟩;refine cZ (fun _=>rfl) (fun h=>?_);have h:=of_decide_eq_false h;rw[h2,IntWalk.u64_in _ ⟨by omega,by omega⟩]at h;omega
 ·cases h
noncomputable def T1:Tab:=⟨addP noT 114 rotF,noL,dA 9⟩
theorem T1_ok:TabOk3 Tryd.prog T1:=⟨gI cK rot_ok,cL,bE 9⟩
structure W8 where
 a:Int
 b:Int
 c:Int
 d:Int
 e:Int
 f:Int
 g:Int
 h:Int
def W8.cells(x:W8):List V:=[.int .u32 x.a,.int .u32 x.b,.int .u32 x.c,.int .u32 x.d,.int .u32 x.e,.int .u32 x.f,.int .u32 x.g,.int .u32 x.h]
def xorI(a b:Int):Int:=u32.wrap (((BitVec.ofInt 32 a^^^BitVec.ofInt 32 b).toNat:Nat):Int)
def andI(a b:Int):Int:=u32.wrap (((BitVec.ofInt 32 a&&&BitVec.ofInt 32 b).toNat:Nat):Int)
def orI(a b:Int):Int:=u32.wrap (((BitVec.ofInt 32 a|||BitVec.ofInt 32 b).toNat:Nat):Int)
def addI(a b:Int):Int:=u32.wrap (a+b)
def tI(e f g h k w:Int):Int:=addI (addI (addI (addI h (xorI (xorI (rotI e 6) (rotI e 11)) (rotI e 25))) (xorI (andI e f) (andI (xorI 4294967295 e) g))) k) w
def uI(a b c:Int):Int:=addI (xorI (xorI (rotI a 2) (rotI a 13)) (rotI a 22)) (xorI (xorI (andI a b) (andI a c)) (andI b c))
def mixR(x:W8)(k w:Int):W8:=⟨addI (tI x.e x.f x.g x.h k w) (uI x.a x.b x.c),x.a,x.b,x.c,addI x.d (tI x.e x.f x.g x.h k w),x.e,x.f,x.g⟩
def keyI(j:Nat):Int:=af (keyC.getD j (.bool false))
def wI(ws:List V)(j:Nat):Int:=af (ws.getD j (.bool false))
def mixL:Nat→Nat→List V→W8→W8
 |0,_,_,x=>x
 |n+1,j,ws,x=>mixL n (j+1) ws (mixR x (keyI j) (wI ws j))
def aV(ws:List V):Bool:=ws.all (ag .u32)
theorem bw{ws:List V}(h:aV ws=true){j:Nat}(hj:j<ws.length):ag .u32 (ws.getD j (.bool false))=true:=by
 rw[List.getD_eq_getElem?_getD,List.getElem?_eq_getElem hj];exact List.all_eq_true.1 h _ (List.getElem_mem hj)
theorem ge(σ:List Nat):∀ws:List V,aV ws=true→renL σ ws=some ws
 |[],_=>rfl
 |v::r,h=>by
  unfold aV at h;rw[List.all_cons,Bool.and_eq_true]at h;have ih:=ge σ r h.2;cases v<;>simp[ag]at h;simp only[renL,renV,ih]
noncomputable def za_1(j:Int):=[V.int u32 1116352408,V.int u32 1899447441,V.int u32 3049323471,V.int u32 3921009573,V.int u32 961987163,V.int u32 1508970993,V.int u32 2453635748,V.int u32 2870763221,V.int u32 3624381080,V.int u32 310598401,V.int u32 607225278,V.int u32 1426881987,V.int u32 1925078388,V.int u32 2162078206,V.int u32 2614888103,V.int u32 3248222580,V.int u32 3835390401,V.int u32 4022224774,V.int u32 264347078,V.int u32 604807628,V.int u32 770255983,V.int u32 1249150122,V.int u32 1555081692,V.int u32 1996064986,V.int u32 2554220882,V.int u32 2821834349,V.int u32 2952996808,V.int u32 3210313671,V.int u32 3336571891,V.int u32 3584528711,V.int u32 113926993,V.int u32 338241895,V.int u32 666307205,V.int u32 773529912,V.int u32 1294757372,V.int u32 1396182291,V.int u32 1695183700,V.int u32 1986661051,V.int u32 2177026350,V.int u32 2456956037,V.int u32 2730485921,V.int u32 2820302411,V.int u32 3259730800,V.int u32 3345764771,V.int u32 3516065817,V.int u32 3600352804,V.int u32 4094571909,V.int u32 275423344,V.int u32 430227734,V.int u32 506948616,V.int u32 659060556,V.int u32 883997877,V.int u32 958139571,V.int u32 1322822218,V.int u32 1537002063,V.int u32 1747873779,V.int u32 1955562222,V.int u32 2024104815,V.int u32 2227730452,V.int u32 2361852424,V.int u32 2428436474,V.int u32 2756734187,V.int u32 3204031479,V.int u32 3329325298].getD (0+j.toNat*1) (V.bool false)
noncomputable def za_2(e f g h j:Int)(ws:List V):=(u32.wrap (u32.wrap (u32.wrap (h+u32.wrap (↑(BitVec.ofInt 32 (u32.wrap (↑(BitVec.ofInt 32 (rotI (e) 6)^^^BitVec.ofInt 32 (rotI (e) 11)).toNat:Int))^^^BitVec.ofInt 32 (rotI (e) 25)).toNat:Int))+u32.wrap (↑(BitVec.ofInt 32 (u32.wrap (↑(BitVec.ofInt 32 (e)&&&BitVec.ofInt 32 (f)).toNat:Int))^^^BitVec.ofInt 32 (u32.wrap (↑(BitVec.ofInt 32 (u32.wrap (↑(BitVec.ofInt 32 4294967295^^^BitVec.ofInt 32 (e)).toNat:Int))&&&BitVec.ofInt 32 (g)).toNat:Int))).toNat:Int))+af (za_1 j))+af (ws.getD (0+j.toNat*1) (V.bool false)))
theorem mix_round(a b c d e f g h:Int)(ws:List V)(m:Nat)(j:Int)(r was:List V)(R:Exit→List (Option V)→St→Prop):aS Tryd.prog T1 9 10 (az 9) 83 58 [2,3,4,5,13] [.ptr 0 0,.ptr 1 0,.ptr 2 0,.ptr 3 0,.int .i64 j] [.row [.int .u32 a,.int .u32 b,.int .u32 c,.int .u32 d,.int .u32 e,.int .u32 f,.int .u32 g,.int .u32 h] 104 8,.row ws 108 m,.row r 104 8,.row was 104 8] R=
 (
 bif decide (j<64)then bif decide (0≤j)&&decide (j<64)then bif (0+j.toNat*1).blt 64 then bif ag u32 (za_1 j)then bif decide (0≤j)&&
 decide (j<64)then bif (0+j.toNat*1).blt ws.length then bif ag u32 (ws.getD (0+j.toNat*1) (.bool false))then R .normal [some (.ptr 0
 0),some (.ptr 1 0),some (.ptr 2 0),some (.ptr 3 0),some (.int i64 (i64.wrap (j+1)))] [.row [.int u32 (u32.wrap
 (u32.wrap (za_2 e f g h j ws)+u32.wrap (u32.wrap (↑(BitVec.ofInt 32 (u32.wrap (↑(BitVec.ofInt 32 (rotI (a) 2)^^^BitVec.ofInt
 32 (rotI (a) 13)).toNat:Int))^^^BitVec.ofInt 32 (rotI (a) 22)).toNat:Int)+u32.wrap (↑(BitVec.ofInt 32 (u32.wrap (↑(BitVec.ofInt 32
 (u32.wrap (↑(BitVec.ofInt 32 (a)&&&BitVec.ofInt 32 (b)).toNat:Int))^^^BitVec.ofInt 32 (u32.wrap (↑(BitVec.ofInt 32 (a)&&&BitVec.ofInt 32
 (c)).toNat:Int))).toNat:Int))^^^BitVec.ofInt 32 (u32.wrap (↑(BitVec.ofInt 32 (b)&&&BitVec.ofInt 32 (c)).toNat:Int))).toNat:Int)))),.int
 u32 (a),.int u32 (b),.int u32 (c),.int u32 (u32.wrap (d+u32.wrap (za_2 e f g h j ws))),.int u32
 (e),.int u32 (f),.int u32 (g)] 104 8,.row ws 108 m,.row r 104 8,.row was 104 8]else False else False else False else False else
 False else False else R (.exit 0) [some (.ptr 0 0),some (.ptr 1 0),some (.ptr 2 0),some (.ptr 3 0),some (.int i64 j)] [.row [.int
 u32 a,.int u32 b,.int u32 c,.int u32 d,.int u32 e,.int u32 f,.int u32 g,.int u32 h]
 104 8,.row ws 108 m,.row r 104 8,.row was 104 8]):=by kernel_rfl
structure MX where
 x:W8
 l:List V
 m:Nat
 r:W8
 was:W8
 j:Nat
def mxV(y:MX):List V:=[.ptr 0 0,.ptr 1 0,.ptr 2 0,.ptr 3 0,.int .i64 y.j]
def mxJ(y:MX):St:=[.row y.x.cells 104 8,.row y.l 108 y.m,.row y.r.cells 104 8,.row y.was.cells 104 8]
def eJ(y:MX):Bool:=aV y.l&&(Nat.beq y.l.length 64&&Nat.ble y.j 64)
def mxMu(y:MX):Nat:=64-y.j
def mxOutG(ML:Nat→Nat→List V→W8→W8):Asks MX:=fun y K=>K (.exit 0) [.ptr 0 0,.ptr 1 0,.ptr 2 0,.ptr 3 0,.int .i64 64] [.row (ML (64-y.j) y.j y.l y.x).cells 104 8,.row y.l 108 y.m,.row y.r.cells 104 8,.row y.was.cells 104 8]
abbrev mxOut:Asks MX:=mxOutG mixL
theorem jJ(x:W8)(l:List V)(hl:aV l=true)(m:Nat)(r was:W8)(j:Int):Fits 0 [.ptr 0 0,.ptr 1 0,.ptr 2 0,.ptr 3 0,.int .i64 j] [.row x.cells 104 8,.row l 108 m,.row r.cells 104 8,.row was.cells 104 8]
  [some (.ptr 0 0),some (.ptr 1 0),some (.ptr 2 0),some (.ptr 3 0),some (.int .i64 j)] [.row x.cells 104 8,.row l 108 m,.row r.cells 104 8,.row was.cells 104 8]:=
 ⟨[0,1,2,3],[.ptr 0 0,.ptr 1 0,.ptr 2 0,.ptr 3 0,.int .i64 j],rfl,rfl,FitsM.of ⟨.inr ⟨_,.inl rfl,rfl⟩,.inr ⟨.row l 108 m,.inl (by simp only[renB,ge _ l hl]),rfl⟩,.inr ⟨_,.inl rfl,rfl⟩,.inr ⟨_,.inl rfl,rfl⟩,trivial⟩,by decide,fun i hi=>by omega⟩
theorem mx_roundOk(y:MX)(hy:eJ y=true):aS Tryd.prog T1 9 10 (az 9) 83 58 [2,3,4,5,13] (mxV y) (mxJ y) (bk 0 eJ mxV mxJ mxMu mxOut y):=by
 obtain⟨x,l,m,r,was,j⟩:=y;have p1:l.length=64:=by
  unfold eJ at hy;rw[Bool.and_eq_true]at hy;rw[Bool.and_eq_true]at hy;exact Nat.eq_of_beq_eq_true hy.2.1
 have p2:j≤64:=by
  unfold eJ at hy;rw[Bool.and_eq_true]at hy;rw[Bool.and_eq_true]at hy;exact Nat.le_of_ble_eq_true hy.2.2
 have p0:aV l=true:=by
  unfold eJ at hy;rw[Bool.and_eq_true]at hy;exact hy.1
 clear hy;show aS Tryd.prog T1 9 10 (az 9) 83 58 [2,3,4,5,13] [.ptr 0 0,.ptr 1 0,.ptr 2 0,.ptr 3 0,.int .i64 j] [.row [.int .u32 x.a,.int .u32 x.b,.int .u32 x.c,.int .u32 x.d,.int .u32 x.e,.int .u32 x.f,.int .u32 x.g,.int .u32 x.h] 104 8,.row l 108 m,.row r.cells 104 8,.row was.cells 104 8] _;rw[mix_round];unfold za_2 za_1;cases hb:decide ((j:Int)<64)with
 |true=>
  have hj:j<64:=by have:=of_decide_eq_true hb;omega
  have e1:i64.wrap ((j:Int)+1)=((j+1:Nat):Int):=by rw[IntWalk.i64_in _ ⟨by omega,by omega⟩];omega
  have c1:decide ((0:Int)≤(j:Int))=true:=decide_eq_true (by omega);have c2:(0+j*1).blt 64=true:=Nat.ble_eq_true_of_le (by omega);have c3:(0+j*1).blt l.length=true:=Nat.ble_eq_true_of_le (by omega);have c4:∀i:Fin 64,ag .u32 (keyC.getD i.val (.bool false))=true:=by decide+kernel
  have c5:=c4 ⟨j,hj⟩;have e0:0+j*1=j:=by omega
  rw[Int.toNat_natCast,c1,c2,c3,e1,e0];simp only[Bool.and_self,cond_true];refine aa c5 ?_;refine aa (bw p0 (by omega)) ?_;refine⟨⟨mixR x (keyI j) (wI l j),l,m,r,was,j+1⟩,?_,jJ _ l p0 m r was _,by simp only[mxMu];omega,fun K hK=>?_⟩
  ·unfold eJ;rw[Bool.and_eq_true,Bool.and_eq_true];exact⟨p0,by rw[p1];rfl,Nat.ble_eq_true_of_le hj⟩
  ·have hK:K _ _ _:=hK;have:64-j=(64-(j+1))+1:=by omega
   rw[this]at hK;exact hK
 |false=>
  have hj:j=64:=by have:=of_decide_eq_false hb;omega
  subst hj;exact⟨_,_,fun K hK=>hK,jJ x l p0 m r was 64⟩
def mxDec:List (Option V)→St→Option MX
 |[some (.ptr 0 0),some (.ptr 1 0),some (.ptr 2 0),some (.ptr 3 0),some (.int .i64 0)],
  .row [.int .u32 a,.int .u32 b,.int .u32 c,.int .u32 d,.int .u32 e,.int .u32 f,.int .u32 g,.int .u32 h] _ _::.row ws _ m::.row [.int .u32 a2,.int .u32 b2,.int .u32 c2,.int .u32 d2,.int .u32 e2,.int .u32 f2,.int .u32 g2,.int .u32 h2] _ _::.row [.int .u32 a3,.int .u32 b3,.int .u32 c3,.int .u32 d3,.int .u32 e3,.int .u32 f3,.int .u32 g3,.int .u32 h3] _ _::_=>
   some ⟨⟨a,b,c,d,e,f,g,h⟩,ws,m,⟨a2,b2,c2,d2,e2,f2,g2,h2⟩,⟨a3,b3,c3,d3,e3,f3,g3,h3⟩,0⟩
 |_,_=>none
noncomputable def lk73G(ML:Nat→Nat→List V→W8→W8):Nat→Trans→Trans:=bM 58 (cN 0 (szOf Tryd.prog 83) [2,3,4,5,13] mxDec eJ mxV mxJ (mxOutG ML)) (az 9)
noncomputable def lk73:Nat→Trans→Trans:=lk73G mixL
theorem mx_loop{f:Fr}{st:St}{Q:Exit→Fr→St→Prop}(h:cN 0 (szOf Tryd.prog 83) [2,3,4,5,13] mxDec eJ mxV mxJ mxOut f st Q):CodeSatW Tryd.prog none 0 (.loop (bX Tryd.prog 83 58)) f st Q:=
 cH (P:=Tryd.prog) (T:=T1) (k:=0) (lim:=9) (n:=10) (g:=83) (p0:=58) (lk:=az 9) bL T1_ok (bq 9 _ _) mxMu mx_roundOk h
theorem lk73_ok:aZ Tryd.prog 0 lk73 83:=by
 unfold lk73 lk73G;exact ew (cY 9 0 83) (by kernel_rfl) fun f st Q h=>mx_loop h
noncomputable def T2(ML:Nat→Nat→List V→W8→W8):Tab:=⟨addP noT 114 rotF,noL,addLk (dA 9) 83 0 (lk73G ML)⟩
theorem T2_ok:TabOk3 Tryd.prog (T2 mixL):=⟨gI cK rot_ok,cL,iw (bE 9) lk73_ok⟩
noncomputable def zb_0(a b c d e f g h:Int):=[V.int u32 a,V.int u32 b,V.int u32 c,V.int u32 d,V.int u32 e,V.int u32 f,V.int u32 g,V.int u32 h]
noncomputable def zb_1:=[V.int u32 0,V.int u32 0,V.int u32 0,V.int u32 0,V.int u32 0,V.int u32 0,V.int u32 0,V.int u32 0]
theorem mix_tree(ML:Nat→Nat→List V→W8→W8)(a b c d e f g h:Int)(ws:List V)(R:V→St→Prop):runM Tryd.prog (T2 ML) 9 10 83 [.agg [.int .u32 a,.int .u32 b,.int .u32 c,.int .u32 d,.int .u32 e,.int .u32 f,.int .u32 g,.int .u32 h],.agg ws] R=
 (
 Fits 0 [.ptr 0 0,.ptr 1 0,.ptr 2 0,.ptr 3 0,.int i64 0] [.row (zb_0 a b c d e f g h) 104 8,.row ws 108 ws.length,.row zb_1 104 8,
 .row (zb_0 a b c d e f g h) 104 8] [some (.ptr 0 0),some (.ptr 1 0),some (.ptr 2 0),some (.ptr 3 0),some (.int i64 0)] [.row (zb_0 a b c d
 e f g h) 104 8,.row ws 108 ws.length,.row zb_1 104 8,.row (zb_0 a b c d e f g h) 104 8]∧bif eJ
 {x:={a:=a,b:=b,c:=c,d:=d,e:=e,f:=f,g:=g,h:=h},l:=ws,m:=ws.length,r:={a:=0,b:=0,c:=0,d:=0,e:=0,f:=0,g:=0,h:=0},was:={a:=a,b:=b,c:=c,d:=d,e:=e,f:=f,g:=g,h:=h},j:=0}
 then R (.agg [.int u32 (u32.wrap ((ML 64 0 ws {a:=a,b:=b,c:=c,d:=d,e:=e,f:=f,g:=g,h:=h}).a+a)),.int u32
 (u32.wrap ((ML 64 0 ws {a:=a,b:=b,c:=c,d:=d,e:=e,f:=f,g:=g,h:=h}).b+b)),.int u32 (u32.wrap ((ML 64 0 ws
 {a:=a,b:=b,c:=c,d:=d,e:=e,f:=f,g:=g,h:=h}).c+c)),.int u32 (u32.wrap ((ML 64 0 ws
 {a:=a,b:=b,c:=c,d:=d,e:=e,f:=f,g:=g,h:=h}).d+d)),.int u32 (u32.wrap ((ML 64 0 ws
 {a:=a,b:=b,c:=c,d:=d,e:=e,f:=f,g:=g,h:=h}).e+e)),.int u32 (u32.wrap ((ML 64 0 ws
 {a:=a,b:=b,c:=c,d:=d,e:=e,f:=f,g:=g,h:=h}).f+f)),.int u32 (u32.wrap ((ML 64 0 ws
 {a:=a,b:=b,c:=c,d:=d,e:=e,f:=f,g:=g,h:=h}).g+g)),.int u32 (u32.wrap ((ML 64 0 ws
 {a:=a,b:=b,c:=c,d:=d,e:=e,f:=f,g:=g,h:=h}).h+h))]) [.row [.int u32 (u32.wrap ((ML 64 0 ws
 {a:=a,b:=b,c:=c,d:=d,e:=e,f:=f,g:=g,h:=h}).a+a)),.int u32 (u32.wrap ((ML 64 0 ws
 {a:=a,b:=b,c:=c,d:=d,e:=e,f:=f,g:=g,h:=h}).b+b)),.int u32 (u32.wrap ((ML 64 0 ws
 {a:=a,b:=b,c:=c,d:=d,e:=e,f:=f,g:=g,h:=h}).c+c)),.int u32 (u32.wrap ((ML 64 0 ws
 {a:=a,b:=b,c:=c,d:=d,e:=e,f:=f,g:=g,h:=h}).d+d)),.int u32 (u32.wrap ((ML 64 0 ws
 {a:=a,b:=b,c:=c,d:=d,e:=e,f:=f,g:=g,h:=h}).e+e)),.int u32 (u32.wrap ((ML 64 0 ws
 {a:=a,b:=b,c:=c,d:=d,e:=e,f:=f,g:=g,h:=h}).f+f)),.int u32 (u32.wrap ((ML 64 0 ws
 {a:=a,b:=b,c:=c,d:=d,e:=e,f:=f,g:=g,h:=h}).g+g)),.int u32 (u32.wrap ((ML 64 0 ws
 {a:=a,b:=b,c:=c,d:=d,e:=e,f:=f,g:=g,h:=h}).h+h))] 104 8,.row ws 108 ws.length,.row [.int u32 (u32.wrap ((ML
 64 0 ws {a:=a,b:=b,c:=c,d:=d,e:=e,f:=f,g:=g,h:=h}).a+a)),.int u32 (u32.wrap ((ML 64 0 ws
 {a:=a,b:=b,c:=c,d:=d,e:=e,f:=f,g:=g,h:=h}).b+b)),.int u32 (u32.wrap ((ML 64 0 ws
 {a:=a,b:=b,c:=c,d:=d,e:=e,f:=f,g:=g,h:=h}).c+c)),.int u32 (u32.wrap ((ML 64 0 ws
 {a:=a,b:=b,c:=c,d:=d,e:=e,f:=f,g:=g,h:=h}).d+d)),.int u32 (u32.wrap ((ML 64 0 ws
 {a:=a,b:=b,c:=c,d:=d,e:=e,f:=f,g:=g,h:=h}).e+e)),.int u32 (u32.wrap ((ML 64 0 ws
 {a:=a,b:=b,c:=c,d:=d,e:=e,f:=f,g:=g,h:=h}).f+f)),.int u32 (u32.wrap ((ML 64 0 ws
 {a:=a,b:=b,c:=c,d:=d,e:=e,f:=f,g:=g,h:=h}).g+g)),.int u32 (u32.wrap ((ML 64 0 ws
 {a:=a,b:=b,c:=c,d:=d,e:=e,f:=f,g:=g,h:=h}).h+h))] 104 8,.row (zb_0 a b c d e f g h) 104 8]else False):=by kernel_rfl
def mixE(x:W8)(ws:List V):W8:=⟨addI (mixL 64 0 ws x).a x.a,addI (mixL 64 0 ws x).b x.b,addI (mixL 64 0 ws x).c x.c,addI (mixL 64 0 ws x).d x.d,addI (mixL 64 0 ws x).e x.e,addI (mixL 64 0 ws x).f x.f,addI (mixL 64 0 ws x).g x.g,addI (mixL 64 0 ws x).h x.h⟩
def mixF:List V→Option (List (Bool×(V×St)))
 |[.agg [.int .u32 a,.int .u32 b,.int .u32 c,.int .u32 d,.int .u32 e,.int .u32 f,.int .u32 g,.int .u32 h],.agg ws]=>some [(aV ws&&Nat.beq ws.length 64,(.agg (mixE ⟨a,b,c,d,e,f,g,h⟩ ws).cells,[]))]
 |_=>none
theorem mix_ok(args:List V)(l:List (Bool×(V×St)))(o:V×St)(h:mixF args=some l)(ho:bo l=some o):FnSat Tryd.prog 83 args [] (Is o):=by
 unfold mixF at h;split at h
 ·rename_i a b c d e f g h' ws;cases h;cases hc:(aV ws&&Nat.beq ws.length 64)with
  |false=>rw[hc]at ho;cases ho
  |true=>
   rw[hc]at ho;cases ho;rw[Bool.and_eq_true]at hc;refine FnSat.fits (runM_ok (lim:=9) (n:=10) bL T2_ok ?_);rw[mix_tree];unfold zb_1 zb_0;refine⟨jJ ⟨a,b,c,d,e,f,g,h'⟩ ws hc.1 ws.length ⟨0,0,0,0,0,0,0,0⟩ ⟨a,b,c,d,e,f,g,h'⟩ 0,aa ?_ ?_⟩
   ·unfold eJ;rw[Bool.and_eq_true,Bool.and_eq_true];exact⟨hc.1,hc.2,rfl⟩
   ·exact⟨[],[.agg (mixE ⟨a,b,c,d,e,f,g,h'⟩ ws).cells],rfl,rfl,FitsM.of trivial,by simp,fun i hi=>by omega⟩
 ·cases h
noncomputable def zb_2(ws:List V)(j:Int):=ws.getD (0+(i64.wrap (j-15)).toNat*1) (V.bool false)
noncomputable def zb_3(ws:List V)(j:Int):=ws.getD (0+(i64.wrap (j-2)).toNat*1) (V.bool false)
theorem blk_round(la:List V)(off c z:Nat)(ws:List V)(j:Int)(R:Exit→List (Option V)→St→Prop):aS Tryd.prog T1 9 10 (az 9) 84 26 [0,2,6] [.slice 0 off 64 false c z,.ptr 1 0,.int .i64 j] [.ro false la,.row ws 108 64] R=
 (
 bif decide (j<64)then bif decide (j<16)then bif decide (0≤i64.wrap (4*j))&&decide (i64.wrap (4*j)<64)then bif (off+
 (i64.wrap (4*j)).toNat*1).blt la.length then bif ag u8 (la.getD (off+(i64.wrap (4*j)).toNat*1) (.bool false))then bif
 decide (0≤i64.wrap (i64.wrap (4*j)+1))&&decide (i64.wrap (i64.wrap (4*j)+1)<64)then bif (off+(i64.wrap
 (i64.wrap (4*j)+1)).toNat*1).blt la.length then bif ag u8 (la.getD (off+(i64.wrap (i64.wrap (4*j)+1)).toNat*1)
 (.bool false))then bif decide (0≤i64.wrap (i64.wrap (4*j)+2))&&decide (i64.wrap (i64.wrap (4*j)+2)<64)then bif
 (off+(i64.wrap (i64.wrap (4*j)+2)).toNat*1).blt la.length then bif ag u8 (la.getD (off+(i64.wrap (i64.wrap
 (4*j)+2)).toNat*1) (.bool false))then bif decide (0≤i64.wrap (i64.wrap (4*j)+3))&&decide (i64.wrap (i64.wrap (4*
 j)+3)<64)then bif (off+(i64.wrap (i64.wrap (4*j)+3)).toNat*1).blt la.length then bif ag u8 (la.getD (off+
 (i64.wrap (i64.wrap (4*j)+3)).toNat*1) (.bool false))then bif decide (0≤j)&&decide (j<64)then bif true&&(0+j.toNat*1+
 1).ble ws.length then R .normal [some (.slice 0 off 64 false c z),some (.ptr 1 0),some (.int i64 (i64.wrap (j+1)))] [.ro false la,
 .row (bP (0+j.toNat*1) [.int u32 (u32.wrap (↑(BitVec.ofInt 32 (u32.wrap (↑(BitVec.ofInt 32 (u32.wrap (↑(BitVec.ofInt
 32 (u32.wrap (u32.wrap (af (la.getD (off+(i64.wrap (4*j)).toNat*1) (.bool false)))*16777216))|||BitVec.ofInt 32
 (u32.wrap (u32.wrap (af (la.getD (off+(i64.wrap (i64.wrap (4*j)+1)).toNat*1) (.bool false)))*65536))).toNat:
 Int))|||BitVec.ofInt 32 (u32.wrap (u32.wrap (af (la.getD (off+(i64.wrap (i64.wrap (4*j)+2)).toNat*1) (.bool
 false)))*256))).toNat:Int))|||BitVec.ofInt 32 (u32.wrap (af (la.getD (off+(i64.wrap (i64.wrap (4*j)+3)).toNat*1)
 (.bool false))))).toNat:Int))] ws) 108 64]else False else False else False else False else False else False else False else False else False else False else
 False else False else False else False else bif decide (0≤i64.wrap (j-15))&&decide (i64.wrap (j-15)<64)then bif (0+(i64.wrap
 (j-15)).toNat*1).blt ws.length then bif ag u32 (zb_2 ws j)then bif decide (0≤i64.wrap (j-2))&&decide (i64.wrap (j-2)<
 64)then bif (0+(i64.wrap (j-2)).toNat*1).blt ws.length then bif ag u32 (zb_3 ws j)then bif decide (0≤i64.wrap (j-16))&&
 decide (i64.wrap (j-16)<64)then bif (0+(i64.wrap (j-16)).toNat*1).blt ws.length then bif ag u32 (ws.getD (0+
 (i64.wrap (j-16)).toNat*1) (.bool false))then bif decide (0≤i64.wrap (j-7))&&decide (i64.wrap (j-7)<64)then bif (0+
 (i64.wrap (j-7)).toNat*1).blt ws.length then bif ag u32 (ws.getD (0+(i64.wrap (j-7)).toNat*1) (.bool false))then bif
 decide (0≤j)&&decide (j<64)then bif true&&(0+j.toNat*1+1).ble ws.length then R .normal [some (.slice 0 off 64 false c z),some (.ptr 1 0),
 some (.int i64 (i64.wrap (j+1)))] [.ro false la,.row (bP (0+j.toNat*1) [.int u32 (u32.wrap (u32.wrap
 (u32.wrap (af (ws.getD (0+(i64.wrap (j-16)).toNat*1) (.bool false))+af (ws.getD (0+(i64.wrap (j-7)).toNat*1)
 (.bool false)))+u32.wrap (↑(BitVec.ofInt 32 (u32.wrap (↑(BitVec.ofInt 32 (rotI (af (zb_2 ws j)) 7)^^^BitVec.ofInt 32 (rotI (af (zb_2
 ws j)) 18)).toNat:Int))^^^BitVec.ofInt 32 ((af (zb_2 ws j)).fdiv 8)).toNat:Int))+u32.wrap (↑(BitVec.ofInt 32 (u32.wrap
 (↑(BitVec.ofInt 32 (rotI (af (zb_3 ws j)) 17)^^^BitVec.ofInt 32 (rotI (af (zb_3 ws j)) 19)).toNat:Int))^^^BitVec.ofInt 32 ((af (zb_3 ws
 j)).fdiv 1024)).toNat:Int)))] ws) 108 64]else False else False else False else False else False else False else False else False else False else False else
 False else False else False else False else R (.exit 0) [some (.slice 0 off 64 false c z),some (.ptr 1 0),some (.int i64 j)] [.ro false la,
 .row ws 108 64]):=by kernel_rfl
def okB(la:List V)(off:Nat):Bool:=ai la&&(Nat.ble (off+64) la.length&&((la.drop off).take 64).all (ag .u8))
theorem okB_len{la:List V}{off:Nat}(h:okB la off=true):off+64≤la.length:=by
 unfold okB at h;rw[Bool.and_eq_true,Bool.and_eq_true]at h;exact Nat.le_of_ble_eq_true h.2.1
theorem fA{la:List V}{off:Nat}(h:okB la off=true):ai la=true:=by
 unfold okB at h;rw[Bool.and_eq_true]at h;exact h.1
theorem ab{la:List V}{off i:Nat}(h:okB la off=true)(hi:i<64):(off+i*1).blt la.length=true∧ag .u8 (la.getD (off+i*1) (.bool false))=true:=by
 have hl:=okB_len h;unfold okB at h;rw[Bool.and_eq_true,Bool.and_eq_true]at h;have h2:=h.2.2;clear h;rw[Nat.mul_one];refine⟨Nat.ble_eq_true_of_le (by omega),?_⟩;have hlt:off+i<la.length:=by omega
 rw[List.getD_eq_getElem?_getD,List.getElem?_eq_getElem hlt];refine List.all_eq_true.1 h2 _ ?_;rw[List.mem_iff_getElem?];exact⟨i,by rw[List.getElem?_take,if_pos hi,List.getElem?_drop];exact List.getElem?_eq_getElem hlt⟩
def bI(la:List V)(off i:Nat):Int:=af (la.getD (off+i*1) (.bool false))
def shI(b m:Int):Int:=u32.wrap (u32.wrap b*m)
def di(la:List V)(off j:Nat):Int:=orI (orI (orI (shI (bI la off (4*j)) 16777216) (shI (bI la off (4*j+1)) 65536)) (shI (bI la off (4*j+2)) 256)) (u32.wrap (bI la off (4*j+3)))
def dt(ws:List V)(j:Nat):Int:=addI (addI (addI (wI ws (j-16)) (wI ws (j-7))) (xorI (xorI (rotI (wI ws (j-15)) 7) (rotI (wI ws (j-15)) 18)) ((wI ws (j-15)).fdiv 8))) (xorI (xorI (rotI (wI ws (j-2)) 17) (rotI (wI ws (j-2)) 19)) ((wI ws (j-2)).fdiv 1024))
def eD(la:List V)(off:Nat)(ws:List V)(j:Nat):Int:=if j<16 then di la off j else dt ws j
def blkL(la:List V)(off:Nat):Nat→Nat→List V→List V
 |0,_,ws=>ws
 |n+1,j,ws=>blkL la off n (j+1) (bP j [.int .u32 (eD la off ws j)] ws)
theorem put_all32{ws:List V}{j:Nat}{x:Int}(h:aV ws=true)(hj:j<ws.length):aV (bP j [.int .u32 x] ws)=true∧(bP j [.int .u32 x] ws).length=ws.length:=by
 unfold aV at h ⊢;rw[List.all_eq_true]at h ⊢;refine⟨fun v hv=>?_,?_⟩
 ·unfold bP at hv;rcases List.mem_append.1 hv with hv|hv
  ·rcases List.mem_append.1 hv with hv|hv
   ·exact h v (List.mem_of_mem_take hv)
   ·rw[List.mem_singleton.1 hv];rfl
  ·exact h v (List.mem_of_mem_drop hv)
 ·unfold bP;simp only[List.length_append,List.length_take,List.length_drop,List.length_cons,List.length_nil];omega
def a9(f:Nat→Int):List V:=[.int .u32 (f 0),.int .u32 (f 1),.int .u32 (f 2),.int .u32 (f 3),.int .u32 (f 4),.int .u32 (f 5),.int .u32 (f 6),.int .u32 (f 7),.int .u32 (f 8),.int .u32 (f 9),.int .u32 (f 10),.int .u32 (f 11),.int .u32 (f 12),.int .u32 (f 13),.int .u32 (f 14),.int .u32 (f 15),.int .u32 (f 16),.int .u32 (f 17),.int .u32 (f 18),.int .u32 (f 19),.int .u32 (f 20),.int .u32 (f 21),.int .u32 (f 22),.int .u32 (f 23),.int .u32 (f 24),.int .u32 (f 25),.int .u32 (f 26),.int .u32 (f 27),.int .u32 (f 28),.int .u32 (f 29),.int .u32 (f 30),.int .u32 (f 31),.int .u32 (f 32),.int .u32 (f 33),.int .u32 (f 34),.int .u32 (f 35),.int .u32 (f 36),.int .u32 (f 37),.int .u32 (f 38),.int .u32 (f 39),.int .u32 (f 40),.int .u32 (f 41),.int .u32 (f 42),.int .u32 (f 43),.int .u32 (f 44),.int .u32 (f 45),.int .u32 (f 46),.int .u32 (f 47),.int .u32 (f 48),.int .u32 (f 49),.int .u32 (f 50),.int .u32 (f 51),.int .u32 (f 52),.int .u32 (f 53),.int .u32 (f 54),.int .u32 (f 55),.int .u32 (f 56),.int .u32 (f 57),.int .u32 (f 58),.int .u32 (f 59),.int .u32 (f 60),.int .u32 (f 61),.int .u32 (f 62),.int .u32 (f 63)]
theorem cells64_map(f:Nat→Int):a9 f=(List.range 64).map fun i=>V.int .u32 (f i):=by kernel_rfl
theorem iq{ws:List V}(h:aV ws=true)(hl:ws.length=64):a9 (wI ws)=ws:=by
 rw[cells64_map];apply List.ext_getElem?;intro i;rcases Nat.lt_or_ge i 64 with hi|hi
 ·rw[List.getElem?_map,List.getElem?_range hi,Option.map_some];have h1:=bw h (j:=i) (by omega);unfold wI;rw[List.getD_eq_getElem?_getD,List.getElem?_eq_getElem (by omega),Option.getD_some]at h1 ⊢;cases hv:ws[i]with
  |int k n=>
   rw[hv]at h1;have hk:k=.u32:=of_decide_eq_true h1;subst hk;rfl
  |_=>rw[hv]at h1;cases h1
 ·rw[List.getElem?_eq_none (by simp;omega),List.getElem?_eq_none (by omega)]
def blkF(la:List V)(off n j:Nat)(ws:List V):Nat→Int:=wI (blkL la off n j ws)
structure BX where
 la:List V
 off:Nat
 c:Nat
 z:Nat
 ws:List V
 j:Nat
def bxV(y:BX):List V:=[.slice 0 y.off 64 false y.c y.z,.ptr 1 0,.int .i64 y.j]
def bxJ(y:BX):St:=[.ro false y.la,.row y.ws 108 64]
def fJ(y:BX):Bool:=okB y.la y.off&&(aV y.ws&&(Nat.beq y.ws.length 64&&Nat.ble y.j 64))
def bxMu(y:BX):Nat:=64-y.j
def bxOutG(BL:List V→Nat→Nat→Nat→List V→Nat→Int):Asks BX:=fun y K=>K (.exit 0) [.slice 0 y.off 64 false y.c y.z,.ptr 1 0,.int .i64 64] [.ro false y.la,Blk.row (a9 (BL y.la y.off (64-y.j) y.j y.ws)) 108 64]
abbrev bxOut:Asks BX:=bxOutG blkF
theorem j6(la:List V)(hf:ai la=true)(off c z:Nat)(ws:List V)(hw:aV ws=true)(j:Int):Fits 1 [.slice 0 off 64 false c z,.ptr 1 0,.int .i64 j] [.ro false la,.row ws 108 64]
  [some (.slice 0 off 64 false c z),some (.ptr 1 0),some (.int .i64 j)] [.ro false la,.row ws 108 64]:=
 ⟨[0,1],[.slice 0 off 64 false c z,.ptr 1 0,.int .i64 j],rfl,rfl,FitsM.of ⟨.inr ⟨.ro false la,.inl (by simp only[renB,bA la hf]),rfl⟩,.inr ⟨.row ws 108 64,.inl (by simp only[renB,ge _ ws hw]),rfl⟩,trivial⟩,by decide,fun i hi=>by
   match i,hi with
   |0,_=>rfl⟩
theorem bx_roundOk(y:BX)(hy:fJ y=true):aS Tryd.prog T1 9 10 (az 9) 84 26 [0,2,6] (bxV y) (bxJ y) (bk 1 fJ bxV bxJ bxMu bxOut y):=by
 obtain⟨la,off,c,z,ws,j⟩:=y;unfold fJ at hy;rw[Bool.and_eq_true,Bool.and_eq_true,Bool.and_eq_true]at hy;have p0:okB la off=true:=hy.1;have p1:aV ws=true:=hy.2.1;have p2:ws.length=64:=Nat.eq_of_beq_eq_true hy.2.2.1;have p3:j≤64:=Nat.le_of_ble_eq_true hy.2.2.2;clear hy;have hf:=fA p0;show aS Tryd.prog T1 9 10 (az 9) 84 26 [0,2,6] [.slice 0 off 64 false c z,.ptr 1 0,.int .i64 j] [.ro false la,.row ws 108 64] _;rw[blk_round];unfold zb_3 zb_2;cases hb:decide ((j:Int)<64)with
 |true=>
  have hj:j<64:=by have:=of_decide_eq_true hb;omega
  have e1:i64.wrap ((j:Int)+1)=((j+1:Nat):Int):=by rw[IntWalk.i64_in _ ⟨by omega,by omega⟩];omega
  have d1:decide ((0:Int)≤(j:Int))=true:=decide_eq_true (by omega);have d2:(true&&(0+j*1+1).ble ws.length)=true:=by rw[Bool.true_and];exact Nat.ble_eq_true_of_le (by omega)
  have e0:0+j*1=j:=by omega
  -- what stands behind a round
  have fin:∀x:Int,x=eD la off ws j→bk 1 fJ bxV bxJ bxMu bxOut ⟨la,off,c,z,ws,j⟩ .normal [some (.slice 0 off 64 false c z),some (.ptr 1 0),some (.int .i64 ((j+1:Nat):Int))] [.ro false la,.row (bP j [.int .u32 x] ws) 108 64]:=by
   intro x hx;have hp:=put_all32 (x:=x) p1 (j:=j) (by omega);refine⟨⟨la,off,c,z,bP j [.int .u32 x] ws,j+1⟩,?_,j6 la hf off c z _ hp.1 _,by simp only[bxMu];omega,fun K hK=>?_⟩
   ·unfold fJ;rw[Bool.and_eq_true,Bool.and_eq_true,Bool.and_eq_true];exact⟨p0,hp.1,by rw[hp.2,p2];rfl,Nat.ble_eq_true_of_le hj⟩
   ·have hK:K _ _ _:=hK;have h64:64-j=(64-(j+1))+1:=by omega
    rw[h64]at hK;rw[hx];exact hK
  cases hb2:decide ((j:Int)<16)with
  |true=>
   have hj2:j<16:=by have:=of_decide_eq_true hb2;omega
   have w0:i64.wrap (4*(j:Int))=((4*j:Nat):Int):=by rw[IntWalk.i64_in _ ⟨by omega,by omega⟩];omega
   have w1:i64.wrap (((4*j:Nat):Int)+1)=((4*j+1:Nat):Int):=by rw[IntWalk.i64_in _ ⟨by omega,by omega⟩];omega
   have w2:i64.wrap (((4*j:Nat):Int)+2)=((4*j+2:Nat):Int):=by rw[IntWalk.i64_in _ ⟨by omega,by omega⟩];omega
   have w3:i64.wrap (((4*j:Nat):Int)+3)=((4*j+3:Nat):Int):=by rw[IntWalk.i64_in _ ⟨by omega,by omega⟩];omega
   rw[w0,w1,w2,w3,e1];simp only[Int.toNat_natCast];rw[d1,d2,e0];have k:∀i:Nat,i<64→(decide ((0:Int)≤(i:Int))&&decide ((i:Int)<64))=true:=fun i hi=>by
    rw[Bool.and_eq_true];exact⟨decide_eq_true (by omega),decide_eq_true (by omega)⟩
   rw[cond_true,cond_true];refine aa (k _ (by omega)) (aa (ab p0 (by omega)).1 (aa (ab p0 (by omega)).2 ?_));refine aa (k _ (by omega)) (aa (ab p0 (by omega)).1 (aa (ab p0 (by omega)).2 ?_));refine aa (k _ (by omega)) (aa (ab p0 (by omega)).1 (aa (ab p0 (by omega)).2 ?_));refine aa (k _ (by omega)) (aa (ab p0 (by omega)).1 (aa (ab p0 (by omega)).2 ?_));refine aa rfl ?_;exact fin _ (by unfold eD;rw[if_pos hj2];rfl)
  |false=>
   have hj2:¬j<16:=by have:=of_decide_eq_false hb2;omega
   have w15:i64.wrap ((j:Int)-15)=((j-15:Nat):Int):=by rw[IntWalk.i64_in _ ⟨by omega,by omega⟩];omega
   have w2:i64.wrap ((j:Int)-2)=((j-2:Nat):Int):=by rw[IntWalk.i64_in _ ⟨by omega,by omega⟩];omega
   have w16:i64.wrap ((j:Int)-16)=((j-16:Nat):Int):=by rw[IntWalk.i64_in _ ⟨by omega,by omega⟩];omega
   have w7:i64.wrap ((j:Int)-7)=((j-7:Nat):Int):=by rw[IntWalk.i64_in _ ⟨by omega,by omega⟩];omega
   rw[w15,w2,w16,w7,e1];simp only[Int.toNat_natCast];have s0:∀i:Nat,0+i*1=i:=fun i=>by omega
   simp only[s0];rw[d1];have d2':(true&&(j+1).ble ws.length)=true:=by rw[Bool.true_and];exact Nat.ble_eq_true_of_le (by omega)
   rw[d2',cond_true,cond_false];have k:∀i:Nat,i<64→(decide ((0:Int)≤(i:Int))&&decide ((i:Int)<64))=true:=fun i hi=>by
    rw[Bool.and_eq_true];exact⟨decide_eq_true (by omega),decide_eq_true (by omega)⟩
   have q:∀i:Nat,i<64→i.blt ws.length=true:=fun i hi=>Nat.ble_eq_true_of_le (by omega);refine aa (k _ (by omega)) (aa (q _ (by omega)) (aa (bw p1 (by omega)) ?_));refine aa (k _ (by omega)) (aa (q _ (by omega)) (aa (bw p1 (by omega)) ?_));refine aa (k _ (by omega)) (aa (q _ (by omega)) (aa (bw p1 (by omega)) ?_));refine aa (k _ (by omega)) (aa (q _ (by omega)) (aa (bw p1 (by omega)) ?_));refine aa rfl ?_;exact fin _ (by unfold eD;rw[if_neg hj2];rfl)
 |false=>
  have hj:j=64:=by have:=of_decide_eq_false hb;omega
  subst hj;refine⟨_,_,fun K hK=>hK,?_⟩;show Fits 1 _ [Blk.ro false la,Blk.row (a9 (wI ws)) 108 64] _ _;rw[iq p1 p2];exact j6 la hf off c z ws p1 64
def bxDec:List (Option V)→St→Option BX
 |[some (.slice 0 off 64 false c z),some (.ptr 1 0),some (.int .i64 0)],.ro false la::.row ws _ _::_=>some ⟨la,off,c,z,ws,0⟩
 |_,_=>none
noncomputable def lk74G(BL:List V→Nat→Nat→Nat→List V→Nat→Int):Nat→Trans→Trans:=bM 26 (cN 1 (szOf Tryd.prog 84) [0,2,6] bxDec fJ bxV bxJ (bxOutG BL)) (az 9)
theorem bx_loop{f:Fr}{st:St}{Q:Exit→Fr→St→Prop}(h:cN 1 (szOf Tryd.prog 84) [0,2,6] bxDec fJ bxV bxJ bxOut f st Q):CodeSatW Tryd.prog none 1 (.loop (bX Tryd.prog 84 26)) f st Q:=
 cH (P:=Tryd.prog) (T:=T1) (k:=1) (lim:=9) (n:=10) (g:=84) (p0:=26) (lk:=az 9) bL T1_ok (bq 9 _ _) bxMu bx_roundOk h
theorem lk74_ok:aZ Tryd.prog 1 (lk74G blkF) 84:=by
 unfold lk74G;exact ew (cY 9 1 84) (by kernel_rfl) fun f st Q h=>bx_loop h
noncomputable def lookK(g:Nat)(lk:Nat→Trans→Trans)(args:List V)(st:St)(R:V→St→Prop):Prop:=fnK Tryd.prog (cqT Tryd.prog T1 9 10) (KG Tryd.prog T1 9 10) lk g args st R
theorem lookK_ok{g:Nat}{lk:Nat→Trans→Trans}{args:List V}{st:St}{R:V→St→Prop}(hl:aZ Tryd.prog st.length lk g)(h:lookK g lk args st R):FnSat Tryd.prog g args st R:=
 fE bL (gd bL T1_ok 9 10) (iy bL T1_ok 10) hl h
def bJ:List V:=a9 fun _=>0
theorem blk_tree(BL:List V→Nat→Nat→Nat→List V→Nat→Int)(la:List V)(off c z:Nat)(R:V→St→Prop):lookK 84 (lk74G BL) [.slice 0 off 64 false c z] [.ro false la] R=
  (
 Fits 1 [.slice 0 off 64 false c z,.ptr 1 0,.int i64 0] [.ro false la,.row bJ 108 64] [some (.slice 0 off 64 false c z),some (.ptr 1 0),some
 (.int i64 0)] [.ro false la,.row bJ 108 64]∧bif fJ {la:=la,off:=off,c:=c,z:=z,ws:=bJ,j:=0}then R (.agg (a9 (BL la
 off 64 0 bJ))) [.ro false la,.row (a9 (BL la off 64 0 bJ)) 108 64]else False):=by kernel_rfl
noncomputable def blkG:List V→St→Option (List (Bool×(V×St)))
 |[.slice 0 off 64 false c z],[.ro false la]=>some [(okB la off,(.agg (a9 (blkF la off 64 0 bJ)),[]))]
 |_,_=>none
theorem blk_ok(args:List V)(s:St)(l:List (Bool×(V×St)))(v:V)(n:St)(h:blkG args s=some l)(ho:bo l=some (v,n)):(∀b∈s,ai b.cs=true)∧FnSat Tryd.prog 84 args s (fun u st=>Fits 0 [v] n [some u] st):=by
 unfold blkG at h;split at h
 ·rename_i off c z la;cases h;cases hk:okB la off with
  |false=>rw[hk]at ho;cases ho
  |true=>
   rw[hk]at ho;cases ho;refine⟨by simp[Blk.cs,fA hk],lookK_ok (lk:=lk74G blkF) lk74_ok ?_⟩;rw[blk_tree];refine⟨j6 la (fA hk) off c z bJ rfl 0,aa ?_ ?_⟩
   ·unfold fJ;rw[Bool.and_eq_true,Bool.and_eq_true,Bool.and_eq_true];exact⟨hk,rfl,rfl,rfl⟩
   ·exact⟨[],[.agg (a9 (blkF la off 64 0 bJ))],rfl,rfl,FitsM.of trivial,by simp,fun i hi=>by omega⟩
 ·cases h
end Go.Proofs.YtnenadbbhdcaoaaDoor
namespace Go.Proofs.YtnenadbbhdcaoaaDoor
open Go Go.Vm Go.RowKit
set_option linter.unusedVariables false
set_option maxRecDepth 100000
set_option linter.unusedSectionVars false
variable [Φ:Frz]
noncomputable def T3:Tab:=⟨noT,noL,dA 9⟩
theorem T3_ok:TabOk3 Tryd.prog T3:=⟨cK,cL,bE 9⟩
def okL(s:List UInt8):Bool:=decide ((s.length:Int)≤99999)
theorem okL_le{s:List UInt8}(h:okL s=true):(s.length:Int)≤99999:=of_decide_eq_true h
end Go.Proofs.YtnenadbbhdcaoaaDoor
namespace Go.Vm
open Go.RowKit
set_option linter.unusedSectionVars false
variable [Φ:Frz]
def bys(l:List UInt8):List V:=l.map fun b=>.int .u8 (b.toNat:Int)
theorem bys_len(l:List UInt8):(bys l).length=l.length:=by unfold bys;rw[List.length_map]
theorem bys_flat:∀l:List UInt8,ai (bys l)=true
 |[]=>rfl
 |c::r=>by
  have ih:=bys_flat r;unfold bys at ih ⊢;rw[List.map_cons,ai,ih];rfl
theorem fb{σ:List Nat}{st:St}{c:Nat}{cs:List V}{t:TypeId}{sz:Nat}(h:ai cs=true)(hc:st[c]?=some (.row cs t sz)):Blk.row cs t sz=.dead∨∃b',FitB σ (.row cs t sz) b'∧st[c]?=some b':=
 .inr ⟨.row cs t sz,.inl (by simp only[renB,bA _ h]),hc⟩
end Go.Vm
namespace Go.Vm
open Go.RowKit
set_option linter.unusedSectionVars false
variable [Φ:Frz]
theorem bys_ln(o:List UInt8):(List.map (fun b:UInt8=>V.int .u8 (b.toNat:Int)) o).length=o.length:=List.length_map ..
end Go.Vm
namespace Go.Proofs.YtnenadbbhdcaoaaDoor
open Go.IntKind (u8 u16 u32 u64 i8 i16 i32 i64)
open Go Go.Vm Go.RowKit
set_option linter.unusedVariables false
set_option maxRecDepth 100000
set_option linter.unusedSectionVars false
variable [Φ:Frz]
def mixTG(OK:List V→Bool)(M:W8→List V→W8):List V→Option (List (Bool×(V×St)))
 |[.agg [.int .u32 a,.int .u32 b,.int .u32 c,.int .u32 d,.int .u32 e,.int .u32 f,.int .u32 g,.int .u32 h],.agg ws]=>some [(OK ws,(.agg (M ⟨a,b,c,d,e,f,g,h⟩ ws).cells,[]))]
 |_=>none
def blkTG(OB:List V→Nat→Bool)(BL:List V→Nat→Nat→Int):List V→St→Option (List (Bool×(V×St)))
 |[.slice 0 off 64 false c z],[.ro false la]=>some [(OB la off,(.agg (a9 (BL la off)),[]))]
 |_,_=>none
noncomputable def TD(OK:List V→Bool)(M:W8→List V→W8)(OB:List V→Nat→Bool)(BL:List V→Nat→Nat→Int):Tab:=⟨addT noT 83 (mixTG OK M),addM noL 84 (blkTG OB BL),dA 10⟩
theorem d1_round(s:List UInt8)(cs v:List V)(k:Nat)(R:Exit→List (Option V)→St→Prop):aS Tryd.prog T3 9 10 (az 9) 40 60 [0,3,4] [.str s,.ptr 0 0,.slice 1 0 k false 0 0] [.row v 104 8,.row cs 5 1] R=
  (
 bif (↑k:Int).tmod 64!=56 then bif cs.length.beq (k*1)then bif (k+1).ble 9223372036854775807&&((k+1)*1).ble 140737488355328 then R .normal [some (.str
 s),some (.ptr 0 0),some (.slice 3 0 (k+1) false 0 0)] [.row v 104 8,.dead,.row [.int u8 0] 5 1,.row (cs++[V.int u8 0]) 5 1]else
 False else False else R (.exit 0) [some (.str s),some (.ptr 0 0),some (.slice 1 0 k false 0 0)] [.row v 104 8,.row cs 5 1]):=by kernel_rfl
noncomputable def zd_0(BL:List V→Nat→Nat→Int)(la:List V)(off:Nat):=[V.int u32 (BL la (off+0) 0),V.int u32 (BL la (off+0) 1),V.int u32 (BL la (off+0) 2),V.int u32 (BL la (off+0) 3),V.int u32 (BL la (off+0) 4),V.int u32 (BL la (off+0) 5),V.int u32 (BL la (off+0) 6),V.int u32 (BL la (off+0) 7),V.int u32 (BL la (off+0) 8),V.int u32 (BL la (off+0) 9),V.int u32 (BL la (off+0) 10),V.int u32 (BL la (off+0) 11),V.int u32 (BL la (off+0) 12),V.int u32 (BL la (off+0) 13),V.int u32 (BL la (off+0) 14),V.int u32 (BL la (off+0) 15),V.int u32 (BL la (off+0) 16),V.int u32 (BL la (off+0) 17),V.int u32 (BL la (off+0) 18),V.int u32 (BL la (off+0) 19),V.int u32 (BL la (off+0) 20),V.int u32 (BL la (off+0) 21),V.int u32 (BL la (off+0) 22),V.int u32 (BL la (off+0) 23),V.int u32 (BL la (off+0) 24),V.int u32 (BL la (off+0) 25),V.int u32 (BL la (off+0) 26),V.int u32 (BL la (off+0) 27),V.int u32 (BL la (off+0) 28),V.int u32 (BL la (off+0) 29),V.int u32 (BL la (off+0) 30),V.int u32 (BL la (off+0) 31),V.int u32 (BL la (off+0) 32),V.int u32 (BL la (off+0) 33),V.int u32 (BL la (off+0) 34),V.int u32 (BL la (off+0) 35),V.int u32 (BL la (off+0) 36),V.int u32 (BL la (off+0) 37),V.int u32 (BL la (off+0) 38),V.int u32 (BL la (off+0) 39),V.int u32 (BL la (off+0) 40),V.int u32 (BL la (off+0) 41),V.int u32 (BL la (off+0) 42),V.int u32 (BL la (off+0) 43),V.int u32 (BL la (off+0) 44),V.int u32 (BL la (off+0) 45),V.int u32 (BL la (off+0) 46),V.int u32 (BL la (off+0) 47),V.int u32 (BL la (off+0) 48),V.int u32 (BL la (off+0) 49),V.int u32 (BL la (off+0) 50),V.int u32 (BL la (off+0) 51),V.int u32 (BL la (off+0) 52),V.int u32 (BL la (off+0) 53),V.int u32 (BL la (off+0) 54),V.int u32 (BL la (off+0) 55),V.int u32 (BL la (off+0) 56),V.int u32 (BL la (off+0) 57),V.int u32 (BL la (off+0) 58),V.int u32 (BL la (off+0) 59),V.int u32 (BL la (off+0) 60),V.int u32 (BL la (off+0) 61),V.int u32 (BL la (off+0) 62),V.int u32 (BL la (off+0) 63)]
theorem d3_round(OK:List V→Bool)(M:W8→List V→W8)(OB:List V→Nat→Bool)(BL:List V→Nat→Nat→Int)(a b c d e f g h:Int)(la:List V)(off len cc z:Nat)(R:Exit→List (Option V)→St→Prop):aS Tryd.prog (TD OK M OB BL) 10 10 (az 10) 40 508 [3,4] [.ptr 0 0,.slice 1 off len false cc z] [.row [.int .u32 a,.int .u32 b,.int .u32 c,.int .u32 d,.int .u32 e,.int .u32 f,.int .u32 g,.int .u32 h] 104 8,.row la 5 1] R=
 (
 bif decide ((↑len:Int)>0)then bif true&&Nat.ble 64 len then bif OB la (off+0)then bif OK (zd_0 BL la off)then bif Nat.ble 64 len&&len.ble len then R
 .normal [some (.ptr 0 0),some (.slice 1 (off+64) (len-64) false (if false=true then cc-64 else cc+64) (if 64=0 then z else off))] [.row
 [.int u32 (M {a:=a,b:=b,c:=c,d:=d,e:=e,f:=f,g:=g,h:=h} (zd_0 BL la off)).a,.int u32 (M
 {a:=a,b:=b,c:=c,d:=d,e:=e,f:=f,g:=g,h:=h} (zd_0 BL la off)).b,.int u32 (M
 {a:=a,b:=b,c:=c,d:=d,e:=e,f:=f,g:=g,h:=h} (zd_0 BL la off)).c,.int u32 (M
 {a:=a,b:=b,c:=c,d:=d,e:=e,f:=f,g:=g,h:=h} (zd_0 BL la off)).d,.int u32 (M
 {a:=a,b:=b,c:=c,d:=d,e:=e,f:=f,g:=g,h:=h} (zd_0 BL la off)).e,.int u32 (M
 {a:=a,b:=b,c:=c,d:=d,e:=e,f:=f,g:=g,h:=h} (zd_0 BL la off)).f,.int u32 (M
 {a:=a,b:=b,c:=c,d:=d,e:=e,f:=f,g:=g,h:=h} (zd_0 BL la off)).g,.int u32 (M
 {a:=a,b:=b,c:=c,d:=d,e:=e,f:=f,g:=g,h:=h} (zd_0 BL la off)).h] 104 8,.row la 5 1]else False else False else False else False else R
 (.exit 4) [some (.ptr 0 0),some (.slice 1 off len false cc z)] [.row [.int u32 a,.int u32 b,.int u32 c,.int u32
 d,.int u32 e,.int u32 f,.int u32 g,.int u32 h] 104 8,.row la 5 1]):=by kernel_rfl
theorem ey:∀{l r:List V},ai l=true→ai r=true→ai (l++r)=true
 |[],r,_,h=>h
 |v::l,r,h1,h2=>by
  rw[ai,Bool.and_eq_true]at h1;rw[List.cons_append,ai,Bool.and_eq_true];exact⟨h1.1,ey h1.2 h2⟩
def ivW:W8:=⟨1779033703,3144134277,1013904242,2773480762,1359893119,2600822924,528734635,1541459225⟩
structure DX where
 s:List UInt8
 cs:List V
def dxV(x:DX):List V:=[.str x.s,.ptr 0 0,.slice 1 0 x.cs.length false 0 0]
def dxJ(x:DX):St:=[.row ivW.cells 104 8,.row x.cs 5 1]
def dxN(n:Nat):Nat:=(120-n%64)%64
def gy(x:DX):Bool:=ai x.cs&&Nat.ble (x.cs.length+dxN x.cs.length) 1000000
def dxMu(x:DX):Nat:=dxN x.cs.length
def dxP(cs:List V):List V:=cs++List.replicate (dxN cs.length) (.int .u8 0)
def dxDec:List (Option V)→St→Option DX
 |[some (.str s),some (.ptr 0 0),some (.slice 3 0 _ false 0 0)],[_,_,_,.row cs _ _]=>some ⟨s,cs⟩
 |_,_=>none
def dxOutG(FP:List V→List V):Asks DX:=fun x K=>∀p:List V,p=FP x.cs→K (.exit 0) [.str x.s,.ptr 0 0,.slice 1 0 p.length false 0 0] [.row ivW.cells 104 8,.row p 5 1]
theorem jZ(s:List UInt8)(cs:List V)(hf:ai cs=true)(k c:Nat)(st:St)(h0:st[0]?=some (.row ivW.cells 104 8))(hc:st[c]?=some (.row cs 5 1))(hc0:c≠0):Fits 0 [.str s,.ptr 0 0,.slice 1 0 k false 0 0] [.row ivW.cells 104 8,.row cs 5 1] [some (.str s),some (.ptr 0 0),some (.slice c 0 k false 0 0)] st:=
 ⟨[0,c],[.str s,.ptr 0 0,.slice c 0 k false 0 0],rfl,rfl,FitsM.of ⟨.inr ⟨_,.inl rfl,h0⟩,fb hf hc,trivial⟩,by simp;omega,fun i hi=>by omega⟩
theorem dx_roundOk(x:DX)(hx:gy x=true):aS Tryd.prog T3 9 10 (az 9) 40 60 [0,3,4] (dxV x) (dxJ x) (bk 0 gy dxV dxJ dxMu (dxOutG dxP) x):=by
 obtain⟨s,cs⟩:=x;unfold gy at hx;rw[Bool.and_eq_true]at hx;have p1:ai cs=true:=hx.1;have p2:cs.length+dxN cs.length≤1000000:=Nat.le_of_ble_eq_true hx.2;show aS Tryd.prog T3 9 10 (az 9) 40 60 [0,3,4] [.str s,.ptr 0 0,.slice 1 0 cs.length false 0 0] [.row ivW.cells 104 8,.row cs 5 1] _;generalize hn:cs.length=n at*
 rw[d1_round];have hm:(n:Int).tmod 64=((n%64:Nat):Int):=by rw[Int.tmod_eq_emod_of_nonneg (by omega)];omega
 rw[hm];refine cZ (fun h=>?_) (fun h=>?_)
 ·have h:n%64≠56:=by
   intro h0;rw[h0]at h;simp at h
  have p3:dxN n=dxN (n+1)+1:=by unfold dxN;omega
  refine aa (by rw[Nat.mul_one,hn];exact Nat.beq_refl _) (aa (by rw[Bool.and_eq_true];exact⟨Nat.ble_eq_true_of_le (by omega),Nat.ble_eq_true_of_le (by omega)⟩) ?_);have hl:(cs++[V.int .u8 0]).length=n+1:=by rw[List.length_append,hn];rfl
  have hf:ai (cs++[V.int .u8 0])=true:=ey p1 rfl;refine⟨⟨s,cs++[.int .u8 0]⟩,?_,?_,?_,fun K hK=>?_⟩
  ·unfold gy;rw[Bool.and_eq_true];refine⟨hf,Nat.ble_eq_true_of_le ?_⟩;show(cs++[V.int .u8 0]).length+dxN (cs++[V.int .u8 0]).length≤1000000;rw[hl];omega
  ·show Fits 0 [.str s,.ptr 0 0,.slice 1 0 (cs++[V.int .u8 0]).length false 0 0] [.row ivW.cells 104 8,.row (cs++[V.int .u8 0]) 5 1] _ _;rw[hl];exact jZ s _ hf _ 3 _ rfl rfl (by omega)
  ·show dxN (cs++[V.int .u8 0]).length<dxN cs.length;rw[hl,hn];omega
  ·have hK:∀p:List V,p=dxP cs→K (.exit 0) [.str s,.ptr 0 0,.slice 1 0 p.length false 0 0] [.row ivW.cells 104 8,.row p 5 1]:=hK;have:dxP (cs++[.int .u8 0])=dxP cs:=by
    unfold dxP;rw[hl,hn,List.append_assoc];rw[p3,List.replicate_succ];rfl
   exact fun p hp=>hK p (hp.trans this)
 ·have h:n%64=56:=by
   have:((n%64:Nat):Int)=56:=by simpa using h
   omega
  refine⟨[.str s,.ptr 0 0,.slice 1 0 n false 0 0],[.row ivW.cells 104 8,.row cs 5 1],fun K hK=>?_,jZ s _ p1 _ 1 _ rfl rfl (by omega)⟩;have hK:∀p:List V,p=dxP cs→K (.exit 0) [.str s,.ptr 0 0,.slice 1 0 p.length false 0 0] [.row ivW.cells 104 8,.row p 5 1]:=hK;have:dxP cs=cs:=by
   unfold dxP;have:dxN cs.length=0:=by rw[hn];unfold dxN;omega
   rw[this,List.replicate_zero,List.append_nil]
  have hK:=hK cs this.symm;rw[hn]at hK;exact hK
def okM(ws:List V):Bool:=aV ws&&Nat.beq ws.length 64
def blkA(la:List V)(off:Nat):Nat→Int:=blkF la off 64 0 bJ
theorem TD_ok:TabOk3 Tryd.prog (TD okM mixE okB blkA):=⟨eB cK mix_ok,ke cL blk_ok,bE 10⟩
def sumL:Nat→Nat→List V→W8→W8
 |0,_,_,x=>x
 |n+1,off,la,x=>sumL n (off+64) la (mixE x (a9 (blkA la off)))
structure D3 where
 la:List V
 x:W8
 off:Nat
 len:Nat
 cc:Nat
 z:Nat
def okA(la:List V):Bool:=ai la&&la.all (ag .u8)
def d3V(y:D3):List V:=[.ptr 0 0,.slice 1 y.off y.len false y.cc y.z]
def d3J(y:D3):St:=[.row y.x.cells 104 8,.row y.la 5 1]
def gz(y:D3):Bool:=okA y.la&&(Nat.beq (y.off+y.len) y.la.length&&Nat.beq (y.len%64) 0)
def d3Mu(y:D3):Nat:=y.len
def d3OutG(SL:Nat→Nat→List V→W8→W8):Asks D3:=fun y K=>∀x:W8,x=SL (y.len/64) y.off y.la y.x→∀o c z:Nat,K (.exit 4) [.ptr 0 0,.slice 1 o 0 false c z] [.row x.cells 104 8,.dead]
theorem okA_B{la:List V}{off:Nat}(h:okA la=true)(hl:off+64≤la.length):okB la off=true:=by
 unfold okA at h;rw[Bool.and_eq_true]at h;unfold okB;rw[Bool.and_eq_true,Bool.and_eq_true];refine⟨h.1,Nat.ble_eq_true_of_le hl,?_⟩;rw[List.all_eq_true];intro v hv;exact List.all_eq_true.1 h.2 v (List.mem_of_mem_drop (List.mem_of_mem_take hv))
theorem d3_fits(x:W8)(la:List V)(hf:ai la=true)(o l c z:Nat):Fits 0 [.ptr 0 0,.slice 1 o l false c z] [.row x.cells 104 8,.row la 5 1] [some (.ptr 0 0),some (.slice 1 o l false c z)] [.row x.cells 104 8,.row la 5 1]:=
 ⟨[0,1],[.ptr 0 0,.slice 1 o l false c z],rfl,rfl,FitsM.of ⟨fb rfl rfl,fb hf rfl,trivial⟩,by decide,fun i hi=>by omega⟩
theorem d3_out(x:W8)(la:List V)(o l c z:Nat):Fits 0 [.ptr 0 0,.slice 1 o l false c z] [.row x.cells 104 8,.dead] [some (.ptr 0 0),some (.slice 1 o l false c z)] [.row x.cells 104 8,.row la 5 1]:=
 ⟨[0,1],[.ptr 0 0,.slice 1 o l false c z],rfl,rfl,FitsM.of ⟨fb rfl rfl,.inl rfl,trivial⟩,by decide,fun i hi=>by omega⟩
theorem d3_roundOk(y:D3)(hy:gz y=true):aS Tryd.prog (TD okM mixE okB blkA) 10 10 (az 10) 40 508 [3,4] (d3V y) (d3J y) (bk 0 gz d3V d3J d3Mu (d3OutG sumL) y):=by
 obtain⟨la,x,off,len,cc,z⟩:=y;unfold gz at hy;rw[Bool.and_eq_true,Bool.and_eq_true]at hy;have p1:okA la=true:=hy.1;have p2:off+len=la.length:=Nat.eq_of_beq_eq_true hy.2.1;have p3:len%64=0:=Nat.eq_of_beq_eq_true hy.2.2;have hf:ai la=true:=by have h:=p1;unfold okA at h;rw[Bool.and_eq_true]at h;exact h.1
 show aS Tryd.prog (TD okM mixE okB blkA) 10 10 (az 10) 40 508 [3,4] [.ptr 0 0,.slice 1 off len false cc z] [.row [.int .u32 x.a,.int .u32 x.b,.int .u32 x.c,.int .u32 x.d,.int .u32 x.e,.int .u32 x.f,.int .u32 x.g,.int .u32 x.h] 104 8,.row la 5 1] _;rw[d3_round];unfold zd_0;refine cZ (fun hb=>?_) (fun hb=>?_)
 ·have hl:64≤len:=by have:=of_decide_eq_true hb;omega
  have hle:Nat.ble 64 len=true:=Nat.ble_eq_true_of_le hl;refine aa (by rw[hle];rfl) (aa (okA_B p1 (by omega)) (aa rfl (aa (by rw[hle,Bool.true_and];exact Nat.ble_eq_true_of_le (Nat.le_refl _)) ?_)));refine⟨⟨la,mixE x (a9 (blkA la off)),off+64,len-64,cc+64,off⟩,?_,d3_fits (mixE x (a9 (blkA la off))) la hf _ _ _ _,by simp only[d3Mu];omega,fun K hK=>?_⟩
  ·unfold gz;rw[Bool.and_eq_true,Bool.and_eq_true];refine⟨p1,?_,?_⟩
   ·show Nat.beq (off+64+(len-64)) la.length=true;have:off+64+(len-64)=la.length:=by omega
    rw[this];exact Nat.beq_refl _
   ·show Nat.beq ((len-64)%64) 0=true;have:(len-64)%64=0:=by omega
    rw[this];rfl
  ·have hK:∀x':W8,x'=sumL (len/64) off la x→∀o c z:Nat,K (.exit 4) [.ptr 0 0,.slice 1 o 0 false c z] [.row x'.cells 104 8,.dead]:=hK;have e:len/64=(len-64)/64+1:=by omega
   rw[e]at hK;exact hK
 ·have hl:len=0:=by have:=of_decide_eq_false hb;omega
  subst hl;refine⟨[.ptr 0 0,.slice 1 off 0 false cc z],[.row x.cells 104 8,.dead],fun K hK=>?_,d3_out x la _ _ _ _⟩;have hK:∀x':W8,x'=sumL (0/64) off la x→∀o c z:Nat,K (.exit 4) [.ptr 0 0,.slice 1 o 0 false c z] [.row x'.cells 104 8,.dead]:=hK;rw[Nat.zero_div]at hK;exact hK x rfl off cc z
theorem dx_loop{f:Fr}{st:St}{Q:Exit→Fr→St→Prop}(h:cN 0 (szOf Tryd.prog 40) [0,3,4] dxDec gy dxV dxJ (dxOutG dxP) f st Q):CodeSatW Tryd.prog none 0 (.loop (bX Tryd.prog 40 60)) f st Q:=
 cH (P:=Tryd.prog) (T:=T3) (k:=0) (lim:=9) (n:=10) (g:=40) (p0:=60) (lk:=az 9) bL T3_ok (bq 9 _ _) dxMu dx_roundOk h
def d3Dec:List (Option V)→St→Option D3
 |[some (.ptr 0 0),some (.slice b 0 len false 0 0)],.row [.int .u32 a1,.int .u32 a2,.int .u32 a3,.int .u32 a4,.int .u32 a5,.int .u32 a6,.int .u32 a7,.int .u32 a8] t sz::r=>match(Blk.dead::r)[b]? with
  |some (.row la _ _)=>some ⟨la,⟨a1,a2,a3,a4,a5,a6,a7,a8⟩,0,len,0,0⟩
  |_=>none
 |_,_=>none
theorem d3_loop{f:Fr}{st:St}{Q:Exit→Fr→St→Prop}(h:cN 0 (szOf Tryd.prog 40) [3,4] d3Dec gz d3V d3J (d3OutG sumL) f st Q):CodeSatW Tryd.prog none 0 (.loop (bX Tryd.prog 40 508)) f st Q:=
 cH (P:=Tryd.prog) (T:=TD okM mixE okB blkA) (k:=0) (lim:=10) (n:=10) (g:=40) (p0:=508) (lk:=az 10) bL TD_ok (bq 10 _ _) d3Mu d3_roundOk h
noncomputable def lk23(FP:List V→List V)(SL:Nat→Nat→List V→W8→W8):Nat→Trans→Trans:=bM 508 (cN 0 (szOf Tryd.prog 40) [3,4] d3Dec gz d3V d3J (d3OutG SL)) (bM 60 (cN 0 (szOf Tryd.prog 40) [0,3,4] dxDec gy dxV dxJ (dxOutG FP)) (az 10))
theorem lk23_ok:aZ Tryd.prog 0 (lk23 dxP sumL) 40:=by
 unfold lk23;exact ew (ew (cY 10 0 40) (by kernel_rfl) fun f st Q h=>dx_loop h) (by kernel_rfl) fun f st Q h=>d3_loop h
noncomputable def TD2(FP:List V→List V)(SL:Nat→Nat→List V→W8→W8):Tab:=⟨noT,noL,addLk (dA 10) 40 0 (lk23 FP SL)⟩
theorem TD2_ok:TabOk3 Tryd.prog (TD2 dxP sumL):=⟨cK,cL,iw (bE 10) lk23_ok⟩
noncomputable def zd_1(s:List UInt8):=(u64.wrap (u64.wrap (↑s.length:Int)*8))
noncomputable def zd_2:=[V.int u32 1779033703,V.int u32 3144134277,V.int u32 1013904242,V.int u32 2773480762,V.int u32 1359893119,V.int u32 2600822924,V.int u32 528734635,V.int u32 1541459225]
noncomputable def zd_3(s:List UInt8):=[V.int u8 (u8.wrap ((zd_1 s).fdiv 72057594037927936))]
noncomputable def zd_4(s:List UInt8):=[V.int u8 (u8.wrap ((zd_1 s).fdiv 281474976710656))]
noncomputable def zd_5(s:List UInt8):=[V.int u8 (u8.wrap ((zd_1 s).fdiv 1099511627776))]
noncomputable def zd_6(s:List UInt8):=[V.int u8 (u8.wrap ((zd_1 s).fdiv 4294967296))]
noncomputable def zd_7(s:List UInt8):=[V.int u8 (u8.wrap ((zd_1 s).fdiv 16777216))]
noncomputable def zd_8(s:List UInt8):=[V.int u8 (u8.wrap ((zd_1 s).fdiv 65536))]
noncomputable def zd_9(s:List UInt8):=[V.int u8 (u8.wrap ((zd_1 s).fdiv 256))]
noncomputable def iF(s:List UInt8):=[V.int u8 (u8.wrap ((zd_1 s).fdiv 1))]
theorem sum_tree(FP:List V→List V)(SL:Nat→Nat→List V→W8→W8)(s:List UInt8)(R:V→Prop):runW Tryd.prog (TD2 FP SL) 10 10 40 [.str s] R=
 (
 bif s.length.ble 281474976710656 then bif (List.map (fun b=>V.int u8 (↑b.toNat:Int)) s).length.beq (s.length*1)then bif (s.length+1).ble
 9223372036854775807&&((s.length+1)*1).ble 140737488355328 then Fits 0 [.str s,.ptr 0 0,.slice 1 0 (List.map (fun b=>V.int u8 (↑b.toNat:
 Int)) s++[V.int u8 128]).length false 0 0] [.row zd_2 104 8,.row (List.map (fun b=>V.int u8 (↑b.toNat:Int)) s++[V.int u8
 128]) 5 1] [some (.str s),some (.ptr 0 0),some (.slice 3 0 (s.length+1) false 0 0)] [.row zd_2 104 8,.dead,.row [.int u8 128] 5 1,
 .row (List.map (fun b=>V.int u8 (↑b.toNat:Int)) s++[V.int u8 128]) 5 1]∧bif gy
 {s:=s,cs:=List.map (fun b=>V.int u8 (↑b.toNat:Int)) s++[V.int u8 128]}then ∀(p:List V),p=FP (List.map (fun b=>V.int
 u8 (↑b.toNat:Int)) s++[V.int u8 128])→bif p.length.beq (p.length*1)then bif (p.length+1).ble 9223372036854775807&&((p.length+1)*
 1).ble 140737488355328 then bif (p++(zd_3 s)).length.beq ((p.length+1)*1)then bif (p.length+1+1).ble 9223372036854775807&&((p.length+1+1)*
 1).ble 140737488355328 then bif (p++(zd_3 s)++(zd_4 s)).length.beq ((p.length+1+1)*1)then bif (p.length+1+1+1).ble 9223372036854775807&&
 ((p.length+1+1+1)*1).ble 140737488355328 then bif (p++(zd_3 s)++(zd_4 s)++(zd_5 s)).length.beq ((p.length+1+1+1)*1)then bif (p.length+1
 +1+1+1).ble 9223372036854775807&&((p.length+1+1+1+1)*1).ble 140737488355328 then bif (p++(zd_3 s)++(zd_4 s)++(zd_5 s)++(zd_6
 s)).length.beq ((p.length+1+1+1+1)*1)then bif (p.length+1+1+1+1+1).ble 9223372036854775807&&((p.length+1+1+1+1+1)*1).ble
 140737488355328 then bif (p++(zd_3 s)++(zd_4 s)++(zd_5 s)++(zd_6 s)++(zd_7 s)).length.beq ((p.length+1+1+1+1+1)*1)then bif (p.length+1+
 1+1+1+1+1).ble 9223372036854775807&&((p.length+1+1+1+1+1+1)*1).ble 140737488355328 then bif (p++(zd_3 s)++(zd_4 s)++(zd_5 s)++
 (zd_6 s)++(zd_7 s)++(zd_8 s)).length.beq ((p.length+1+1+1+1+1+1)*1)then bif (p.length+1+1+1+1+1+1+1).ble 9223372036854775807&&
 ((p.length+1+1+1+1+1+1+1)*1).ble 140737488355328 then bif (p++(zd_3 s)++(zd_4 s)++(zd_5 s)++(zd_6 s)++(zd_7 s)++(zd_8 s)++(zd_9
 s)).length.beq ((p.length+1+1+1+1+1+1+1)*1)then bif (p.length+1+1+1+1+1+1+1+1).ble 9223372036854775807&&((p.length+1+1+1
 +1+1+1+1+1)*1).ble 140737488355328 then Fits 0 [.ptr 0 0,.slice 1 0 (p.length+1+1+1+1+1+1+1+1) false 0 0] [.row zd_2 104 8,
 .row (p++(zd_3 s)++(zd_4 s)++(zd_5 s)++(zd_6 s)++(zd_7 s)++(zd_8 s)++(zd_9 s)++(iF s)) 5 1] [some (.ptr 0 0),some (.slice 17 0 (p.length
 +1+1+1+1+1+1+1+1) false 0 0)] [.row zd_2 104 8,.dead,.row (zd_3 s) 5 1,.dead,.row (zd_4 s) 5 1,.dead,.row (zd_5 s) 5 1,
 .dead,.row (zd_6 s) 5 1,.dead,.row (zd_7 s) 5 1,.dead,.row (zd_8 s) 5 1,.dead,.row (zd_9 s) 5 1,.dead,.row (iF s) 5 1,
 .row (p++(zd_3 s)++(zd_4 s)++(zd_5 s)++(zd_6 s)++(zd_7 s)++(zd_8 s)++(zd_9 s)++(iF s)) 5 1]∧bif gz
 {la:=p++(zd_3 s)++(zd_4 s)++(zd_5 s)++(zd_6 s)++(zd_7 s)++(zd_8 s)++(zd_9 s)++(iF s),x:={a:=1779033703,b:=3144134277,c:=1013904242,d:=2773480762,e:=1359893119,f:=2600822924,g:=528734635,h:=1541459225},off:=0,len:=p.length+1+1+1+1+1+1+1+1,cc:=0,z:=0}
 then ∀(x:W8),x=SL ((p.length+1+1+1+1+1+1+1+1)/64) 0 (p++(zd_3 s)++(zd_4 s)++(zd_5 s)++(zd_6 s)++(zd_7 s)++(zd_8 s)++(zd_9
 s)++(iF s)) {a:=1779033703,b:=3144134277,c:=1013904242,d:=2773480762,e:=1359893119,f:=2600822924,g:=528734635,h:=1541459225}→∀(o
 c z:Nat),R (.str (List.map Vm.byteOf [.int u8 (u8.wrap (x.a.fdiv 16777216)),.int u8 (u8.wrap (x.a.fdiv 65536)),.int
 u8 (u8.wrap (x.a.fdiv 256)),.int u8 (u8.wrap x.a),.int u8 (u8.wrap (x.b.fdiv 16777216)),.int u8
 (u8.wrap (x.b.fdiv 65536)),.int u8 (u8.wrap (x.b.fdiv 256)),.int u8 (u8.wrap x.b),.int u8 (u8.wrap
 (x.c.fdiv 16777216)),.int u8 (u8.wrap (x.c.fdiv 65536)),.int u8 (u8.wrap (x.c.fdiv 256)),.int u8 (u8.wrap
 x.c),.int u8 (u8.wrap (x.d.fdiv 16777216)),.int u8 (u8.wrap (x.d.fdiv 65536)),.int u8 (u8.wrap (x.d.fdiv
 256)),.int u8 (u8.wrap x.d),.int u8 (u8.wrap (x.e.fdiv 16777216)),.int u8 (u8.wrap (x.e.fdiv 65536)),.int
 u8 (u8.wrap (x.e.fdiv 256)),.int u8 (u8.wrap x.e),.int u8 (u8.wrap (x.f.fdiv 16777216)),.int u8
 (u8.wrap (x.f.fdiv 65536)),.int u8 (u8.wrap (x.f.fdiv 256)),.int u8 (u8.wrap x.f),.int u8 (u8.wrap
 (x.g.fdiv 16777216)),.int u8 (u8.wrap (x.g.fdiv 65536)),.int u8 (u8.wrap (x.g.fdiv 256)),.int u8 (u8.wrap
 x.g),.int u8 (u8.wrap (x.h.fdiv 16777216)),.int u8 (u8.wrap (x.h.fdiv 65536)),.int u8 (u8.wrap (x.h.fdiv
 256)),.int u8 (u8.wrap x.h)]))else False else False else False else False else False else False else False else False else False else False
 else False else False else False else False else False else False else False else False else False else False else False):=by kernel_rfl
theorem aK{o:List V}{k:Nat}{A:Prop}(h:o.length=k)(hk:k≤2000000)(hA:A):must (Nat.beq o.length (k*1)) (must ((k+1).ble 9223372036854775807&&((k+1)*1).ble 140737488355328) A):=by
 refine aa (by rw[h,Nat.mul_one];exact Nat.beq_refl _) (aa ?_ hA);rw[Bool.and_eq_true];exact⟨Nat.ble_eq_true_of_le (by omega),Nat.ble_eq_true_of_le (by omega)⟩
theorem ae{o:List V}{k:Nat}{v:V}(h:o.length=k):(o++[v]).length=k+1:=by rw[List.length_append,h];rfl
def lenD(n:Nat)(k:Int):V:=.int .u8 (u8.wrap ((u64.wrap (u64.wrap (n:Int)*8)).fdiv k))
def la8(p:List V)(n:Nat):List V:=((((((((p++[lenD n 72057594037927936])++[lenD n 281474976710656])++[lenD n 1099511627776])++[lenD n 4294967296])++[lenD n 16777216])++[lenD n 65536])++[lenD n 256])++[lenD n 1])
def outW(x:W8):List V:=[V.int .u8 (u8.wrap (x.a.fdiv 16777216)),V.int .u8 (u8.wrap (x.a.fdiv 65536)),V.int .u8 (u8.wrap (x.a.fdiv 256)),V.int .u8 (u8.wrap x.a),V.int .u8 (u8.wrap (x.b.fdiv 16777216)),V.int .u8 (u8.wrap (x.b.fdiv 65536)),V.int .u8 (u8.wrap (x.b.fdiv 256)),V.int .u8 (u8.wrap x.b),V.int .u8 (u8.wrap (x.c.fdiv 16777216)),V.int .u8 (u8.wrap (x.c.fdiv 65536)),V.int .u8 (u8.wrap (x.c.fdiv 256)),V.int .u8 (u8.wrap x.c),V.int .u8 (u8.wrap (x.d.fdiv 16777216)),V.int .u8 (u8.wrap (x.d.fdiv 65536)),V.int .u8 (u8.wrap (x.d.fdiv 256)),V.int .u8 (u8.wrap x.d),V.int .u8 (u8.wrap (x.e.fdiv 16777216)),V.int .u8 (u8.wrap (x.e.fdiv 65536)),V.int .u8 (u8.wrap (x.e.fdiv 256)),V.int .u8 (u8.wrap x.e),V.int .u8 (u8.wrap (x.f.fdiv 16777216)),V.int .u8 (u8.wrap (x.f.fdiv 65536)),V.int .u8 (u8.wrap (x.f.fdiv 256)),V.int .u8 (u8.wrap x.f),V.int .u8 (u8.wrap (x.g.fdiv 16777216)),V.int .u8 (u8.wrap (x.g.fdiv 65536)),V.int .u8 (u8.wrap (x.g.fdiv 256)),V.int .u8 (u8.wrap x.g),V.int .u8 (u8.wrap (x.h.fdiv 16777216)),V.int .u8 (u8.wrap (x.h.fdiv 65536)),V.int .u8 (u8.wrap (x.h.fdiv 256)),V.int .u8 (u8.wrap x.h)]
def padP(s:List UInt8):List V:=dxP (bys s++[V.int .u8 128])
def sumW(s:List UInt8):W8:=sumL (((padP s).length+1+1+1+1+1+1+1+1)/64) 0 (la8 (padP s) s.length) ivW
def sumF(s:List UInt8):List UInt8:=(outW (sumW s)).map Vm.byteOf
def sumT:List V→Option (List (Bool×(V×St)))
 |[.str s]=>some [(okL s,(.str (sumF s),[]))]
 |_=>none
theorem d3_fitsN(la:List V)(hf:ai la=true)(l c:Nat)(st:St)(h0:st[0]?=some (.row ivW.cells 104 8))(hc:st[c]?=some (.row la 5 1))(hc0:c≠0):Fits 0 [.ptr 0 0,.slice 1 0 l false 0 0] [.row ivW.cells 104 8,.row la 5 1] [some (.ptr 0 0),some (.slice c 0 l false 0 0)] st:=
 ⟨[0,c],[.ptr 0 0,.slice c 0 l false 0 0],rfl,rfl,FitsM.of ⟨.inr ⟨_,.inl rfl,h0⟩,fb hf hc,trivial⟩,by simp;omega,fun i hi=>by omega⟩
theorem okA_bys(s:List UInt8):okA (bys s)=true:=by
 unfold okA;rw[Bool.and_eq_true];refine⟨bys_flat s,?_⟩;unfold bys;rw[List.all_map,List.all_eq_true];intro b _;rfl
theorem aN{l r:List V}(h1:okA l=true)(h2:okA r=true):okA (l++r)=true:=by
 unfold okA at*
 rw[Bool.and_eq_true]at*
 exact⟨ey h1.1 h2.1,by rw[List.all_append,h1.2,h2.2];rfl⟩
theorem okA_rep(n:Nat):okA (List.replicate n (.int .u8 0))=true:=by
 induction n with
 |zero=>rfl
 |succ n ih=>rw[List.replicate_succ];exact aN (l:=[.int .u8 0]) rfl ih
theorem sum_ok(args:List V)(l:List (Bool×(V×St)))(o:V×St)(h:sumT args=some l)(ho:bo l=some o):FnSat Tryd.prog 40 args [] (Is o):=by
 unfold sumT at h;split at h
 ·rename_i s;cases h;cases hk:okL s with
  |false=>rw[hk]at ho;cases ho
  |true=>
  rw[hk]at ho;cases ho;have p1:=okL_le hk;have hc:okA (bys s++[V.int .u8 128])=true:=aN (okA_bys s) rfl;have hcl:(bys s++[V.int .u8 128]).length=s.length+1:=ae (bys_len s);have hP:okA (padP s)=true:=aN hc (okA_rep _);have hPl:(padP s).length=s.length+1+dxN (s.length+1):=by unfold padP dxP;rw[List.length_append,List.length_replicate,hcl]
  have hN:dxN (s.length+1)<64:=by unfold dxN;omega
  have hM:(padP s).length%64=56:=by rw[hPl];unfold dxN;omega
  refine fw (lim:=10) (n:=10) bL TD2_ok rfl rfl ?_;rw[sum_tree];unfold iF zd_9 zd_8 zd_7 zd_6 zd_5 zd_4 zd_3 zd_2 zd_1;refine aa (Nat.ble_eq_true_of_le (by omega)) (aK (bys_ln s) (by omega) ⟨?_,aa ?_ (fun p hp=>?_)⟩)
  ·have:=jZ s (bys s++[V.int .u8 128]) (by have h:=hc;unfold okA at h;rw[Bool.and_eq_true]at h;exact h.1) (bys s++[V.int .u8 128]).length 3;have hcl2:(List.map (fun b:UInt8=>V.int .u8 (b.toNat:Int)) s++[V.int .u8 128]).length=s.length+1:=hcl;rw[hcl2];rw[hcl]at this;exact this _ rfl rfl (by omega)
  ·unfold gy;rw[Bool.and_eq_true];refine⟨by have h:=hc;unfold okA at h;rw[Bool.and_eq_true]at h;exact h.1,Nat.ble_eq_true_of_le ?_⟩;show(bys s++[V.int .u8 128]).length+dxN (bys s++[V.int .u8 128]).length≤1000000;rw[hcl];omega
  ·have hp:p=padP s:=hp;have hl:p.length≤200000:=by rw[hp];omega
   have hA:okA (la8 p s.length)=true:=by
    rw[hp];unfold la8;exact aN (aN (aN (aN (aN (aN (aN (aN hP rfl) rfl) rfl) rfl) rfl) rfl) rfl) rfl
   have hF:ai (la8 p s.length)=true:=by have h:=hA;unfold okA at h;rw[Bool.and_eq_true]at h;exact h.1
   have hL:(la8 p s.length).length=p.length+1+1+1+1+1+1+1+1:=ae (ae (ae (ae (ae (ae (ae (ae rfl)))))));refine aK rfl (by omega) (aK (ae rfl) (by omega) (aK (ae (ae rfl)) (by omega) (aK (ae (ae (ae rfl))) (by omega) (aK (ae (ae (ae (ae rfl)))) (by omega) (aK (ae (ae (ae (ae (ae rfl))))) (by omega) (aK (ae (ae (ae (ae (ae (ae rfl)))))) (by omega) (aK (ae (ae (ae (ae (ae (ae (ae rfl))))))) (by omega) (?_))))))));refine⟨?_,aa ?_ (fun x hx o c z=>?_)⟩
   ·exact d3_fitsN (la8 p s.length) hF _ _ _ rfl rfl (by omega)
   ·unfold gz;rw[Bool.and_eq_true,Bool.and_eq_true];refine⟨hA,?_,?_⟩
    ·show Nat.beq (0+(p.length+1+1+1+1+1+1+1+1)) (la8 p s.length).length=true;rw[hL,Nat.zero_add];exact Nat.beq_refl _
    ·show Nat.beq ((p.length+1+1+1+1+1+1+1+1)%64) 0=true;have:(p.length+1+1+1+1+1+1+1+1)%64=0:=by rw[hp];omega
     rw[this];rfl
   ·have hx:x=sumW s:=by rw[hx,hp];rfl
    rw[hx];rfl
 ·cases h
noncomputable def RS0:Tab:=⟨noT,noL,dA 18⟩
theorem kf:TabOk3 Tryd.prog RS0:=⟨cK,cL,bE 18⟩
theorem rrot_tree(x n:Int)(R:V→Prop):runW Tryd.prog RS0 9 10 87 [.int .u32 x,.int .u64 n] R=
  (
 bif decide (0≤n)then bif decide (0≤u64.wrap (32-n))then R (.int u32 (u32.wrap (↑(BitVec.ofInt 32 (x.fdiv (2^min n.toNat 32))|||
 BitVec.ofInt 32 (u32.wrap (x*2^min (u64.wrap (32-n)).toNat 32))).toNat:Int)))else False else False):=by kernel_rfl
noncomputable def lookR(g:Nat)(lk:Nat→Trans→Trans)(args:List V)(st:St)(R:V→St→Prop):Prop:=fnK Tryd.prog (cqT Tryd.prog RS0 9 10) (KG Tryd.prog RS0 9 10) lk g args st R
theorem lookR_ok{g:Nat}{lk:Nat→Trans→Trans}{args:List V}{st:St}{R:V→St→Prop}(hl:aZ Tryd.prog st.length lk g)(h:lookR g lk args st R):FnSat Tryd.prog g args st R:=
 fE bL (gd bL kf 9 10) (iy bL kf 10) hl h
theorem rwds_tree(la:List V)(off c z:Nat)(R:V→St→Prop):lookR 86 (az 18) [.slice 0 off 64 false c z] [.ro false la] (fun u st=>R u (vis u st))=
  (
 bif (off+0).blt la.length then bif ag u8 (la.getD (off+0) (.bool false))then bif (off+1).blt la.length then bif ag u8 (la.getD (off+1)
 (.bool false))then bif (off+2).blt la.length then bif ag u8 (la.getD (off+2) (.bool false))then bif (off+3).blt la.length then bif ag u8
 (la.getD (off+3) (.bool false))then bif (off+4).blt la.length then bif ag u8 (la.getD (off+4) (.bool false))then bif (off+5).blt la.length then
 bif ag u8 (la.getD (off+5) (.bool false))then bif (off+6).blt la.length then bif ag u8 (la.getD (off+6) (.bool false))then bif (off+
 7).blt la.length then bif ag u8 (la.getD (off+7) (.bool false))then bif (off+8).blt la.length then bif ag u8 (la.getD (off+8) (.bool
 false))then bif (off+9).blt la.length then bif ag u8 (la.getD (off+9) (.bool false))then bif (off+10).blt la.length then bif ag u8
 (la.getD (off+10) (.bool false))then bif (off+11).blt la.length then bif ag u8 (la.getD (off+11) (.bool false))then bif (off+12).blt la.length
 then bif ag u8 (la.getD (off+12) (.bool false))then bif (off+13).blt la.length then bif ag u8 (la.getD (off+13) (.bool false))then bif
 (off+14).blt la.length then bif ag u8 (la.getD (off+14) (.bool false))then bif (off+15).blt la.length then bif ag u8 (la.getD (off+15)
 (.bool false))then bif (off+16).blt la.length then bif ag u8 (la.getD (off+16) (.bool false))then bif (off+17).blt la.length then bif ag
 u8 (la.getD (off+17) (.bool false))then bif (off+18).blt la.length then bif ag u8 (la.getD (off+18) (.bool false))then bif (off+19).blt
 la.length then bif ag u8 (la.getD (off+19) (.bool false))then bif (off+20).blt la.length then bif ag u8 (la.getD (off+20) (.bool false))
 then bif (off+21).blt la.length then bif ag u8 (la.getD (off+21) (.bool false))then bif (off+22).blt la.length then bif ag u8 (la.getD
 (off+22) (.bool false))then bif (off+23).blt la.length then bif ag u8 (la.getD (off+23) (.bool false))then bif (off+24).blt la.length then bif
 ag u8 (la.getD (off+24) (.bool false))then bif (off+25).blt la.length then bif ag u8 (la.getD (off+25) (.bool false))then bif (off+
 26).blt la.length then bif ag u8 (la.getD (off+26) (.bool false))then bif (off+27).blt la.length then bif ag u8 (la.getD (off+27) (.bool
 false))then bif (off+28).blt la.length then bif ag u8 (la.getD (off+28) (.bool false))then bif (off+29).blt la.length then bif ag u8
 (la.getD (off+29) (.bool false))then bif (off+30).blt la.length then bif ag u8 (la.getD (off+30) (.bool false))then bif (off+31).blt la.length
 then bif ag u8 (la.getD (off+31) (.bool false))then bif (off+32).blt la.length then bif ag u8 (la.getD (off+32) (.bool false))then bif
 (off+33).blt la.length then bif ag u8 (la.getD (off+33) (.bool false))then bif (off+34).blt la.length then bif ag u8 (la.getD (off+34)
 (.bool false))then bif (off+35).blt la.length then bif ag u8 (la.getD (off+35) (.bool false))then bif (off+36).blt la.length then bif ag
 u8 (la.getD (off+36) (.bool false))then bif (off+37).blt la.length then bif ag u8 (la.getD (off+37) (.bool false))then bif (off+38).blt
 la.length then bif ag u8 (la.getD (off+38) (.bool false))then bif (off+39).blt la.length then bif ag u8 (la.getD (off+39) (.bool false))
 then bif (off+40).blt la.length then bif ag u8 (la.getD (off+40) (.bool false))then bif (off+41).blt la.length then bif ag u8 (la.getD
 (off+41) (.bool false))then bif (off+42).blt la.length then bif ag u8 (la.getD (off+42) (.bool false))then bif (off+43).blt la.length then bif
 ag u8 (la.getD (off+43) (.bool false))then bif (off+44).blt la.length then bif ag u8 (la.getD (off+44) (.bool false))then bif (off+
 45).blt la.length then bif ag u8 (la.getD (off+45) (.bool false))then bif (off+46).blt la.length then bif ag u8 (la.getD (off+46) (.bool
 false))then bif (off+47).blt la.length then bif ag u8 (la.getD (off+47) (.bool false))then bif (off+48).blt la.length then bif ag u8
 (la.getD (off+48) (.bool false))then bif (off+49).blt la.length then bif ag u8 (la.getD (off+49) (.bool false))then bif (off+50).blt la.length
 then bif ag u8 (la.getD (off+50) (.bool false))then bif (off+51).blt la.length then bif ag u8 (la.getD (off+51) (.bool false))then bif
 (off+52).blt la.length then bif ag u8 (la.getD (off+52) (.bool false))then bif (off+53).blt la.length then bif ag u8 (la.getD (off+53)
 (.bool false))then bif (off+54).blt la.length then bif ag u8 (la.getD (off+54) (.bool false))then bif (off+55).blt la.length then bif ag
 u8 (la.getD (off+55) (.bool false))then bif (off+56).blt la.length then bif ag u8 (la.getD (off+56) (.bool false))then bif (off+57).blt
 la.length then bif ag u8 (la.getD (off+57) (.bool false))then bif (off+58).blt la.length then bif ag u8 (la.getD (off+58) (.bool false))
 then bif (off+59).blt la.length then bif ag u8 (la.getD (off+59) (.bool false))then bif (off+60).blt la.length then bif ag u8 (la.getD
 (off+60) (.bool false))then bif (off+61).blt la.length then bif ag u8 (la.getD (off+61) (.bool false))then bif (off+62).blt la.length then bif
 ag u8 (la.getD (off+62) (.bool false))then bif (off+63).blt la.length then bif ag u8 (la.getD (off+63) (.bool false))then R (.slice 32
 0 16 false 0 0) [.dead,.dead,.dead,.dead,.dead,.dead,.dead,.dead,.dead,.dead,.dead,.dead,.dead,.dead,.dead,
 .dead,.dead,.dead,.dead,.dead,.dead,.dead,.dead,.dead,.dead,.dead,.dead,.dead,.dead,.dead,.dead,.dead,
 .row [.int u32 (u32.wrap (↑(BitVec.ofInt 32 (u32.wrap (↑(BitVec.ofInt 32 (u32.wrap (↑(BitVec.ofInt 32 (u32.wrap
 (u32.wrap (af (la.getD (off+0) (.bool false)))*16777216))|||BitVec.ofInt 32 (u32.wrap (u32.wrap (af (la.getD (off+1) (.bool
 false)))*65536))).toNat:Int))|||BitVec.ofInt 32 (u32.wrap (u32.wrap (af (la.getD (off+2) (.bool false)))*256))).toNat:Int))|||
 BitVec.ofInt 32 (u32.wrap (af (la.getD (off+3) (.bool false))))).toNat:Int)),.int u32 (u32.wrap (↑(BitVec.ofInt 32 (u32.wrap
 (↑(BitVec.ofInt 32 (u32.wrap (↑(BitVec.ofInt 32 (u32.wrap (u32.wrap (af (la.getD (off+4) (.bool false)))*16777216))|||BitVec.ofInt 32
 (u32.wrap (u32.wrap (af (la.getD (off+5) (.bool false)))*65536))).toNat:Int))|||BitVec.ofInt 32 (u32.wrap (u32.wrap (af
 (la.getD (off+6) (.bool false)))*256))).toNat:Int))|||BitVec.ofInt 32 (u32.wrap (af (la.getD (off+7) (.bool false))))).toNat:Int)),.int
 u32 (u32.wrap (↑(BitVec.ofInt 32 (u32.wrap (↑(BitVec.ofInt 32 (u32.wrap (↑(BitVec.ofInt 32 (u32.wrap (u32.wrap (af
 (la.getD (off+8) (.bool false)))*16777216))|||BitVec.ofInt 32 (u32.wrap (u32.wrap (af (la.getD (off+9) (.bool false)))*65536))).toNat:
 Int))|||BitVec.ofInt 32 (u32.wrap (u32.wrap (af (la.getD (off+10) (.bool false)))*256))).toNat:Int))|||BitVec.ofInt 32 (u32.wrap
 (af (la.getD (off+11) (.bool false))))).toNat:Int)),.int u32 (u32.wrap (↑(BitVec.ofInt 32 (u32.wrap (↑(BitVec.ofInt 32
 (u32.wrap (↑(BitVec.ofInt 32 (u32.wrap (u32.wrap (af (la.getD (off+12) (.bool false)))*16777216))|||BitVec.ofInt 32 (u32.wrap
 (u32.wrap (af (la.getD (off+13) (.bool false)))*65536))).toNat:Int))|||BitVec.ofInt 32 (u32.wrap (u32.wrap (af (la.getD (off+
 14) (.bool false)))*256))).toNat:Int))|||BitVec.ofInt 32 (u32.wrap (af (la.getD (off+15) (.bool false))))).toNat:Int)),.int u32
 (u32.wrap (↑(BitVec.ofInt 32 (u32.wrap (↑(BitVec.ofInt 32 (u32.wrap (↑(BitVec.ofInt 32 (u32.wrap (u32.wrap (af (la.getD (off+
 16) (.bool false)))*16777216))|||BitVec.ofInt 32 (u32.wrap (u32.wrap (af (la.getD (off+17) (.bool false)))*65536))).toNat:Int))|||
 BitVec.ofInt 32 (u32.wrap (u32.wrap (af (la.getD (off+18) (.bool false)))*256))).toNat:Int))|||BitVec.ofInt 32 (u32.wrap (af
 (la.getD (off+19) (.bool false))))).toNat:Int)),.int u32 (u32.wrap (↑(BitVec.ofInt 32 (u32.wrap (↑(BitVec.ofInt 32 (u32.wrap
 (↑(BitVec.ofInt 32 (u32.wrap (u32.wrap (af (la.getD (off+20) (.bool false)))*16777216))|||BitVec.ofInt 32 (u32.wrap (u32.wrap
 (af (la.getD (off+21) (.bool false)))*65536))).toNat:Int))|||BitVec.ofInt 32 (u32.wrap (u32.wrap (af (la.getD (off+22) (.bool false)))
 *256))).toNat:Int))|||BitVec.ofInt 32 (u32.wrap (af (la.getD (off+23) (.bool false))))).toNat:Int)),.int u32 (u32.wrap
 (↑(BitVec.ofInt 32 (u32.wrap (↑(BitVec.ofInt 32 (u32.wrap (↑(BitVec.ofInt 32 (u32.wrap (u32.wrap (af (la.getD (off+24) (.bool
 false)))*16777216))|||BitVec.ofInt 32 (u32.wrap (u32.wrap (af (la.getD (off+25) (.bool false)))*65536))).toNat:Int))|||BitVec.ofInt 32
 (u32.wrap (u32.wrap (af (la.getD (off+26) (.bool false)))*256))).toNat:Int))|||BitVec.ofInt 32 (u32.wrap (af (la.getD (off+27)
 (.bool false))))).toNat:Int)),.int u32 (u32.wrap (↑(BitVec.ofInt 32 (u32.wrap (↑(BitVec.ofInt 32 (u32.wrap (↑(BitVec.ofInt 32
 (u32.wrap (u32.wrap (af (la.getD (off+28) (.bool false)))*16777216))|||BitVec.ofInt 32 (u32.wrap (u32.wrap (af (la.getD
 (off+29) (.bool false)))*65536))).toNat:Int))|||BitVec.ofInt 32 (u32.wrap (u32.wrap (af (la.getD (off+30) (.bool false)))*256))).toNat:
 Int))|||BitVec.ofInt 32 (u32.wrap (af (la.getD (off+31) (.bool false))))).toNat:Int)),.int u32 (u32.wrap (↑(BitVec.ofInt 32
 (u32.wrap (↑(BitVec.ofInt 32 (u32.wrap (↑(BitVec.ofInt 32 (u32.wrap (u32.wrap (af (la.getD (off+32) (.bool false)))*16777216))
 |||BitVec.ofInt 32 (u32.wrap (u32.wrap (af (la.getD (off+33) (.bool false)))*65536))).toNat:Int))|||BitVec.ofInt 32 (u32.wrap
 (u32.wrap (af (la.getD (off+34) (.bool false)))*256))).toNat:Int))|||BitVec.ofInt 32 (u32.wrap (af (la.getD (off+35) (.bool
 false))))).toNat:Int)),.int u32 (u32.wrap (↑(BitVec.ofInt 32 (u32.wrap (↑(BitVec.ofInt 32 (u32.wrap (↑(BitVec.ofInt 32
 (u32.wrap (u32.wrap (af (la.getD (off+36) (.bool false)))*16777216))|||BitVec.ofInt 32 (u32.wrap (u32.wrap (af (la.getD
 (off+37) (.bool false)))*65536))).toNat:Int))|||BitVec.ofInt 32 (u32.wrap (u32.wrap (af (la.getD (off+38) (.bool false)))*256))).toNat:
 Int))|||BitVec.ofInt 32 (u32.wrap (af (la.getD (off+39) (.bool false))))).toNat:Int)),.int u32 (u32.wrap (↑(BitVec.ofInt 32
 (u32.wrap (↑(BitVec.ofInt 32 (u32.wrap (↑(BitVec.ofInt 32 (u32.wrap (u32.wrap (af (la.getD (off+40) (.bool false)))*16777216))
 |||BitVec.ofInt 32 (u32.wrap (u32.wrap (af (la.getD (off+41) (.bool false)))*65536))).toNat:Int))|||BitVec.ofInt 32 (u32.wrap
 (u32.wrap (af (la.getD (off+42) (.bool false)))*256))).toNat:Int))|||BitVec.ofInt 32 (u32.wrap (af (la.getD (off+43) (.bool
 false))))).toNat:Int)),.int u32 (u32.wrap (↑(BitVec.ofInt 32 (u32.wrap (↑(BitVec.ofInt 32 (u32.wrap (↑(BitVec.ofInt 32
 (u32.wrap (u32.wrap (af (la.getD (off+44) (.bool false)))*16777216))|||BitVec.ofInt 32 (u32.wrap (u32.wrap (af (la.getD
 (off+45) (.bool false)))*65536))).toNat:Int))|||BitVec.ofInt 32 (u32.wrap (u32.wrap (af (la.getD (off+46) (.bool false)))*256))).toNat:
 Int))|||BitVec.ofInt 32 (u32.wrap (af (la.getD (off+47) (.bool false))))).toNat:Int)),.int u32 (u32.wrap (↑(BitVec.ofInt 32
 (u32.wrap (↑(BitVec.ofInt 32 (u32.wrap (↑(BitVec.ofInt 32 (u32.wrap (u32.wrap (af (la.getD (off+48) (.bool false)))*16777216))
 |||BitVec.ofInt 32 (u32.wrap (u32.wrap (af (la.getD (off+49) (.bool false)))*65536))).toNat:Int))|||BitVec.ofInt 32 (u32.wrap
 (u32.wrap (af (la.getD (off+50) (.bool false)))*256))).toNat:Int))|||BitVec.ofInt 32 (u32.wrap (af (la.getD (off+51) (.bool
 false))))).toNat:Int)),.int u32 (u32.wrap (↑(BitVec.ofInt 32 (u32.wrap (↑(BitVec.ofInt 32 (u32.wrap (↑(BitVec.ofInt 32
 (u32.wrap (u32.wrap (af (la.getD (off+52) (.bool false)))*16777216))|||BitVec.ofInt 32 (u32.wrap (u32.wrap (af (la.getD
 (off+53) (.bool false)))*65536))).toNat:Int))|||BitVec.ofInt 32 (u32.wrap (u32.wrap (af (la.getD (off+54) (.bool false)))*256))).toNat:
 Int))|||BitVec.ofInt 32 (u32.wrap (af (la.getD (off+55) (.bool false))))).toNat:Int)),.int u32 (u32.wrap (↑(BitVec.ofInt 32
 (u32.wrap (↑(BitVec.ofInt 32 (u32.wrap (↑(BitVec.ofInt 32 (u32.wrap (u32.wrap (af (la.getD (off+56) (.bool false)))*16777216))
 |||BitVec.ofInt 32 (u32.wrap (u32.wrap (af (la.getD (off+57) (.bool false)))*65536))).toNat:Int))|||BitVec.ofInt 32 (u32.wrap
 (u32.wrap (af (la.getD (off+58) (.bool false)))*256))).toNat:Int))|||BitVec.ofInt 32 (u32.wrap (af (la.getD (off+59) (.bool
 false))))).toNat:Int)),.int u32 (u32.wrap (↑(BitVec.ofInt 32 (u32.wrap (↑(BitVec.ofInt 32 (u32.wrap (↑(BitVec.ofInt 32
 (u32.wrap (u32.wrap (af (la.getD (off+60) (.bool false)))*16777216))|||BitVec.ofInt 32 (u32.wrap (u32.wrap (af (la.getD
 (off+61) (.bool false)))*65536))).toNat:Int))|||BitVec.ofInt 32 (u32.wrap (u32.wrap (af (la.getD (off+62) (.bool false)))*256))).toNat:
 Int))|||BitVec.ofInt 32 (u32.wrap (af (la.getD (off+63) (.bool false))))).toNat:Int))] 103 1]else False else False else False else False else False
 else False else False else False else False else False else False else False else False else False else False else False else False else False else False else False else
 False else False else False else False else False else False else False else False else False else False else False else False else False else False else False else False
 else False else False else False else False else False else False else False else False else False else False else False else False else False else False else False else
 False else False else False else False else False else False else False else False else False else False else False else False else False else False else False else False
 else False else False else False else False else False else False else False else False else False else False else False else False else False else False else False else
 False else False else False else False else False else False else False else False else False else False else False else False else False else False else False else False
 else False else False else False else False else False else False else False else False else False else False else False else False else False else False else False else
 False else False else False else False else False else False else False else False else False else False else False else False else False else False else False):=by kernel_rfl
theorem rot_u(x n:Int)(h0:0<n)(h1:n<32):rotI x n=u32.wrap (((BitVec.ofInt 32 (x.fdiv (2^min n.toNat 32))|||BitVec.ofInt 32 (u32.wrap (x*2^min (u64.wrap (32-n)).toNat 32))).toNat:Nat):Int):=by
 have hn:n=1∨n=2∨n=3∨n=4∨n=5∨n=6∨n=7∨n=8∨n=9∨n=10∨n=11∨n=12∨n=13∨n=14∨n=15∨n=16∨n=17∨n=18∨n=19∨n=20∨n=21∨n=22∨n=23∨n=24∨n=25∨n=26∨n=27∨n=28∨n=29∨n=30∨n=31:=by omega
 unfold rotI;rcases hn with h|h|h|h|h|h|h|h|h|h|h|h|h|h|h|h|h|h|h|h|h|h|h|h|h|h|h|h|h|h|h<;>(subst h;rw[BitVec.or_comm];rfl)
def rrotT(F:Int→Int→Int):List V→Option (List (Bool×(V×St)))
 |[.int .u32 x,.int .u64 n]=>some [(decide (0<n)&&decide (n<32),(.int .u32 (F x n),[]))]
 |_=>none
theorem rrot_ok(args:List V)(l:List (Bool×(V×St)))(o:V×St)(h:rrotT rotI args=some l)(ho:bo l=some o):FnSat Tryd.prog 87 args [] (Is o):=by
 unfold rrotT at h;split at h
 ·rename_i x n;cases h;cases hk:(decide (0<n)&&decide (n<32))with
  |false=>rw[hk]at ho;cases ho
  |true=>
  rw[hk]at ho;cases ho;rw[Bool.and_eq_true]at hk;have h0:=of_decide_eq_true hk.1;have h1:=of_decide_eq_true hk.2;refine fw (lim:=9) (n:=10) bL kf rfl rfl ?_;rw[rrot_tree];have h2:=IntWalk.u64_in (32-n) ⟨by omega,by omega⟩;rw[decide_eq_true (by omega:(0:Int)≤n),decide_eq_true (by rw[h2];omega:(0:Int)≤u64.wrap (32-n))];rw[cond_true,cond_true,rot_u x n h0 h1]
 ·cases h
def gM(W:Nat→Int):List V:=[.int .u32 (W 0),.int .u32 (W 1),.int .u32 (W 2),.int .u32 (W 3),.int .u32 (W 4),.int .u32 (W 5),.int .u32 (W 6),.int .u32 (W 7),.int .u32 (W 8),.int .u32 (W 9),.int .u32 (W 10),.int .u32 (W 11),.int .u32 (W 12),.int .u32 (W 13),.int .u32 (W 14),.int .u32 (W 15)]
def wdsT(OB:List V→Nat→Bool)(WB:List V→Nat→Nat→Int):List V→St→Option (List (Bool×(V×St)))
 |[.slice 0 off n false c z],[.ro false la]=>some [(Nat.beq n 64&&OB la off,(.slice 0 0 16 false 0 0,[.row (gM (WB la off)) 103 1]))]
 |_,_=>none
theorem wds_ok(args:List V)(s:St)(l:List (Bool×(V×St)))(v:V)(n:St)(h:wdsT okB di args s=some l)(ho:bo l=some (v,n)):(∀b∈s,ai b.cs=true)∧FnSat Tryd.prog 86 args s (fun u st=>Fits 0 [v] n [some u] st):=by
 unfold wdsT at h;split at h
 ·rename_i off m c z la;cases h;cases hk2:(Nat.beq m 64&&okB la off)with
  |false=>rw[hk2]at ho;cases ho
  |true=>
   rw[hk2]at ho;cases ho;rw[Bool.and_eq_true]at hk2;have hm:=Nat.eq_of_beq_eq_true hk2.1;have hk:=hk2.2;subst hm;refine⟨by simp[Blk.cs,fA hk],(lookR_ok (R:=fun u st=>Fits 0 [.slice 0 0 16 false 0 0] [.row (gM (di la off)) 103 1] [some u] (vis u st)) (lk:=az 18) (cY 18 1 _) ?_).mono fun u st hq=>fits_vis hq⟩;rw[rwds_tree];refine aa (ab (i:=0) hk (by decide)).1 (aa (ab (i:=0) hk (by decide)).2 ?_);refine aa (ab (i:=1) hk (by decide)).1 (aa (ab (i:=1) hk (by decide)).2 ?_);refine aa (ab (i:=2) hk (by decide)).1 (aa (ab (i:=2) hk (by decide)).2 ?_);refine aa (ab (i:=3) hk (by decide)).1 (aa (ab (i:=3) hk (by decide)).2 ?_);refine aa (ab (i:=4) hk (by decide)).1 (aa (ab (i:=4) hk (by decide)).2 ?_);refine aa (ab (i:=5) hk (by decide)).1 (aa (ab (i:=5) hk (by decide)).2 ?_);refine aa (ab (i:=6) hk (by decide)).1 (aa (ab (i:=6) hk (by decide)).2 ?_);refine aa (ab (i:=7) hk (by decide)).1 (aa (ab (i:=7) hk (by decide)).2 ?_);refine aa (ab (i:=8) hk (by decide)).1 (aa (ab (i:=8) hk (by decide)).2 ?_);refine aa (ab (i:=9) hk (by decide)).1 (aa (ab (i:=9) hk (by decide)).2 ?_);refine aa (ab (i:=10) hk (by decide)).1 (aa (ab (i:=10) hk (by decide)).2 ?_);refine aa (ab (i:=11) hk (by decide)).1 (aa (ab (i:=11) hk (by decide)).2 ?_);refine aa (ab (i:=12) hk (by decide)).1 (aa (ab (i:=12) hk (by decide)).2 ?_);refine aa (ab (i:=13) hk (by decide)).1 (aa (ab (i:=13) hk (by decide)).2 ?_);refine aa (ab (i:=14) hk (by decide)).1 (aa (ab (i:=14) hk (by decide)).2 ?_);refine aa (ab (i:=15) hk (by decide)).1 (aa (ab (i:=15) hk (by decide)).2 ?_);refine aa (ab (i:=16) hk (by decide)).1 (aa (ab (i:=16) hk (by decide)).2 ?_);refine aa (ab (i:=17) hk (by decide)).1 (aa (ab (i:=17) hk (by decide)).2 ?_);refine aa (ab (i:=18) hk (by decide)).1 (aa (ab (i:=18) hk (by decide)).2 ?_);refine aa (ab (i:=19) hk (by decide)).1 (aa (ab (i:=19) hk (by decide)).2 ?_);refine aa (ab (i:=20) hk (by decide)).1 (aa (ab (i:=20) hk (by decide)).2 ?_);refine aa (ab (i:=21) hk (by decide)).1 (aa (ab (i:=21) hk (by decide)).2 ?_);refine aa (ab (i:=22) hk (by decide)).1 (aa (ab (i:=22) hk (by decide)).2 ?_);refine aa (ab (i:=23) hk (by decide)).1 (aa (ab (i:=23) hk (by decide)).2 ?_);refine aa (ab (i:=24) hk (by decide)).1 (aa (ab (i:=24) hk (by decide)).2 ?_);refine aa (ab (i:=25) hk (by decide)).1 (aa (ab (i:=25) hk (by decide)).2 ?_);refine aa (ab (i:=26) hk (by decide)).1 (aa (ab (i:=26) hk (by decide)).2 ?_);refine aa (ab (i:=27) hk (by decide)).1 (aa (ab (i:=27) hk (by decide)).2 ?_);refine aa (ab (i:=28) hk (by decide)).1 (aa (ab (i:=28) hk (by decide)).2 ?_);refine aa (ab (i:=29) hk (by decide)).1 (aa (ab (i:=29) hk (by decide)).2 ?_);refine aa (ab (i:=30) hk (by decide)).1 (aa (ab (i:=30) hk (by decide)).2 ?_);refine aa (ab (i:=31) hk (by decide)).1 (aa (ab (i:=31) hk (by decide)).2 ?_);refine aa (ab (i:=32) hk (by decide)).1 (aa (ab (i:=32) hk (by decide)).2 ?_);refine aa (ab (i:=33) hk (by decide)).1 (aa (ab (i:=33) hk (by decide)).2 ?_);refine aa (ab (i:=34) hk (by decide)).1 (aa (ab (i:=34) hk (by decide)).2 ?_);refine aa (ab (i:=35) hk (by decide)).1 (aa (ab (i:=35) hk (by decide)).2 ?_);refine aa (ab (i:=36) hk (by decide)).1 (aa (ab (i:=36) hk (by decide)).2 ?_);refine aa (ab (i:=37) hk (by decide)).1 (aa (ab (i:=37) hk (by decide)).2 ?_);refine aa (ab (i:=38) hk (by decide)).1 (aa (ab (i:=38) hk (by decide)).2 ?_);refine aa (ab (i:=39) hk (by decide)).1 (aa (ab (i:=39) hk (by decide)).2 ?_);refine aa (ab (i:=40) hk (by decide)).1 (aa (ab (i:=40) hk (by decide)).2 ?_);refine aa (ab (i:=41) hk (by decide)).1 (aa (ab (i:=41) hk (by decide)).2 ?_);refine aa (ab (i:=42) hk (by decide)).1 (aa (ab (i:=42) hk (by decide)).2 ?_);refine aa (ab (i:=43) hk (by decide)).1 (aa (ab (i:=43) hk (by decide)).2 ?_);refine aa (ab (i:=44) hk (by decide)).1 (aa (ab (i:=44) hk (by decide)).2 ?_);refine aa (ab (i:=45) hk (by decide)).1 (aa (ab (i:=45) hk (by decide)).2 ?_);refine aa (ab (i:=46) hk (by decide)).1 (aa (ab (i:=46) hk (by decide)).2 ?_);refine aa (ab (i:=47) hk (by decide)).1 (aa (ab (i:=47) hk (by decide)).2 ?_);refine aa (ab (i:=48) hk (by decide)).1 (aa (ab (i:=48) hk (by decide)).2 ?_);refine aa (ab (i:=49) hk (by decide)).1 (aa (ab (i:=49) hk (by decide)).2 ?_);refine aa (ab (i:=50) hk (by decide)).1 (aa (ab (i:=50) hk (by decide)).2 ?_);refine aa (ab (i:=51) hk (by decide)).1 (aa (ab (i:=51) hk (by decide)).2 ?_);refine aa (ab (i:=52) hk (by decide)).1 (aa (ab (i:=52) hk (by decide)).2 ?_);refine aa (ab (i:=53) hk (by decide)).1 (aa (ab (i:=53) hk (by decide)).2 ?_);refine aa (ab (i:=54) hk (by decide)).1 (aa (ab (i:=54) hk (by decide)).2 ?_);refine aa (ab (i:=55) hk (by decide)).1 (aa (ab (i:=55) hk (by decide)).2 ?_);refine aa (ab (i:=56) hk (by decide)).1 (aa (ab (i:=56) hk (by decide)).2 ?_);refine aa (ab (i:=57) hk (by decide)).1 (aa (ab (i:=57) hk (by decide)).2 ?_);refine aa (ab (i:=58) hk (by decide)).1 (aa (ab (i:=58) hk (by decide)).2 ?_);refine aa (ab (i:=59) hk (by decide)).1 (aa (ab (i:=59) hk (by decide)).2 ?_);refine aa (ab (i:=60) hk (by decide)).1 (aa (ab (i:=60) hk (by decide)).2 ?_);refine aa (ab (i:=61) hk (by decide)).1 (aa (ab (i:=61) hk (by decide)).2 ?_);refine aa (ab (i:=62) hk (by decide)).1 (aa (ab (i:=62) hk (by decide)).2 ?_);refine aa (ab (i:=63) hk (by decide)).1 (aa (ab (i:=63) hk (by decide)).2 ?_);exact⟨[32],[.slice 32 0 16 false 0 0],rfl,rfl,FitsM.of ⟨fb rfl rfl,trivial⟩,by decide,fun i hi=>by omega⟩
 ·cases h
noncomputable def RS1(F:Int→Int→Int):Tab:=⟨addT noT 87 (rrotT F),noL,dA 9⟩
theorem RS1_ok:TabOk3 Tryd.prog (RS1 rotI):=⟨eB cK rrot_ok,cL,bE 9⟩
noncomputable def zf_1(ws:List V)(i:Int):=ws.getD (0+(i64.wrap (i-15)).toNat*1) (V.bool false)
noncomputable def zf_2(ws:List V)(i:Int):=ws.getD (0+(i64.wrap (i-2)).toNat*1) (V.bool false)
noncomputable def zf_0(F:Int→Int→Int)(ws:List V)(i:Int):=[V.int u32 (u32.wrap (u32.wrap (u32.wrap (af (ws.getD (0+(i64.wrap (i-16)).toNat*1) (V.bool false))+af (ws.getD (0+(i64.wrap (i-7)).toNat*1) (V.bool false)))+u32.wrap (↑(BitVec.ofInt 32 (u32.wrap (↑(BitVec.ofInt 32 (F (af (zf_1 ws i)) 7)^^^BitVec.ofInt 32 (F (af (zf_1 ws i)) 18)).toNat:Int))^^^BitVec.ofInt 32 ((af (zf_1 ws i)).fdiv 8)).toNat:Int))+u32.wrap (↑(BitVec.ofInt 32 (u32.wrap (↑(BitVec.ofInt 32 (F (af (zf_2 ws i)) 17)^^^BitVec.ofInt 32 (F (af (zf_2 ws i)) 19)).toNat:Int))^^^BitVec.ofInt 32 ((af (zf_2 ws i)).fdiv 1024)).toNat:Int)))]
theorem rsch_round(F:Int→Int→Int)(hs key p ws:List V)(pl nw:Nat)(from' i:Int)(R:Exit→List (Option V)→St→Prop):aS Tryd.prog (RS1 F) 9 10 (az 9) 41 129610 [3,4,5,7,8,9] [.slice 0 0 8 false 0 0,.slice 1 0 64 false 0 0,.slice 2 0 pl false 0 0,.int .i64 from',.slice 3 0 nw false 0 0,.int .i64 i] [.row hs 103 1,.row key 103 1,.row p 5 1,.row ws 103 1] R=
 (
 bif decide (i<64)then bif decide (0≤i64.wrap (i-15))&&decide (i64.wrap (i-15)<(↑nw:Int))then bif (0+(i64.wrap (i-
 15)).toNat*1).blt ws.length then bif ag u32 (zf_1 ws i)then bif decide (0≤i64.wrap (i-2))&&decide (i64.wrap (i-2)<(↑nw:
 Int))then bif (0+(i64.wrap (i-2)).toNat*1).blt ws.length then bif ag u32 (zf_2 ws i)then bif decide (0≤i64.wrap (i-16))
 &&decide (i64.wrap (i-16)<(↑nw:Int))then bif (0+(i64.wrap (i-16)).toNat*1).blt ws.length then bif ag u32 (ws.getD (0+
 (i64.wrap (i-16)).toNat*1) (.bool false))then bif decide (0≤i64.wrap (i-7))&&decide (i64.wrap (i-7)<(↑nw:Int))then bif
 (0+(i64.wrap (i-7)).toNat*1).blt ws.length then bif ag u32 (ws.getD (0+(i64.wrap (i-7)).toNat*1) (.bool false))then bif
 ws.length.beq (nw*1)then bif (nw+1).ble 9223372036854775807&&((nw+1)*4).ble 140737488355328 then R .normal [some (.slice 0 0 8 false 0 0),some
 (.slice 1 0 64 false 0 0),some (.slice 2 0 pl false 0 0),some (.int i64 from'),some (.slice 5 0 (nw+1) false 0 0),some (.int i64
 (i64.wrap (i+1)))] [.row hs 103 1,.row key 103 1,.row p 5 1,.dead,.row (zf_0 F ws i) 103 1,.row (ws++(zf_0 F ws i)) 103 1]
 else False else False else False else False else False else False else False else False else False else False else False else False else False else False else R
 (.exit 6) [some (.slice 0 0 8 false 0 0),some (.slice 1 0 64 false 0 0),some (.slice 2 0 pl false 0 0),some (.int i64 from'),some (.slice 3
 0 nw false 0 0),some (.int i64 i)] [.row hs 103 1,.row key 103 1,.row p 5 1,.row ws 103 1]):=by kernel_rfl
theorem fe:∀{ws:List V},aV ws=true→ai ws=true
 |[],_=>rfl
 |v::r,h=>by
  unfold aV at h;rw[List.all_cons,Bool.and_eq_true]at h;have ih:ai r=true:=fe (ws:=r) h.2;rw[ai,ih,Bool.and_true];cases v<;>simp[ag]at h;rfl
theorem jl{a b:List V}(h1:aV a=true)(h2:aV b=true):aV (a++b)=true:=by
 unfold aV at*
 rw[List.all_append,h1,h2];rfl
def schL:Nat→List V→List V
 |0,g=>g
 |n+1,g=>schL n (g++[.int .u32 (dt g g.length)])
theorem eR:∀(n:Nat) (g:List V),aV g=true→aV (schL n g)=true
 |0,_,h=>h
 |n+1,g,h=>eR n _ (jl h rfl)
theorem gQ:∀(n:Nat) (g:List V),(schL n g).length=g.length+n
 |0,_=>rfl
 |n+1,g=>by rw[schL,gQ n,List.length_append];simp;omega
theorem gC{ws:List V}{j k:Nat}(h:k<j):wI (ws.take j) k=wI ws k:=by
 unfold wI;rw[List.getD_eq_getElem?_getD,List.getD_eq_getElem?_getD,List.getElem?_take,if_pos h]
theorem sch_blk(la:List V)(off:Nat):∀(n j:Nat) (ws:List V),ws.length=64→j+n=64→16≤j→blkL la off n j ws=schL n (ws.take j)
 |0,j,ws,hl,hj,h16=>by
  rw[blkL,schL,List.take_of_length_le (by omega)]
 |n+1,j,ws,hl,hj,h16=>by
  have h2:(bP j [V.int .u32 (eD la off ws j)] ws).length=ws.length:=by
   unfold bP;simp only[List.length_append,List.length_take,List.length_drop,List.length_cons,List.length_nil];omega
  rw[blkL,schL,sch_blk la off n (j+1) _ (by omega) (by omega) (by omega)];have hlt:(ws.take j).length=j:=by rw[List.length_take];omega
  have h3:dt (ws.take j) (ws.take j).length=eD la off ws j:=by
   rw[hlt];unfold eD dt;rw[if_neg (by omega),gC (by omega),gC (by omega),gC (by omega),gC (by omega)]
  rw[h3];congr 1;unfold bP;rw[List.take_append_of_le_length (by simp;omega),List.take_of_length_le (by simp;omega)]
theorem blkL_add(la:List V)(off m:Nat):∀(n j:Nat) (ws:List V),blkL la off (n+m) j ws=blkL la off m (j+n) (blkL la off n j ws)
 |0,j,ws=>by rw[Nat.zero_add];rfl
 |n+1,j,ws=>by
  have e:n+1+m=(n+m)+1:=by omega
  have e2:j+(n+1)=j+1+n:=by omega
  rw[e,e2,blkL,blkL,blkL_add la off m n]
theorem blk_len(la:List V)(off:Nat):∀(n j:Nat) (ws:List V),ws.length=64→j+n≤64→(blkL la off n j ws).length=64
 |0,j,ws,hl,_=>hl
 |n+1,j,ws,hl,hj=>by
  rw[blkL];refine blk_len la off n (j+1) _ ?_ (by omega);unfold bP;simp only[List.length_append,List.length_take,List.length_drop,List.length_cons,List.length_nil];omega
theorem blk_take(la:List V)(off:Nat):∀(n j:Nat) (ws:List V),ws.length=64→j+n≤16→(blkL la off n j ws).take (j+n)=ws.take j++(List.range' j n).map (fun i=>V.int .u32 (di la off i))
 |0,j,ws,hl,_=>by rw[blkL,Nat.add_zero];simp
 |n+1,j,ws,hl,hj=>by
  have h2:(bP j [V.int .u32 (eD la off ws j)] ws).length=64:=by
   unfold bP;simp only[List.length_append,List.length_take,List.length_drop,List.length_cons,List.length_nil];omega
  have e:j+(n+1)=j+1+n:=by omega
  rw[blkL,e,blk_take la off n (j+1) _ h2 (by omega)];have h3:eD la off ws j=di la off j:=by unfold eD;rw[if_pos (by omega)]
  rw[h3,List.range'_succ,List.map_cons];unfold bP;rw[List.take_append_of_le_length (by simp;omega),List.take_of_length_le (by simp;omega)];simp
theorem blk_first(la:List V)(off:Nat):(blkL la off 16 0 bJ).take 16=gM (di la off):=by
 have h:=blk_take la off 16 0 bJ rfl (Nat.le_refl _);rw[Nat.zero_add]at h;rw[h];rfl
theorem iE(la:List V)(off:Nat):(blkL la off 16 0 bJ).length=64:=blk_len la off 16 0 bJ rfl (by decide)
theorem blk_sch(la:List V)(off:Nat):blkL la off 64 0 bJ=schL 48 (gM (di la off)):=by
 rw[blkL_add la off 48 16 0,sch_blk la off 48 (0+16) _ (iE la off) rfl (Nat.le_refl _),Nat.zero_add,blk_first]
theorem cells_sch{la:List V}{off:Nat}:a9 (blkA la off)=schL 48 (gM (di la off)):=by
 unfold blkA blkF;rw[blk_sch];exact iq (eR 48 _ rfl) (gQ 48 _)
structure SC where
 hs:List V
 key:List V
 p:List V
 pl:Nat
 fr:Int
 ws:List V
def scV(y:SC):List V:=[.slice 0 0 8 false 0 0,.slice 1 0 64 false 0 0,.slice 2 0 y.pl false 0 0,.int .i64 y.fr,.slice 3 0 y.ws.length false 0 0,.int .i64 y.ws.length]
def scJ(y:SC):St:=[.row y.hs 103 1,.row y.key 103 1,.row y.p 5 1,.row y.ws 103 1]
def gg(y:SC):Bool:=(ai y.hs&&ai y.key&&ai y.p)&&(aV y.ws&&(Nat.ble 16 y.ws.length&&Nat.ble y.ws.length 64))
def scMu(y:SC):Nat:=64-y.ws.length
def scOutG(SL:Nat→List V→List V):Asks SC:=fun y K=>∀g:List V,g=SL (64-y.ws.length) y.ws→K (.exit 6) [.slice 0 0 8 false 0 0,.slice 1 0 64 false 0 0,.slice 2 0 y.pl false 0 0,.int .i64 y.fr,.slice 3 0 64 false 0 0,.int .i64 64] [.row y.hs 103 1,.row y.key 103 1,.row y.p 5 1,.row g 103 1]
theorem jx{hs key p ws:List V}(h1:ai hs=true)(h2:ai key=true)(h3:ai p=true)(h4:aV ws=true){a b c d:Nat}{st:St}(g1:st[a]?=some (.row hs 103 1))(g2:st[b]?=some (.row key 103 1))(g3:st[c]?=some (.row p 5 1))(g4:st[d]?=some (.row ws 103 1))(hd:[a,b,c,d].Nodup)(pl nw:Nat)(fr i:Int):
  Fits 0 [.slice 0 0 8 false 0 0,.slice 1 0 64 false 0 0,.slice 2 0 pl false 0 0,.int .i64 fr,.slice 3 0 nw false 0 0,.int .i64 i] [.row hs 103 1,.row key 103 1,.row p 5 1,.row ws 103 1]
   [some (.slice a 0 8 false 0 0),some (.slice b 0 64 false 0 0),some (.slice c 0 pl false 0 0),some (.int .i64 fr),some (.slice d 0 nw false 0 0),some (.int .i64 i)] st:=
 ⟨[a,b,c,d],[.slice a 0 8 false 0 0,.slice b 0 64 false 0 0,.slice c 0 pl false 0 0,.int .i64 fr,.slice d 0 nw false 0 0,.int .i64 i],rfl,rfl,FitsM.of ⟨fb h1 g1,fb h2 g2,fb h3 g3,fb (fe h4) g4,trivial⟩,hd,fun i hi=>by omega⟩
theorem sc_roundOk(y:SC)(hy:gg y=true):aS Tryd.prog (RS1 rotI) 9 10 (az 9) 41 129610 [3,4,5,7,8,9] (scV y) (scJ y) (bk 0 gg scV scJ scMu (scOutG schL) y):=by
 obtain⟨hs,key,p,pl,fr,ws⟩:=y;unfold gg at hy;rw[Bool.and_eq_true,Bool.and_eq_true,Bool.and_eq_true,Bool.and_eq_true,Bool.and_eq_true]at hy;have h1:ai hs=true:=hy.1.1.1;have h2:ai key=true:=hy.1.1.2;have h3:ai p=true:=hy.1.2;have h4:aV ws=true:=hy.2.1;have h5:16≤ws.length:=Nat.le_of_ble_eq_true hy.2.2.1;have h6:ws.length≤64:=Nat.le_of_ble_eq_true hy.2.2.2;clear hy;show aS Tryd.prog (RS1 rotI) 9 10 (az 9) 41 129610 [3,4,5,7,8,9] [.slice 0 0 8 false 0 0,.slice 1 0 64 false 0 0,.slice 2 0 pl false 0 0,.int .i64 fr,.slice 3 0 ws.length false 0 0,.int .i64 ws.length] [.row hs 103 1,.row key 103 1,.row p 5 1,.row ws 103 1] _;rw[rsch_round];unfold zf_0 zf_2 zf_1;cases hb:decide ((ws.length:Int)<64)with
 |true=>
  have hj:ws.length<64:=by have:=of_decide_eq_true hb;omega
  have w15:i64.wrap ((ws.length:Int)-15)=((ws.length-15:Nat):Int):=by rw[IntWalk.i64_in _ ⟨by omega,by omega⟩];omega
  have w2:i64.wrap ((ws.length:Int)-2)=((ws.length-2:Nat):Int):=by rw[IntWalk.i64_in _ ⟨by omega,by omega⟩];omega
  have w16:i64.wrap ((ws.length:Int)-16)=((ws.length-16:Nat):Int):=by rw[IntWalk.i64_in _ ⟨by omega,by omega⟩];omega
  have w7:i64.wrap ((ws.length:Int)-7)=((ws.length-7:Nat):Int):=by rw[IntWalk.i64_in _ ⟨by omega,by omega⟩];omega
  have e1:i64.wrap ((ws.length:Int)+1)=((ws.length+1:Nat):Int):=by rw[IntWalk.i64_in _ ⟨by omega,by omega⟩];omega
  rw[w15,w2,w16,w7,e1];simp only[Int.toNat_natCast];have s0:∀i:Nat,0+i*1=i:=fun i=>by omega
  simp only[s0];rw[cond_true];have k:∀i:Nat,i<ws.length→(decide ((0:Int)≤(i:Int))&&decide ((i:Int)<(ws.length:Int)))=true:=fun i hi=>by
   rw[Bool.and_eq_true];exact⟨decide_eq_true (by omega),decide_eq_true (by omega)⟩
  have q:∀i:Nat,i<ws.length→i.blt ws.length=true:=fun i hi=>Nat.ble_eq_true_of_le (by omega);refine aa (k _ (by omega)) (aa (q _ (by omega)) (aa (bw h4 (by omega)) ?_));refine aa (k _ (by omega)) (aa (q _ (by omega)) (aa (bw h4 (by omega)) ?_));refine aa (k _ (by omega)) (aa (q _ (by omega)) (aa (bw h4 (by omega)) ?_));refine aa (k _ (by omega)) (aa (q _ (by omega)) (aa (bw h4 (by omega)) ?_));refine aa (by rw[Nat.mul_one];exact Nat.beq_refl _) (aa (by rw[Bool.and_eq_true];exact⟨Nat.ble_eq_true_of_le (by omega),Nat.ble_eq_true_of_le (by omega)⟩) ?_);have fin:∀x:V,x=.int .u32 (dt ws ws.length)→bk 0 gg scV scJ scMu (scOutG schL) ⟨hs,key,p,pl,fr,ws⟩ .normal [some (.slice 0 0 8 false 0 0),some (.slice 1 0 64 false 0 0),some (.slice 2 0 pl false 0 0),some (.int .i64 fr),some (.slice 5 0 (ws.length+1) false 0 0),some (.int .i64 ((ws.length+1:Nat):Int))] [.row hs 103 1,.row key 103 1,.row p 5 1,.dead,.row [x] 103 1,.row (ws++[x]) 103 1]:=by
   intro x hx;subst hx;have ha:aV (ws++[V.int .u32 (dt ws ws.length)])=true:=jl h4 rfl;have hl:(ws++[V.int .u32 (dt ws ws.length)]).length=ws.length+1:=by rw[List.length_append];rfl
   refine⟨⟨hs,key,p,pl,fr,ws++[.int .u32 (dt ws ws.length)]⟩,?_,?_,?_,fun K hK g hg=>hK g ?_⟩
   ·unfold gg;rw[Bool.and_eq_true,Bool.and_eq_true,Bool.and_eq_true,Bool.and_eq_true,Bool.and_eq_true];exact⟨⟨⟨h1,h2⟩,h3⟩,ha,Nat.ble_eq_true_of_le (by rw[hl];omega),Nat.ble_eq_true_of_le (by rw[hl];omega)⟩
   ·show Fits 0 [.slice 0 0 8 false 0 0,.slice 1 0 64 false 0 0,.slice 2 0 pl false 0 0,.int .i64 fr,.slice 3 0 (ws++[V.int .u32 (dt ws ws.length)]).length false 0 0,.int .i64 ((ws++[V.int .u32 (dt ws ws.length)]).length:Nat)] _ _ _;rw[hl];exact jx h1 h2 h3 ha rfl rfl rfl rfl (by decide) _ _ _ _
   ·show 64-(ws++[V.int .u32 (dt ws ws.length)]).length<64-ws.length;rw[hl];omega
   ·have hg:g=schL (64-(ws++[V.int .u32 (dt ws ws.length)]).length) (ws++[V.int .u32 (dt ws ws.length)]):=hg;rw[hl]at hg;show g=schL (64-ws.length) ws;have e:64-ws.length=(64-(ws.length+1))+1:=by omega
    rw[e,hg];rfl
  exact fin _ rfl
 |false=>
  have hj:ws.length=64:=by have:=of_decide_eq_false hb;omega
  refine⟨[.slice 0 0 8 false 0 0,.slice 1 0 64 false 0 0,.slice 2 0 pl false 0 0,.int .i64 fr,.slice 3 0 64 false 0 0,.int .i64 64],[.row hs 103 1,.row key 103 1,.row p 5 1,.row ws 103 1],fun K hK=>hK ws ?_,?_⟩
  ·show ws=schL (64-ws.length) ws;rw[hj];rfl
  ·rw[hj];exact jx h1 h2 h3 h4 rfl rfl rfl rfl (by decide) _ _ _ _
def scDec:List (Option V)→St→Option SC
 |[some (.slice a 0 8 false 0 0),some (.slice b 0 64 false 0 0),some (.slice c 0 pl false 0 0),some (.int .i64 fr),some (.slice d 0 16 false 0 0),some (.int .i64 16)],st=>
  match st[a]?,st[b]?,st[c]?,st[d]? with
  |some (.row hs _ _),some (.row key _ _),some (.row p _ _),some (.row ws _ _)=>some ⟨hs,key,p,pl,fr,ws⟩
  |_,_,_,_=>none
 |_,_=>none
noncomputable def zg_0:=[V.int u32 1116352408,V.int u32 1899447441,V.int u32 3049323471,V.int u32 3921009573,V.int u32 961987163,V.int u32 1508970993,V.int u32 2453635748,V.int u32 2870763221,V.int u32 3624381080,V.int u32 310598401,V.int u32 607225278,V.int u32 1426881987,V.int u32 1925078388,V.int u32 2162078206,V.int u32 2614888103,V.int u32 3248222580,V.int u32 3835390401,V.int u32 4022224774,V.int u32 264347078,V.int u32 604807628,V.int u32 770255983,V.int u32 1249150122,V.int u32 1555081692,V.int u32 1996064986,V.int u32 2554220882,V.int u32 2821834349,V.int u32 2952996808,V.int u32 3210313671,V.int u32 3336571891,V.int u32 3584528711,V.int u32 113926993,V.int u32 338241895,V.int u32 666307205,V.int u32 773529912,V.int u32 1294757372,V.int u32 1396182291,V.int u32 1695183700,V.int u32 1986661051,V.int u32 2177026350,V.int u32 2456956037,V.int u32 2730485921,V.int u32 2820302411,V.int u32 3259730800,V.int u32 3345764771,V.int u32 3516065817,V.int u32 3600352804,V.int u32 4094571909,V.int u32 275423344,V.int u32 430227734,V.int u32 506948616,V.int u32 659060556,V.int u32 883997877,V.int u32 958139571,V.int u32 1322822218,V.int u32 1537002063,V.int u32 1747873779,V.int u32 1955562222,V.int u32 2024104815,V.int u32 2227730452,V.int u32 2361852424,V.int u32 2428436474,V.int u32 2756734187,V.int u32 3204031479,V.int u32 3329325298]
noncomputable def zg_1(F:Int→Int→Int)(ws:List V)(i v4 v5 v6 v7:Int):=(u32.wrap (u32.wrap (u32.wrap (v7+u32.wrap (↑(BitVec.ofInt 32 (u32.wrap (↑(BitVec.ofInt 32 (F (v4) 6)^^^BitVec.ofInt 32 (F (v4) 11)).toNat:Int))^^^BitVec.ofInt 32 (F (v4) 25)).toNat:Int))+u32.wrap (↑(BitVec.ofInt 32 (u32.wrap (↑(BitVec.ofInt 32 (v4)&&&BitVec.ofInt 32 (v5)).toNat:Int))|||BitVec.ofInt 32 (u32.wrap (↑(BitVec.ofInt 32 (u32.wrap (↑(BitVec.ofInt 32 4294967295^^^BitVec.ofInt 32 (v4)).toNat:Int))&&&BitVec.ofInt 32 (v6)).toNat:Int))).toNat:Int))+af (zg_0.getD (0+i.toNat*1) (V.bool false)))+af (ws.getD (0+i.toNat*1) (V.bool false)))
theorem rmix_round(F:Int→Int→Int)(hs p ws:List V)(pl nw:Nat)(from' i:Int)(v0 v1 v2 v3 v4 v5 v6 v7:Int)(R:Exit→List (Option V)→St→Prop):aS Tryd.prog (RS1 F) 9 10 (az 9) 41 518458 [3,4,5,7,8,12,13] [.slice 0 0 8 false 0 0,.slice 1 0 64 false 0 0,.slice 2 0 pl false 0 0,.int .i64 from',.slice 3 0 nw false 0 0,.slice 4 0 8 false 0 0,.int .i64 i] [.row hs 103 1,.row keyC 103 1,.row p 5 1,.row ws 103 1,.row [.int .u32 v0,.int .u32 v1,.int .u32 v2,.int .u32 v3,.int .u32 v4,.int .u32 v5,.int .u32 v6,.int .u32 v7] 103 1] R=
 (
 bif decide (i<64)then bif decide (0≤i)&&decide (i<64)then bif (0+i.toNat*1).blt 64 then bif ag u32 (zg_0.getD (0+i.toNat*1) (.bool
 false))then bif decide (0≤i)&&decide (i<(↑nw:Int))then bif (0+i.toNat*1).blt ws.length then bif ag u32 (ws.getD (0+i.toNat*1)
 (.bool false))then R .normal [some (.slice 0 0 8 false 0 0),some (.slice 1 0 64 false 0 0),some (.slice 2 0 pl false 0 0),some (.int i64
 from'),some (.slice 3 0 nw false 0 0),some (.slice 6 0 8 false 0 0),some (.int i64 (i64.wrap (i+1)))] [.row hs 103 1,.row zg_0 103
 1,.row p 5 1,.row ws 103 1,.row [.int u32 v0,.int u32 v1,.int u32 v2,.int u32 v3,.int u32 v4,.int
 u32 v5,.int u32 v6,.int u32 v7] 103 1,.dead,.row [.int u32 (u32.wrap (u32.wrap (zg_1 F ws i v4 v5 v6
 v7)+u32.wrap (u32.wrap (↑(BitVec.ofInt 32 (u32.wrap (↑(BitVec.ofInt 32 (F (v0) 2)^^^BitVec.ofInt 32 (F (v0) 13)).toNat:Int))^^^
 BitVec.ofInt 32 (F (v0) 22)).toNat:Int)+u32.wrap (↑(BitVec.ofInt 32 (u32.wrap (↑(BitVec.ofInt 32 (u32.wrap (↑(BitVec.ofInt 32 (v0)
 &&&BitVec.ofInt 32 (v1)).toNat:Int))|||BitVec.ofInt 32 (u32.wrap (↑(BitVec.ofInt 32 (v0)&&&BitVec.ofInt 32 (v2)).toNat:Int))).toNat:Int))|||
 BitVec.ofInt 32 (u32.wrap (↑(BitVec.ofInt 32 (v1)&&&BitVec.ofInt 32 (v2)).toNat:Int))).toNat:Int)))),.int u32 v0,.int u32 v1,
 .int u32 v2,.int u32 (u32.wrap (v3+u32.wrap (zg_1 F ws i v4 v5 v6 v7))),.int u32 v4,.int u32 v5,.int
 u32 v6] 103 1]else False else False else False else False else False else False else R (.exit 8) [some (.slice 0 0 8 false 0 0),some (.slice 1 0
 64 false 0 0),some (.slice 2 0 pl false 0 0),some (.int i64 from'),some (.slice 3 0 nw false 0 0),some (.slice 4 0 8 false 0 0),some (.int
 i64 i)] [.row hs 103 1,.row zg_0 103 1,.row p 5 1,.row ws 103 1,.row [.int u32 v0,.int u32 v1,.int u32
 v2,.int u32 v3,.int u32 v4,.int u32 v5,.int u32 v6,.int u32 v7] 103 1]):=by kernel_rfl
theorem dp(z:BitVec 32):BitVec.ofInt 32 (u32.wrap ((z.toNat:Nat):Int))=z:=by
 have h:=z.isLt;rw[IntWalk.u32_in _ ⟨by omega,by omega⟩,BitVec.ofInt_natCast,BitVec.ofNat_toNat,BitVec.setWidth_eq]
theorem ch_bv(E F G:BitVec 32):(E&&&F)|||((BitVec.allOnes 32^^^E)&&&G)=(E&&&F)^^^((BitVec.allOnes 32^^^E)&&&G):=by
 apply BitVec.eq_of_getLsbD_eq;intro i hi;simp only[BitVec.getLsbD_or,BitVec.getLsbD_and,BitVec.getLsbD_xor,BitVec.getLsbD_allOnes,hi,decide_true];cases E.getLsbD i<;>cases F.getLsbD i<;>cases G.getLsbD i<;>rfl
theorem maj_bv(A B C:BitVec 32):((A&&&B)|||(A&&&C))|||(B&&&C)=((A&&&B)^^^(A&&&C))^^^(B&&&C):=by
 apply BitVec.eq_of_getLsbD_eq;intro i hi;simp only[BitVec.getLsbD_or,BitVec.getLsbD_and,BitVec.getLsbD_xor];cases A.getLsbD i<;>cases B.getLsbD i<;>cases C.getLsbD i<;>rfl
theorem ch_or(e f g:Int):orI (andI e f) (andI (xorI 4294967295 e) g)=xorI (andI e f) (andI (xorI 4294967295 e) g):=by
 have h:BitVec.ofInt 32 4294967295=BitVec.allOnes 32:=by decide
 unfold orI xorI andI;rw[dp,dp,dp,h,ch_bv]
theorem maj_or(a b c:Int):orI (orI (andI a b) (andI a c)) (andI b c)=xorI (xorI (andI a b) (andI a c)) (andI b c):=by
 unfold orI xorI andI;rw[dp,dp,dp,dp,dp,maj_bv]
def tO(e f g h k w:Int):Int:=addI (addI (addI (addI h (xorI (xorI (rotI e 6) (rotI e 11)) (rotI e 25))) (orI (andI e f) (andI (xorI 4294967295 e) g))) k) w
def uO(a b c:Int):Int:=addI (xorI (xorI (rotI a 2) (rotI a 13)) (rotI a 22)) (orI (orI (andI a b) (andI a c)) (andI b c))
theorem tO_eq(e f g h k w:Int):tO e f g h k w=tI e f g h k w:=by unfold tO tI;rw[ch_or]
theorem uO_eq(a b c:Int):uO a b c=uI a b c:=by unfold uO uI;rw[maj_or]
def mixO(x:W8)(k w:Int):W8:=⟨addI (tO x.e x.f x.g x.h k w) (uO x.a x.b x.c),x.a,x.b,x.c,addI x.d (tO x.e x.f x.g x.h k w),x.e,x.f,x.g⟩
theorem mixO_eq(x:W8)(k w:Int):mixO x k w=mixR x k w:=by unfold mixO mixR;rw[tO_eq,uO_eq]
structure MD where
 hs:List V
 p:List V
 pl:Nat
 fr:Int
 ws:List V
 x:W8
 i:Nat
def mdV(y:MD):List V:=[.slice 0 0 8 false 0 0,.slice 1 0 64 false 0 0,.slice 2 0 y.pl false 0 0,.int .i64 y.fr,.slice 3 0 64 false 0 0,.slice 4 0 8 false 0 0,.int .i64 y.i]
def mdJ(y:MD):St:=[.row y.hs 103 1,.row keyC 103 1,.row y.p 5 1,.row y.ws 103 1,.row y.x.cells 103 1]
def gn(y:MD):Bool:=(ai y.hs&&ai y.p)&&(aV y.ws&&(Nat.beq y.ws.length 64&&Nat.ble y.i 64))
def mdMu(y:MD):Nat:=64-y.i
def mdOutG(ML:Nat→Nat→List V→W8→W8):Asks MD:=fun y K=>∀x:W8,x=ML (64-y.i) y.i y.ws y.x→K (.exit 8) [.slice 0 0 8 false 0 0,.slice 1 0 64 false 0 0,.slice 2 0 y.pl false 0 0,.int .i64 y.fr,.slice 3 0 64 false 0 0,.slice 4 0 8 false 0 0,.int .i64 64] [.row y.hs 103 1,.row keyC 103 1,.row y.p 5 1,.row y.ws 103 1,.row x.cells 103 1]
theorem cW:ai keyC=true:=by decide+kernel
theorem jK{hs p ws:List V}{x:W8}(h1:ai hs=true)(h3:ai p=true)(h4:aV ws=true){a b c d e:Nat}{st:St}(g1:st[a]?=some (.row hs 103 1))(g2:st[b]?=some (.row keyC 103 1))(g3:st[c]?=some (.row p 5 1))(g4:st[d]?=some (.row ws 103 1))(g5:st[e]?=some (.row x.cells 103 1))(hd:[a,b,c,d,e].Nodup)(pl nw:Nat)(fr i:Int):
  Fits 0 [.slice 0 0 8 false 0 0,.slice 1 0 64 false 0 0,.slice 2 0 pl false 0 0,.int .i64 fr,.slice 3 0 nw false 0 0,.slice 4 0 8 false 0 0,.int .i64 i] [.row hs 103 1,.row keyC 103 1,.row p 5 1,.row ws 103 1,.row x.cells 103 1]
   [some (.slice a 0 8 false 0 0),some (.slice b 0 64 false 0 0),some (.slice c 0 pl false 0 0),some (.int .i64 fr),some (.slice d 0 nw false 0 0),some (.slice e 0 8 false 0 0),some (.int .i64 i)] st:=
 ⟨[a,b,c,d,e],[.slice a 0 8 false 0 0,.slice b 0 64 false 0 0,.slice c 0 pl false 0 0,.int .i64 fr,.slice d 0 nw false 0 0,.slice e 0 8 false 0 0,.int .i64 i],rfl,rfl,FitsM.of ⟨fb h1 g1,fb cW g2,fb h3 g3,fb (fe h4) g4,fb rfl g5,trivial⟩,hd,fun i hi=>by omega⟩
theorem md_roundOk(y:MD)(hy:gn y=true):aS Tryd.prog (RS1 rotI) 9 10 (az 9) 41 518458 [3,4,5,7,8,12,13] (mdV y) (mdJ y) (bk 0 gn mdV mdJ mdMu (mdOutG mixL) y):=by
 obtain⟨hs,p,pl,fr,ws,x,i⟩:=y;unfold gn at hy;rw[Bool.and_eq_true,Bool.and_eq_true,Bool.and_eq_true,Bool.and_eq_true]at hy;have h1:ai hs=true:=hy.1.1;have h3:ai p=true:=hy.1.2;have h4:aV ws=true:=hy.2.1;have h5:ws.length=64:=Nat.eq_of_beq_eq_true hy.2.2.1;have h6:i≤64:=Nat.le_of_ble_eq_true hy.2.2.2;clear hy;show aS Tryd.prog (RS1 rotI) 9 10 (az 9) 41 518458 [3,4,5,7,8,12,13] [.slice 0 0 8 false 0 0,.slice 1 0 64 false 0 0,.slice 2 0 pl false 0 0,.int .i64 fr,.slice 3 0 64 false 0 0,.slice 4 0 8 false 0 0,.int .i64 i] [.row hs 103 1,.row keyC 103 1,.row p 5 1,.row ws 103 1,.row [.int .u32 x.a,.int .u32 x.b,.int .u32 x.c,.int .u32 x.d,.int .u32 x.e,.int .u32 x.f,.int .u32 x.g,.int .u32 x.h] 103 1] _;rw[rmix_round];unfold zg_1 zg_0;cases hb:decide ((i:Int)<64)with
 |true=>
  have hj:i<64:=by have:=of_decide_eq_true hb;omega
  have e1:i64.wrap ((i:Int)+1)=((i+1:Nat):Int):=by rw[IntWalk.i64_in _ ⟨by omega,by omega⟩];omega
  have c1:(decide ((0:Int)≤(i:Int))&&true)=true:=by rw[Bool.and_true];exact decide_eq_true (by omega)
  have c4:∀i:Fin 64,ag .u32 (keyC.getD i.val (.bool false))=true:=by decide+kernel
  have c5:=c4 ⟨i,hj⟩;have e0:0+i*1=i:=by omega
  have c6:i.blt keyC.length=true:=Nat.ble_eq_true_of_le (by show i+1≤64;omega);have c7:(decide ((0:Int)≤(i:Int))&&decide ((i:Int)<((64:Nat):Int)))=true:=by rw[Bool.and_eq_true];exact⟨decide_eq_true (by omega),decide_eq_true (by omega)⟩
  rw[Int.toNat_natCast,e1,e0,cond_true];refine aa c1 (aa c6 (aa c5 (aa c1 (aa (Nat.ble_eq_true_of_le (by omega)) (aa (bw h4 (by omega)) ?_)))));have fin:∀cs:List V,cs=(mixO x (keyI i) (wI ws i)).cells→bk 0 gn mdV mdJ mdMu (mdOutG mixL) ⟨hs,p,pl,fr,ws,x,i⟩ .normal [some (.slice 0 0 8 false 0 0),some (.slice 1 0 64 false 0 0),some (.slice 2 0 pl false 0 0),some (.int .i64 fr),some (.slice 3 0 64 false 0 0),some (.slice 6 0 8 false 0 0),some (.int .i64 ((i+1:Nat):Int))] [.row hs 103 1,.row keyC 103 1,.row p 5 1,.row ws 103 1,.row x.cells 103 1,.dead,.row cs 103 1]:=by
   intro cs hx;rw[mixO_eq]at hx;subst hx;refine⟨⟨hs,p,pl,fr,ws,mixR x (keyI i) (wI ws i),i+1⟩,?_,?_,?_,fun K hK g hg=>hK g ?_⟩
   ·unfold gn;rw[Bool.and_eq_true,Bool.and_eq_true,Bool.and_eq_true,Bool.and_eq_true];exact⟨⟨h1,h3⟩,h4,by rw[h5];rfl,Nat.ble_eq_true_of_le hj⟩
   ·exact jK h1 h3 h4 rfl rfl rfl rfl rfl (by decide) _ _ _ _
   ·simp only[mdMu];omega
   ·have hg:g=mixL (64-(i+1)) (i+1) ws (mixR x (keyI i) (wI ws i)):=hg;show g=mixL (64-i) i ws x;have e:64-i=(64-(i+1))+1:=by omega
    rw[e,hg];rfl
  exact fin _ rfl
 |false=>
  have hj:i=64:=by have:=of_decide_eq_false hb;omega
  subst hj;refine⟨[.slice 0 0 8 false 0 0,.slice 1 0 64 false 0 0,.slice 2 0 pl false 0 0,.int .i64 fr,.slice 3 0 64 false 0 0,.slice 4 0 8 false 0 0,.int .i64 64],[.row hs 103 1,.row keyC 103 1,.row p 5 1,.row ws 103 1,.row x.cells 103 1],fun K hK=>hK x rfl,?_⟩;exact jK h1 h3 h4 rfl rfl rfl rfl rfl (by decide) _ _ _ _
def mdDec:List (Option V)→St→Option MD
 |[some (.slice a 0 8 false 0 0),some (.slice b 0 64 false 0 0),some (.slice c 0 pl false 0 0),some (.int .i64 fr),some (.slice d 0 64 false 0 0),some (.slice e 0 8 false 0 0),some (.int .i64 0)],st=>
  match st[a]?,st[c]?,st[d]?,st[e]? with
  |some (.row hs _ _),some (.row p _ _),some (.row ws _ _),some (.row [.int .u32 a1,.int .u32 a2,.int .u32 a3,.int .u32 a4,.int .u32 a5,.int .u32 a6,.int .u32 a7,.int .u32 a8] _ _)=>some ⟨hs,p,pl,fr,ws,⟨a1,a2,a3,a4,a5,a6,a7,a8⟩,0⟩
  |_,_,_,_=>none
 |_,_=>none
noncomputable def RS2(OB:List V→Nat→Bool)(WB:List V→Nat→Nat→Int):Tab:=⟨noT,addM noL 86 (wdsT OB WB),dA 9⟩
theorem RS2_ok:TabOk3 Tryd.prog (RS2 okB di):=⟨cK,ke cL wds_ok,bE 9⟩
noncomputable def lkIn(SL:Nat→List V→List V)(ML:Nat→Nat→List V→W8→W8):Nat→Trans→Trans:=bM 129610 (cN 0 (szOf Tryd.prog 41) [3,4,5,7,8,9] scDec gg scV scJ (scOutG SL)) (bM 518458 (cN 0 (szOf Tryd.prog 41) [3,4,5,7,8,12,13] mdDec gn mdV mdJ (mdOutG ML)) (az 9))
theorem rpad_round(s:List UInt8)(hs key cs:List V)(k:Nat)(R:Exit→List (Option V)→St→Prop):aS Tryd.prog RS0 9 10 (az 9) 41 60 [0,3,4,5] [.str s,.slice 0 0 8 false 0 0,.slice 1 0 64 false 0 0,.slice 2 0 k false 0 0] [.row hs 103 1,.row key 103 1,.row cs 5 1] R=
  (
 bif (↑k:Int).tmod 64!=56 then bif cs.length.beq (k*1)then bif (k+1).ble 9223372036854775807&&((k+1)*1).ble 140737488355328 then R .normal [some (.str
 s),some (.slice 0 0 8 false 0 0),some (.slice 1 0 64 false 0 0),some (.slice 4 0 (k+1) false 0 0)] [.row hs 103 1,.row key 103 1,.dead,.row [.int
 u8 0] 5 1,.row (cs++[V.int u8 0]) 5 1]else False else False else R (.exit 0) [some (.str s),some (.slice 0 0 8 false 0 0),some (.slice 1 0
 64 false 0 0),some (.slice 2 0 k false 0 0)] [.row hs 103 1,.row key 103 1,.row cs 5 1]):=by kernel_rfl
noncomputable def zh_2(fr:Nat):=(0+(↑fr:Int).toNat*1)
noncomputable def zh_0(WB:List V→Nat→Nat→Int)(la:List V)(fr:Nat):=[V.int u32 (WB la (zh_2 fr) 0),V.int u32 (WB la (zh_2 fr) 1),V.int u32 (WB la (zh_2 fr) 2),V.int u32 (WB la (zh_2 fr) 3),V.int u32 (WB la (zh_2 fr) 4),V.int u32 (WB la (zh_2 fr) 5),V.int u32 (WB la (zh_2 fr) 6),V.int u32 (WB la (zh_2 fr) 7),V.int u32 (WB la (zh_2 fr) 8),V.int u32 (WB la (zh_2 fr) 9),V.int u32 (WB la (zh_2 fr) 10),V.int u32 (WB la (zh_2 fr) 11),V.int u32 (WB la (zh_2 fr) 12),V.int u32 (WB la (zh_2 fr) 13),V.int u32 (WB la (zh_2 fr) 14),V.int u32 (WB la (zh_2 fr) 15)]
noncomputable def zh_1(a b c d e f g h:Int):=[V.int u32 a,V.int u32 b,V.int u32 c,V.int u32 d,V.int u32 e,V.int u32 f,V.int u32 g,V.int u32 h]
theorem rblk_round(OB:List V→Nat→Bool)(WB:List V→Nat→Nat→Int)(SL:Nat→List V→List V)(ML:Nat→Nat→List V→W8→W8)(a b c d e f g h:Int)(key la:List V)(pl fr:Nat)(R:Exit→List (Option V)→St→Prop):aS Tryd.prog (RS2 OB WB) 9 10 (lkIn SL ML) 41 506 [3,4,5,7] [.slice 0 0 8 false 0 0,.slice 1 0 64 false 0 0,.slice 2 0 pl false 0 0,.int .i64 fr] [.row [.int .u32 a,.int .u32 b,.int .u32 c,.int .u32 d,.int .u32 e,.int .u32 f,.int .u32 g,.int .u32 h] 103 1,.row key 103 1,.row la 5 1] R=
 (
 bif decide ((↑fr:Int)<(↑pl:Int))then bif decide (0≤i64.wrap ((↑fr:Int)+64))then bif (↑fr:Int).toNat.ble (i64.wrap ((↑fr:Int)+
 64)).toNat&&(i64.wrap ((↑fr:Int)+64)).toNat.ble pl then bif ((i64.wrap ((↑fr:Int)+64)).toNat-(↑fr:Int).toNat).beq 64&&OB la (zh_2
 fr)then Fits 0 [.slice 0 0 8 false 0 0,.slice 1 0 64 false 0 0,.slice 2 0 pl false 0 0,.int i64 (↑fr:Int),.slice 3 0 16 false 0 0,.int
 i64 16] [.row (zh_1 a b c d e f g h) 103 1,.row key 103 1,.row la 5 1,.row (zh_0 WB la fr) 103 1] [some (.slice 0 0 8 false 0 0),some
 (.slice 1 0 64 false 0 0),some (.slice 2 0 pl false 0 0),some (.int i64 (↑fr:Int)),some (.slice 3 0 16 false 0 0),some (.int i64 16)]
 [.row (zh_1 a b c d e f g h) 103 1,.row key 103 1,.row la 5 1,.row (zh_0 WB la fr) 103 1]∧bif gg
 {hs:=(zh_1 a b c d e f g h),key:=key,p:=la,pl:=pl,fr:=(↑fr:Int),ws:=(zh_0 WB la fr)}then ∀(g_1:List V),g_1=SL 48 (zh_0 WB la fr)→
 Fits 0 [.slice 0 0 8 false 0 0,.slice 1 0 64 false 0 0,.slice 2 0 pl false 0 0,.int i64 (↑fr:Int),.slice 3 0 64 false 0 0,.slice 4 0 8 false
 0 0,.int i64 0] [.row (zh_1 a b c d e f g h) 103 1,.row keyC 103 1,.row la 5 1,.row g_1 103 1,.row (zh_1 a b c d e f g h) 103 1]
 [some (.slice 0 0 8 false 0 0),some (.slice 1 0 64 false 0 0),some (.slice 2 0 pl false 0 0),some (.int i64 (↑fr:Int)),some (.slice 3 0 64
 false 0 0),some (.slice 5 0 8 false 0 0),some (.int i64 0)] [.row (zh_1 a b c d e f g h) 103 1,.row key 103 1,.row la 5 1,.row g_1 103
 1,.dead,.row (zh_1 a b c d e f g h) 103 1]∧bif gn
 {hs:=(zh_1 a b c d e f g h),p:=la,pl:=pl,fr:=(↑fr:Int),ws:=g_1,x:={a:=a,b:=b,c:=c,d:=d,e:=e,f:=f,g:=g,h:=h},i:=0}
 then ∀(x:W8),x=ML 64 0 g_1 {a:=a,b:=b,c:=c,d:=d,e:=e,f:=f,g:=g,h:=h}→R .normal [some (.slice 0 0 8 false 0 0),some
 (.slice 1 0 64 false 0 0),some (.slice 2 0 pl false 0 0),some (.int i64 (i64.wrap ((↑fr:Int)+64)))] [.row [.int u32
 (u32.wrap (a+x.a)),.int u32 (u32.wrap (b+x.b)),.int u32 (u32.wrap (c+x.c)),.int u32 (u32.wrap
 (d+x.d)),.int u32 (u32.wrap (e+x.e)),.int u32 (u32.wrap (f+x.f)),.int u32 (u32.wrap (g+x.g)),.int
 u32 (u32.wrap (h+x.h))] 103 1,.row keyC 103 1,.row la 5 1,.row g_1 103 1,.row [.int u32 x.a,.int u32 x.b,
 .int u32 x.c,.int u32 x.d,.int u32 x.e,.int u32 x.f,.int u32 x.g,.int u32 x.h] 103 1]else False else
 False else False else False else False else R (.exit 4) [some (.slice 0 0 8 false 0 0),some (.slice 1 0 64 false 0 0),some (.slice 2 0 pl false 0 0),
 some (.int i64 (↑fr:Int))] [.row (zh_1 a b c d e f g h) 103 1,.row key 103 1,.row la 5 1]):=by kernel_rfl
theorem cl(a b:Int):addI a b=addI b a:=by unfold addI;rw[Int.add_comm]
theorem lkIn_ok:cx Tryd.prog none 0 (lkIn schL mixL) (2*506) (bX Tryd.prog 41 506):=by
 unfold lkIn;refine aM _ _ (aM _ _ (bq 9 _ _) fun c' hc f st Q h=>?_) fun c' hc f st Q h=>?_
 ·rw[show aR 518458 (2*506) (bX Tryd.prog 41 506)=[bX Tryd.prog 41 518458] by kernel_rfl]at hc;obtain rfl:=List.mem_singleton.1 hc;exact cH (P:=Tryd.prog) (T:=RS1 rotI) (k:=0) (lim:=9) (n:=10) (g:=41) (p0:=518458) (lk:=az 9) bL RS1_ok (bq 9 _ _) mdMu md_roundOk h
 ·rw[show aR 129610 (2*506) (bX Tryd.prog 41 506)=[bX Tryd.prog 41 129610] by kernel_rfl]at hc;obtain rfl:=List.mem_singleton.1 hc;exact cH (P:=Tryd.prog) (T:=RS1 rotI) (k:=0) (lim:=9) (n:=10) (g:=41) (p0:=129610) (lk:=az 9) bL RS1_ok (bq 9 _ _) scMu sc_roundOk h
structure PD where
 s:List UInt8
 hs:List V
 key:List V
 cs:List V
def pdV(x:PD):List V:=[.str x.s,.slice 0 0 8 false 0 0,.slice 1 0 64 false 0 0,.slice 2 0 x.cs.length false 0 0]
def pdJ(x:PD):St:=[.row x.hs 103 1,.row x.key 103 1,.row x.cs 5 1]
def gk(x:PD):Bool:=(ai x.hs&&ai x.key)&&(ai x.cs&&Nat.ble (x.cs.length+dxN x.cs.length) 1000000)
def pdMu(x:PD):Nat:=dxN x.cs.length
def pdOutG(FP:List V→List V):Asks PD:=fun x K=>∀p:List V,p=FP x.cs→K (.exit 0) [.str x.s,.slice 0 0 8 false 0 0,.slice 1 0 64 false 0 0,.slice 2 0 p.length false 0 0] [.row x.hs 103 1,.row x.key 103 1,.row p 5 1]
def pdDec:List (Option V)→St→Option PD
 |[some (.str s),some (.slice a 0 8 false 0 0),some (.slice b 0 64 false 0 0),some (.slice c 0 _ false 0 0)],st=>
  match st[a]?,st[b]?,st[c]? with
  |some (.row hs _ _),some (.row key _ _),some (.row cs _ _)=>some ⟨s,hs,key,cs⟩
  |_,_,_=>none
 |_,_=>none
theorem jD(s:List UInt8){hs key cs:List V}(h1:ai hs=true)(h2:ai key=true)(h3:ai cs=true)(k:Nat){a b c:Nat}{st:St}(g1:st[a]?=some (.row hs 103 1))(g2:st[b]?=some (.row key 103 1))(g3:st[c]?=some (.row cs 5 1))(hd:[a,b,c].Nodup):Fits 0 [.str s,.slice 0 0 8 false 0 0,.slice 1 0 64 false 0 0,.slice 2 0 k false 0 0] [.row hs 103 1,.row key 103 1,.row cs 5 1] [some (.str s),some (.slice a 0 8 false 0 0),some (.slice b 0 64 false 0 0),some (.slice c 0 k false 0 0)] st:=
 ⟨[a,b,c],[.str s,.slice a 0 8 false 0 0,.slice b 0 64 false 0 0,.slice c 0 k false 0 0],rfl,rfl,FitsM.of ⟨fb h1 g1,fb h2 g2,fb h3 g3,trivial⟩,hd,fun i hi=>by omega⟩
theorem pd_roundOk(x:PD)(hx:gk x=true):aS Tryd.prog RS0 9 10 (az 9) 41 60 [0,3,4,5] (pdV x) (pdJ x) (bk 0 gk pdV pdJ pdMu (pdOutG dxP) x):=by
 obtain⟨s,hs,key,cs⟩:=x;unfold gk at hx;rw[Bool.and_eq_true,Bool.and_eq_true,Bool.and_eq_true]at hx;have h1:ai hs=true:=hx.1.1;have h2:ai key=true:=hx.1.2;have p1:ai cs=true:=hx.2.1;have p2:cs.length+dxN cs.length≤1000000:=Nat.le_of_ble_eq_true hx.2.2;clear hx;show aS Tryd.prog RS0 9 10 (az 9) 41 60 [0,3,4,5] [.str s,.slice 0 0 8 false 0 0,.slice 1 0 64 false 0 0,.slice 2 0 cs.length false 0 0] [.row hs 103 1,.row key 103 1,.row cs 5 1] _;generalize hn:cs.length=n at*
 rw[rpad_round];have hm:(n:Int).tmod 64=((n%64:Nat):Int):=by rw[Int.tmod_eq_emod_of_nonneg (by omega)];omega
 rw[hm];refine cZ (fun h=>?_) (fun h=>?_)
 ·have h:n%64≠56:=by
   intro h0;rw[h0]at h;simp at h
  have p3:dxN n=dxN (n+1)+1:=by unfold dxN;omega
  refine aa (by rw[Nat.mul_one,hn];exact Nat.beq_refl _) (aa (by rw[Bool.and_eq_true];exact⟨Nat.ble_eq_true_of_le (by omega),Nat.ble_eq_true_of_le (by omega)⟩) ?_);have hl:(cs++[V.int .u8 0]).length=n+1:=by rw[List.length_append,hn];rfl
  have hf:ai (cs++[V.int .u8 0])=true:=ey p1 rfl;refine⟨⟨s,hs,key,cs++[.int .u8 0]⟩,?_,?_,?_,fun K hK=>?_⟩
  ·unfold gk;rw[Bool.and_eq_true,Bool.and_eq_true,Bool.and_eq_true];refine⟨⟨h1,h2⟩,hf,Nat.ble_eq_true_of_le ?_⟩;show(cs++[V.int .u8 0]).length+dxN (cs++[V.int .u8 0]).length≤1000000;rw[hl];omega
  ·show Fits 0 [.str s,.slice 0 0 8 false 0 0,.slice 1 0 64 false 0 0,.slice 2 0 (cs++[V.int .u8 0]).length false 0 0] _ _ _;rw[hl];exact jD s h1 h2 hf _ rfl rfl rfl (by decide)
  ·show dxN (cs++[V.int .u8 0]).length<dxN cs.length;rw[hl,hn];omega
  ·have:dxP (cs++[.int .u8 0])=dxP cs:=by
    unfold dxP;rw[hl,hn,List.append_assoc];rw[p3,List.replicate_succ];rfl
   exact fun p hp=>hK p (hp.trans this)
 ·have h:n%64=56:=by
   have:((n%64:Nat):Int)=56:=by simpa using h
   omega
  refine⟨[.str s,.slice 0 0 8 false 0 0,.slice 1 0 64 false 0 0,.slice 2 0 n false 0 0],[.row hs 103 1,.row key 103 1,.row cs 5 1],fun K hK=>?_,jD s h1 h2 p1 _ rfl rfl rfl (by decide)⟩;have:dxP cs=cs:=by
   unfold dxP;have:dxN cs.length=0:=by rw[hn];unfold dxN;omega
   rw[this,List.replicate_zero,List.append_nil]
  have hK:=hK cs this.symm;rw[hn]at hK;exact hK
theorem pd_loop{f:Fr}{st:St}{Q:Exit→Fr→St→Prop}(h:cN 0 (szOf Tryd.prog 41) [0,3,4,5] pdDec gk pdV pdJ (pdOutG dxP) f st Q):CodeSatW Tryd.prog none 0 (.loop (bX Tryd.prog 41 60)) f st Q:=
 cH (P:=Tryd.prog) (T:=RS0) (k:=0) (lim:=9) (n:=10) (g:=41) (p0:=60) (lk:=az 9) bL kf (bq 9 _ _) pdMu pd_roundOk h
structure BD where
 la:List V
 x:W8
 fr:Nat
def bdV(y:BD):List V:=[.slice 0 0 8 false 0 0,.slice 1 0 64 false 0 0,.slice 2 0 y.la.length false 0 0,.int .i64 y.fr]
def bdJ(y:BD):St:=[.row y.x.cells 103 1,.row keyC 103 1,.row y.la 5 1]
def fK(y:BD):Bool:=okA y.la&&(Nat.ble y.la.length 1000000&&(Nat.ble y.fr y.la.length&&(Nat.beq (y.la.length%64) 0&&Nat.beq (y.fr%64) 0)))
def bdMu(y:BD):Nat:=y.la.length-y.fr
def j7(SL:Nat→Nat→List V→W8→W8):Asks BD:=fun y K=>∀x:W8,x=SL ((y.la.length-y.fr)/64) y.fr y.la y.x→∀fr:Int,K (.exit 4) [.slice 0 0 8 false 0 0,.slice 1 0 64 false 0 0,.slice 2 0 y.la.length false 0 0,.int .i64 fr] [.row x.cells 103 1,.dead,.dead]
theorem bd_fits(x:W8){la:List V}(h3:ai la=true){a b c:Nat}{st:St}(g1:st[a]?=some (.row x.cells 103 1))(g2:st[b]?=some (.row keyC 103 1))(g3:st[c]?=some (.row la 5 1))(hd:[a,b,c].Nodup)(k:Nat)(fr:Int):Fits 0 [.slice 0 0 8 false 0 0,.slice 1 0 64 false 0 0,.slice 2 0 k false 0 0,.int .i64 fr] [.row x.cells 103 1,.row keyC 103 1,.row la 5 1] [some (.slice a 0 8 false 0 0),some (.slice b 0 64 false 0 0),some (.slice c 0 k false 0 0),some (.int .i64 fr)] st:=
 ⟨[a,b,c],[.slice a 0 8 false 0 0,.slice b 0 64 false 0 0,.slice c 0 k false 0 0,.int .i64 fr],rfl,rfl,FitsM.of ⟨fb rfl g1,fb cW g2,fb h3 g3,trivial⟩,hd,fun i hi=>by omega⟩
theorem bd_out(x:W8)(la:List V)(k:Nat)(fr:Int):Fits 0 [.slice 0 0 8 false 0 0,.slice 1 0 64 false 0 0,.slice 2 0 k false 0 0,.int .i64 fr] [.row x.cells 103 1,.dead,.dead] [some (.slice 0 0 8 false 0 0),some (.slice 1 0 64 false 0 0),some (.slice 2 0 k false 0 0),some (.int .i64 fr)] [.row x.cells 103 1,.row keyC 103 1,.row la 5 1]:=
 ⟨[0,1,2],[.slice 0 0 8 false 0 0,.slice 1 0 64 false 0 0,.slice 2 0 k false 0 0,.int .i64 fr],rfl,rfl,FitsM.of ⟨fb rfl rfl,.inl rfl,.inl rfl,trivial⟩,by decide,fun i hi=>by omega⟩
theorem bd_roundOk(y:BD)(hy:fK y=true):aS Tryd.prog (RS2 okB di) 9 10 (lkIn schL mixL) 41 506 [3,4,5,7] (bdV y) (bdJ y) (bk 0 fK bdV bdJ bdMu (j7 sumL) y):=by
 obtain⟨la,x,fr⟩:=y;unfold fK at hy;rw[Bool.and_eq_true,Bool.and_eq_true,Bool.and_eq_true,Bool.and_eq_true]at hy;have p1:okA la=true:=hy.1;have p2:la.length≤1000000:=Nat.le_of_ble_eq_true hy.2.1;have p3:fr≤la.length:=Nat.le_of_ble_eq_true hy.2.2.1;have p4:la.length%64=0:=Nat.eq_of_beq_eq_true hy.2.2.2.1;have p5:fr%64=0:=Nat.eq_of_beq_eq_true hy.2.2.2.2;clear hy;have hf:ai la=true:=by have h:=p1;unfold okA at h;rw[Bool.and_eq_true]at h;exact h.1
 show aS Tryd.prog (RS2 okB di) 9 10 (lkIn schL mixL) 41 506 [3,4,5,7] [.slice 0 0 8 false 0 0,.slice 1 0 64 false 0 0,.slice 2 0 la.length false 0 0,.int .i64 fr] [.row [.int .u32 x.a,.int .u32 x.b,.int .u32 x.c,.int .u32 x.d,.int .u32 x.e,.int .u32 x.f,.int .u32 x.g,.int .u32 x.h] 103 1,.row keyC 103 1,.row la 5 1] _;rw[rblk_round];unfold zh_1 zh_0 zh_2;refine cZ (fun hb=>?_) (fun hb=>?_)
 ·have hb:=of_decide_eq_true hb;have hl:fr+64≤la.length:=by omega
  have e1:i64.wrap ((fr:Int)+64)=((fr+64:Nat):Int):=by rw[IntWalk.i64_in _ ⟨by omega,by omega⟩];omega
  have e0:0+fr*1=fr:=by omega
  rw[e1];simp only[Int.toNat_natCast,e0];refine aa (decide_eq_true (by omega)) (aa (by rw[Bool.and_eq_true];exact⟨Nat.ble_eq_true_of_le (by omega),Nat.ble_eq_true_of_le (by omega)⟩) (aa ?_ ?_))
  ·rw[Bool.and_eq_true];refine⟨?_,okA_B p1 hl⟩;have:fr+64-fr=64:=by omega
   rw[this];rfl
  refine⟨jx (ws:=gM (di la fr)) rfl cW hf rfl rfl rfl rfl rfl (by decide) _ _ _ _,aa ?_ fun g hg=>?_⟩
  ·unfold gg;rw[Bool.and_eq_true,Bool.and_eq_true,Bool.and_eq_true];exact⟨⟨⟨rfl,cW⟩,hf⟩,rfl⟩
  have hg:g=schL 48 (gM (di la fr)):=hg;have g1:aV g=true:=by rw[hg];exact eR 48 _ rfl
  have g2:g.length=64:=by rw[hg];exact gQ 48 _
  refine⟨jK (x:=x) rfl hf g1 rfl rfl rfl rfl rfl (by decide) _ _ _ _,aa ?_ fun x' hx=>?_⟩
  ·unfold gn;rw[Bool.and_eq_true,Bool.and_eq_true,Bool.and_eq_true,Bool.and_eq_true];exact⟨⟨rfl,hf⟩,g1,by rw[g2];rfl,rfl⟩
  have hx:x'=mixL 64 0 (a9 (blkA la fr)) x:=by rw[hx,hg,cells_sch]
  have fin:∀cs:List V,cs=(mixE x (a9 (blkA la fr))).cells→∀r:St,bk 0 fK bdV bdJ bdMu (j7 sumL) ⟨la,x,fr⟩ .normal [some (.slice 0 0 8 false 0 0),some (.slice 1 0 64 false 0 0),some (.slice 2 0 la.length false 0 0),some (.int .i64 ((fr+64:Nat):Int))] (.row cs 103 1::.row keyC 103 1::.row la 5 1::r):=by
   intro cs hcs r;subst hcs;refine⟨⟨la,mixE x (a9 (blkA la fr)),fr+64⟩,?_,?_,?_,fun K hK z hz=>hK z ?_⟩
   ·unfold fK;rw[Bool.and_eq_true,Bool.and_eq_true,Bool.and_eq_true,Bool.and_eq_true];refine⟨p1,Nat.ble_eq_true_of_le p2,Nat.ble_eq_true_of_le hl,?_,?_⟩
    ·show Nat.beq (la.length%64) 0=true;rw[p4];rfl
    ·show Nat.beq ((fr+64)%64) 0=true;have:(fr+64)%64=0:=by omega
     rw[this];rfl
   ·exact bd_fits _ hf rfl rfl rfl (by decide) _ _
   ·simp only[bdMu];omega
   ·have hz:z=sumL ((la.length-(fr+64))/64) (fr+64) la (mixE x (a9 (blkA la fr))):=hz;show z=sumL ((la.length-fr)/64) fr la x;have e:(la.length-fr)/64=(la.length-(fr+64))/64+1:=by omega
    rw[e,hz];rfl
  refine fin _ ?_ _;unfold mixE;rw[←hx];rw[cl x'.a,cl x'.b,cl x'.c,cl x'.d,cl x'.e,cl x'.f,cl x'.g,cl x'.h];rfl
 ·have hb:=of_decide_eq_false hb;have hl:fr=la.length:=by omega
  refine⟨[.slice 0 0 8 false 0 0,.slice 1 0 64 false 0 0,.slice 2 0 la.length false 0 0,.int .i64 fr],[.row x.cells 103 1,.dead,.dead],fun K hK=>?_,bd_out x la _ _⟩;refine hK x ?_ fr;show x=sumL ((la.length-fr)/64) fr la x;rw[hl,Nat.sub_self,Nat.zero_div];rfl
def bdDec:List (Option V)→St→Option BD
 |[some (.slice a 0 8 false 0 0),some (.slice b 0 64 false 0 0),some (.slice c 0 _ false 0 0),some (.int .i64 0)],st=>
  match st[a]?,st[c]? with
  |some (.row [.int .u32 a1,.int .u32 a2,.int .u32 a3,.int .u32 a4,.int .u32 a5,.int .u32 a6,.int .u32 a7,.int .u32 a8] _ _),some (.row la _ _)=>some ⟨la,⟨a1,a2,a3,a4,a5,a6,a7,a8⟩,0⟩
  |_,_=>none
 |_,_=>none
theorem bd_loop{f:Fr}{st:St}{Q:Exit→Fr→St→Prop}(h:cN 0 (szOf Tryd.prog 41) [3,4,5,7] bdDec fK bdV bdJ (j7 sumL) f st Q):CodeSatW Tryd.prog none 0 (.loop (bX Tryd.prog 41 506)) f st Q:=
 cH (P:=Tryd.prog) (T:=RS2 okB di) (k:=0) (lim:=9) (n:=10) (g:=41) (p0:=506) (lk:=lkIn schL mixL) bL RS2_ok lkIn_ok bdMu bd_roundOk h
noncomputable def lkRS(FP:List V→List V)(SL:Nat→Nat→List V→W8→W8):Nat→Trans→Trans:=bM 506 (cN 0 (szOf Tryd.prog 41) [3,4,5,7] bdDec fK bdV bdJ (j7 SL)) (bM 60 (cN 0 (szOf Tryd.prog 41) [0,3,4,5] pdDec gk pdV pdJ (pdOutG FP)) (az 10))
theorem lkRS_ok:aZ Tryd.prog 0 (lkRS dxP sumL) 41:=by
 unfold lkRS;exact ew (ew (cY 10 0 41) (by kernel_rfl) fun f st Q h=>pd_loop h) (by kernel_rfl) fun f st Q h=>bd_loop h
noncomputable def RS3(FP:List V→List V)(SL:Nat→Nat→List V→W8→W8):Tab:=⟨noT,noL,addLk (dA 10) 41 0 (lkRS FP SL)⟩
theorem RS3_ok:TabOk3 Tryd.prog (RS3 dxP sumL):=⟨cK,cL,iw (bE 10) lkRS_ok⟩
noncomputable def zi_0(s:List UInt8):=(u64.wrap (u64.wrap (↑s.length:Int)*8))
noncomputable def zi_1:=[V.int u32 1779033703,V.int u32 3144134277,V.int u32 1013904242,V.int u32 2773480762,V.int u32 1359893119,V.int u32 2600822924,V.int u32 528734635,V.int u32 1541459225]
noncomputable def zi_2(s:List UInt8):=[V.int u8 (u8.wrap ((zi_0 s).fdiv 72057594037927936))]
noncomputable def zi_3(s:List UInt8):=[V.int u8 (u8.wrap ((zi_0 s).fdiv 281474976710656))]
noncomputable def zi_4(s:List UInt8):=[V.int u8 (u8.wrap ((zi_0 s).fdiv 1099511627776))]
noncomputable def zi_5(s:List UInt8):=[V.int u8 (u8.wrap ((zi_0 s).fdiv 4294967296))]
noncomputable def zi_6(s:List UInt8):=[V.int u8 (u8.wrap ((zi_0 s).fdiv 16777216))]
noncomputable def zi_7(s:List UInt8):=[V.int u8 (u8.wrap ((zi_0 s).fdiv 65536))]
noncomputable def zi_8(s:List UInt8):=[V.int u8 (u8.wrap ((zi_0 s).fdiv 256))]
noncomputable def zi_9(s:List UInt8):=[V.int u8 (u8.wrap ((zi_0 s).fdiv 1))]
theorem rsum_tree(FP:List V→List V)(SL:Nat→Nat→List V→W8→W8)(s:List UInt8)(R:V→Prop):runW Tryd.prog (RS3 FP SL) 10 10 41 [.str s] R=
 (
 bif s.length.ble 281474976710656 then bif (List.map (fun b=>V.int u8 (↑b.toNat:Int)) s).length.beq (s.length*1)then bif (s.length+1).ble
 9223372036854775807&&((s.length+1)*1).ble 140737488355328 then Fits 0 [.str s,.slice 0 0 8 false 0 0,.slice 1 0 64 false 0 0,.slice 2 0 (List.map
 (fun b=>V.int u8 (↑b.toNat:Int)) s++[V.int u8 128]).length false 0 0] [.row zi_1 103 1,.row keyC 103 1,.row (List.map (fun b=>
 .int u8 (↑b.toNat:Int)) s++[V.int u8 128]) 5 1] [some (.str s),some (.slice 0 0 8 false 0 0),some (.slice 1 0 64 false 0 0),some
 (.slice 4 0 (s.length+1) false 0 0)] [.row zi_1 103 1,.row keyC 103 1,.dead,.row [.int u8 128] 5 1,.row (List.map (fun b=>V.int
 u8 (↑b.toNat:Int)) s++[V.int u8 128]) 5 1]∧bif gk
 {s:=s,hs:=zi_1,key:=keyC,cs:=List.map (fun b=>V.int u8 (↑b.toNat:Int)) s++[V.int u8 128]}then ∀(p:List V),p=FP
 (List.map (fun b=>V.int u8 (↑b.toNat:Int)) s++[V.int u8 128])→bif p.length.beq (p.length*1)then bif (p.length+1).ble
 9223372036854775807&&((p.length+1)*1).ble 140737488355328 then bif (p++(zi_2 s)).length.beq ((p.length+1)*1)then bif (p.length+1+1).ble
 9223372036854775807&&((p.length+1+1)*1).ble 140737488355328 then bif (p++(zi_2 s)++(zi_3 s)).length.beq ((p.length+1+1)*1)then bif (p.length+
 1+1+1).ble 9223372036854775807&&((p.length+1+1+1)*1).ble 140737488355328 then bif (p++(zi_2 s)++(zi_3 s)++(zi_4 s)).length.beq ((p.length+1
 +1+1)*1)then bif (p.length+1+1+1+1).ble 9223372036854775807&&((p.length+1+1+1+1)*1).ble 140737488355328 then bif (p++(zi_2 s)++
 (zi_3 s)++(zi_4 s)++(zi_5 s)).length.beq ((p.length+1+1+1+1)*1)then bif (p.length+1+1+1+1+1).ble 9223372036854775807&&((p.length+1+
 1+1+1+1)*1).ble 140737488355328 then bif (p++(zi_2 s)++(zi_3 s)++(zi_4 s)++(zi_5 s)++(zi_6 s)).length.beq ((p.length+1+1+1+1+1)*1)
 then bif (p.length+1+1+1+1+1+1).ble 9223372036854775807&&((p.length+1+1+1+1+1+1)*1).ble 140737488355328 then bif (p++(zi_2 s)++
 (zi_3 s)++(zi_4 s)++(zi_5 s)++(zi_6 s)++(zi_7 s)).length.beq ((p.length+1+1+1+1+1+1)*1)then bif (p.length+1+1+1+1+1+1+1).ble
 9223372036854775807&&((p.length+1+1+1+1+1+1+1)*1).ble 140737488355328 then bif (p++(zi_2 s)++(zi_3 s)++(zi_4 s)++(zi_5 s)++(zi_6 s)
 ++(zi_7 s)++(zi_8 s)).length.beq ((p.length+1+1+1+1+1+1+1)*1)then bif (p.length+1+1+1+1+1+1+1+1).ble 9223372036854775807&&
 ((p.length+1+1+1+1+1+1+1+1)*1).ble 140737488355328 then Fits 0 [.slice 0 0 8 false 0 0,.slice 1 0 64 false 0 0,.slice 2 0 (p++(zi_2 s)
 ++(zi_3 s)++(zi_4 s)++(zi_5 s)++(zi_6 s)++(zi_7 s)++(zi_8 s)++(zi_9 s)).length false 0 0,.int i64 0] [.row zi_1 103 1,.row keyC 103
 1,.row (p++(zi_2 s)++(zi_3 s)++(zi_4 s)++(zi_5 s)++(zi_6 s)++(zi_7 s)++(zi_8 s)++(zi_9 s)) 5 1] [some (.slice 0 0 8 false 0 0),some
 (.slice 1 0 64 false 0 0),some (.slice 18 0 (p.length+1+1+1+1+1+1+1+1) false 0 0),some (.int i64 0)] [.row zi_1 103 1,.row
 keyC 103 1,.dead,.row (zi_2 s) 5 1,.dead,.row (zi_3 s) 5 1,.dead,.row (zi_4 s) 5 1,.dead,.row (zi_5 s) 5 1,.dead,.row
 (zi_6 s) 5 1,.dead,.row (zi_7 s) 5 1,.dead,.row (zi_8 s) 5 1,.dead,.row (zi_9 s) 5 1,.row (p++(zi_2 s)++(zi_3 s)++(zi_4 s)++
 (zi_5 s)++(zi_6 s)++(zi_7 s)++(zi_8 s)++(zi_9 s)) 5 1]∧bif fK
 {la:=p++(zi_2 s)++(zi_3 s)++(zi_4 s)++(zi_5 s)++(zi_6 s)++(zi_7 s)++(zi_8 s)++(zi_9 s),x:={a:=1779033703,b:=3144134277,c:=1013904242,d:=2773480762,e:=1359893119,f:=2600822924,g:=528734635,h:=1541459225},fr:=0}
 then ∀(x:W8),x=SL (((p++(zi_2 s)++(zi_3 s)++(zi_4 s)++(zi_5 s)++(zi_6 s)++(zi_7 s)++(zi_8 s)++(zi_9 s)).length-0)/64) 0 (p++(zi_2 s)
 ++(zi_3 s)++(zi_4 s)++(zi_5 s)++(zi_6 s)++(zi_7 s)++(zi_8 s)++(zi_9 s))
 {a:=1779033703,b:=3144134277,c:=1013904242,d:=2773480762,e:=1359893119,f:=2600822924,g:=528734635,h:=1541459225}→∀(fr:Int),R
 (.str (List.map Vm.byteOf [.int u8 (u8.wrap (x.a.fdiv 16777216)),.int u8 (u8.wrap (x.a.fdiv 65536)),.int u8
 (u8.wrap (x.a.fdiv 256)),.int u8 (u8.wrap x.a),.int u8 (u8.wrap (x.b.fdiv 16777216)),.int u8
 (u8.wrap (x.b.fdiv 65536)),.int u8 (u8.wrap (x.b.fdiv 256)),.int u8 (u8.wrap x.b),.int u8 (u8.wrap
 (x.c.fdiv 16777216)),.int u8 (u8.wrap (x.c.fdiv 65536)),.int u8 (u8.wrap (x.c.fdiv 256)),.int u8 (u8.wrap
 x.c),.int u8 (u8.wrap (x.d.fdiv 16777216)),.int u8 (u8.wrap (x.d.fdiv 65536)),.int u8 (u8.wrap (x.d.fdiv
 256)),.int u8 (u8.wrap x.d),.int u8 (u8.wrap (x.e.fdiv 16777216)),.int u8 (u8.wrap (x.e.fdiv 65536)),.int
 u8 (u8.wrap (x.e.fdiv 256)),.int u8 (u8.wrap x.e),.int u8 (u8.wrap (x.f.fdiv 16777216)),.int u8
 (u8.wrap (x.f.fdiv 65536)),.int u8 (u8.wrap (x.f.fdiv 256)),.int u8 (u8.wrap x.f),.int u8 (u8.wrap
 (x.g.fdiv 16777216)),.int u8 (u8.wrap (x.g.fdiv 65536)),.int u8 (u8.wrap (x.g.fdiv 256)),.int u8 (u8.wrap
 x.g),.int u8 (u8.wrap (x.h.fdiv 16777216)),.int u8 (u8.wrap (x.h.fdiv 65536)),.int u8 (u8.wrap (x.h.fdiv
 256)),.int u8 (u8.wrap x.h)]))else False else False else False else False else False else False else False else False else False else False
 else False else False else False else False else False else False else False else False else False else False else False):=by kernel_rfl
theorem rsum_ok(args:List V)(l:List (Bool×(V×St)))(o:V×St)(h:sumT args=some l)(ho:bo l=some o):FnSat Tryd.prog 41 args [] (Is o):=by
 unfold sumT at h;split at h
 ·rename_i s;cases h;cases hk:okL s with
  |false=>rw[hk]at ho;cases ho
  |true=>
  rw[hk]at ho;cases ho;have p1:=okL_le hk;have hc:okA (bys s++[V.int .u8 128])=true:=aN (okA_bys s) rfl;have hcl:(bys s++[V.int .u8 128]).length=s.length+1:=ae (bys_len s);have hP:okA (padP s)=true:=aN hc (okA_rep _);have hPl:(padP s).length=s.length+1+dxN (s.length+1):=by unfold padP dxP;rw[List.length_append,List.length_replicate,hcl]
  have hN:dxN (s.length+1)<64:=by unfold dxN;omega
  have hM:(padP s).length%64=56:=by rw[hPl];unfold dxN;omega
  have hcf:ai (bys s++[V.int .u8 128])=true:=by have h:=hc;unfold okA at h;rw[Bool.and_eq_true]at h;exact h.1
  refine fw (lim:=10) (n:=10) bL RS3_ok rfl rfl ?_;rw[rsum_tree];unfold zi_9 zi_8 zi_7 zi_6 zi_5 zi_4 zi_3 zi_2 zi_1 zi_0;refine aa (Nat.ble_eq_true_of_le (by omega)) (aK (bys_ln s) (by omega) ⟨?_,aa ?_ (fun p hp=>?_)⟩)
  ·have:=jD s (hs:=ivW.cells) (key:=keyC) (cs:=bys s++[V.int .u8 128]) rfl cW hcf (bys s++[V.int .u8 128]).length (a:=0) (b:=1) (c:=4) (st:=[.row ivW.cells 103 1,.row keyC 103 1,.dead,.row [.int .u8 128] 5 1,.row (bys s++[V.int .u8 128]) 5 1]) rfl rfl rfl (by decide);have hcl2:(List.map (fun b:UInt8=>V.int .u8 (b.toNat:Int)) s++[V.int .u8 128]).length=s.length+1:=hcl;rw[hcl2];rw[hcl]at this;exact this
  ·unfold gk;rw[Bool.and_eq_true,Bool.and_eq_true,Bool.and_eq_true];refine⟨⟨rfl,cW⟩,hcf,Nat.ble_eq_true_of_le ?_⟩;show(bys s++[V.int .u8 128]).length+dxN (bys s++[V.int .u8 128]).length≤1000000;rw[hcl];omega
  ·have hp:p=padP s:=hp;have hl:p.length≤200000:=by rw[hp];omega
   have hA:okA (la8 p s.length)=true:=by
    rw[hp];unfold la8;exact aN (aN (aN (aN (aN (aN (aN (aN hP rfl) rfl) rfl) rfl) rfl) rfl) rfl) rfl
   have hF:ai (la8 p s.length)=true:=by have h:=hA;unfold okA at h;rw[Bool.and_eq_true]at h;exact h.1
   have hL:(la8 p s.length).length=p.length+1+1+1+1+1+1+1+1:=ae (ae (ae (ae (ae (ae (ae (ae rfl)))))));refine aK rfl (by omega) (aK (ae rfl) (by omega) (aK (ae (ae rfl)) (by omega) (aK (ae (ae (ae rfl))) (by omega) (aK (ae (ae (ae (ae rfl)))) (by omega) (aK (ae (ae (ae (ae (ae rfl))))) (by omega) (aK (ae (ae (ae (ae (ae (ae rfl)))))) (by omega) (aK (ae (ae (ae (ae (ae (ae (ae rfl))))))) (by omega) (?_))))))));refine⟨?_,aa ?_ (fun x hx fr=>?_)⟩
   ·have:=fun st g1 g2 g3=>bd_fits ivW (la:=la8 p s.length) hF (a:=0) (b:=1) (c:=18) (st:=st) g1 g2 g3 (by decide) (la8 p s.length).length 0;rw[hL]at this;have h2:(p++[lenD s.length 72057594037927936]++[lenD s.length 281474976710656]++[lenD s.length 1099511627776]++[lenD s.length 4294967296]++[lenD s.length 16777216]++[lenD s.length 65536]++[lenD s.length 256]++[lenD s.length 1]).length=p.length+1+1+1+1+1+1+1+1:=hL;unfold lenD at h2;rw[h2];exact this _ rfl rfl rfl
   ·unfold fK;rw[Bool.and_eq_true,Bool.and_eq_true,Bool.and_eq_true,Bool.and_eq_true];refine⟨hA,Nat.ble_eq_true_of_le ?_,Nat.ble_eq_true_of_le (Nat.zero_le _),?_,rfl⟩
    ·show(la8 p s.length).length≤1000000;rw[hL];omega
    ·show Nat.beq ((la8 p s.length).length%64) 0=true;have:(la8 p s.length).length%64=0:=by rw[hL,hp];omega
     rw[this];rfl
   ·have hx:x=sumL (((la8 p s.length).length-0)/64) 0 (la8 p s.length) ivW:=hx;have hx:x=sumW s:=by rw[hx,Nat.sub_zero,hL,hp];rfl
    rw[hx];rfl
 ·cases h
end Go.Proofs.YtnenadbbhdcaoaaDoor
