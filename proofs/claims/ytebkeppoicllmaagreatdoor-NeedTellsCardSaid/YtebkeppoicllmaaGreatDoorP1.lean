/- Parts of this work: what the functions come to. -/
import Derived.Test.YtebkeppoicllmaaGreatDoorVmc
import Derived.Test.YtebkeppoicllmaaGreatDoorRows
import Derived.KernelRfl
import Derived.IntWalk
noncomputable section
set_option linter.unusedVariables false
set_option linter.unusedSectionVars false
set_option maxRecDepth 100000
namespace Go.Proofs.YtebkeppoicllmaaGreatDoor
open Go.IntKind (u8 u16 u32 u64 i8 i16 i32 i64)
open Go Go.Vm Go.RowKit
abbrev Qq:Program:=Tryz.prog
abbrev Qx:=List (Bool×(V×St))
abbrev Qz:=Exit→List (Option V)→St→Prop
variable [Φ:Frz]
theorem aI:Tryz.prog.follows .mixedOrders=true:=by kernel_rfl
def keyC:List V:=[.int .u32 1116352408,.int .u32 1899447441,.int .u32 3049323471,.int .u32 3921009573,.int .u32 961987163,.int .u32 1508970993,.int .u32 2453635748,.int .u32 2870763221,.int .u32 3624381080,.int .u32 310598401,.int .u32 607225278,.int .u32 1426881987,.int .u32 1925078388,.int .u32 2162078206,.int .u32 2614888103,.int .u32 3248222580,.int .u32 3835390401,.int .u32 4022224774,.int .u32 264347078,.int .u32 604807628,.int .u32 770255983,.int .u32 1249150122,.int .u32 1555081692,.int .u32 1996064986,.int .u32 2554220882,.int .u32 2821834349,.int .u32 2952996808,.int .u32 3210313671,.int .u32 3336571891,.int .u32 3584528711,.int .u32 113926993,.int .u32 338241895,.int .u32 666307205,.int .u32 773529912,.int .u32 1294757372,.int .u32 1396182291,.int .u32 1695183700,.int .u32 1986661051,.int .u32 2177026350,.int .u32 2456956037,.int .u32 2730485921,.int .u32 2820302411,.int .u32 3259730800,.int .u32 3345764771,.int .u32 3516065817,.int .u32 3600352804,.int .u32 4094571909,.int .u32 275423344,.int .u32 430227734,.int .u32 506948616,.int .u32 659060556,.int .u32 883997877,.int .u32 958139571,.int .u32 1322822218,.int .u32 1537002063,.int .u32 1747873779,.int .u32 1955562222,.int .u32 2024104815,.int .u32 2227730452,.int .u32 2361852424,.int .u32 2428436474,.int .u32 2756734187,.int .u32 3204031479,.int .u32 3329325298]
def makesC:List V:=[.func (.func 275) [] [],.func (.func 76) [] []]
def takesC:List V:=[.func (.func 276) [] [],.func (.func 277) [] []]
instance gl:Glob:={n:=11,cells:=fun|0=>some makesC|1=>some takesC|2=>some keyC|_=>none,more:=fun _=>(0,0)}
def T0:Tab:=⟨noT,noL,bk 6⟩
theorem T0_ok:TabOk3 Qq T0:=⟨aW,aX,aE 6⟩
def za_0(n:Int):=(↑(BitVec.ofInt 64 (u64.wrap (i64.wrap (0-n)))&&&BitVec.ofInt 64 31).toNat:Int)
theorem rot_tree(x n:Int)(R:V→Prop):runW Qq T0 6 10 180 [.int .u32 x,.int .i64 n] R=
 (
 bif decide (0≤u64.wrap (32-u64.wrap (za_0 n)))then R (.int u32 (u32.wrap (↑(BitVec.ofInt 32 (u32.wrap (x*2^min
 (u64.wrap (za_0 n)).toNat 32))|||BitVec.ofInt 32 (x.fdiv (2^min (u64.wrap (32-u64.wrap (za_0 n))).toNat 32))).toNat:Int)))else
 False):=by kernel_rfl
def rotI(x n:Int):Int:=u32.wrap (((BitVec.ofInt 32 (u32.wrap (x*2^min (u64.wrap (((BitVec.ofInt 64 (u64.wrap (i64.wrap (0-n)))&&&BitVec.ofInt 64 31).toNat:Nat):Int)).toNat 32))|||
 BitVec.ofInt 32 (x.fdiv (2^min (u64.wrap (32-u64.wrap (((BitVec.ofInt 64 (u64.wrap (i64.wrap (0-n)))&&&BitVec.ofInt 64 31).toNat:Nat):Int))).toNat 32))).toNat:Nat):Int)
def rotF:List V→Option V
 |[.int .u32 x,.int .i64 n]=>some (.int .u32 (rotI x n))
 |_=>none
theorem and31_le(y:BitVec 64):((y&&&BitVec.ofInt 64 31).toNat:Int)≤31:=by
 rw[BitVec.toNat_and];have:(BitVec.ofInt 64 31).toNat=31:=by decide
 rw[this];have:=Nat.and_le_right (n:=y.toNat) (m:=31);omega
theorem rot_ok(args:List V)(v:V)(h:rotF args=some v):FnSat Qq 180 args [] (Is (v,[])):=by
 unfold rotF at h;split at h
 ·rename_i x n;cases h;refine aP (lim:=6) (n:=10) aI T0_ok rfl rfl ?_;rw[rot_tree];unfold za_0;have h1:=and31_le (BitVec.ofInt 64 (u64.wrap (i64.wrap (0-n))));have h2:=IntWalk.u64_in (((BitVec.ofInt 64 (u64.wrap (i64.wrap (0-n)))&&&BitVec.ofInt 64 31).toNat:Nat):Int) ⟨by omega,by omega⟩;refine ao (fun _=>rfl) (fun h=>?_);have h:=of_decide_eq_false h;rw[h2,IntWalk.u64_in _ ⟨by omega,by omega⟩]at h;omega
 ·cases h
def T1:Tab:=⟨addP noT 180 rotF,noL,bk 9⟩
theorem T1_ok:TabOk3 Qq T1:=⟨bh aW rot_ok,aX,aE 9⟩
structure W8 where
 a:Int
 b:Int
 c:Int
 d:Int
 e:Int
 f:Int
 g:Int
 h:Int
def W8.cells(x:W8):List V:=[.int .u32 x.a,.int .u32 x.b,.int .u32 x.c,.int .u32 x.d,.int .u32 x.e,.int .u32 x.f,.int .u32 x.g,.int .u32 x.h]
def xorI(a b:Int):Int:=u32.wrap (((BitVec.ofInt 32 a^^^BitVec.ofInt 32 b).toNat:Nat):Int)
def andI(a b:Int):Int:=u32.wrap (((BitVec.ofInt 32 a&&&BitVec.ofInt 32 b).toNat:Nat):Int)
def orI(a b:Int):Int:=u32.wrap (((BitVec.ofInt 32 a|||BitVec.ofInt 32 b).toNat:Nat):Int)
def addI(a b:Int):Int:=u32.wrap (a+b)
def tI(e f g h k w:Int):Int:=addI (addI (addI (addI h (xorI (xorI (rotI e 6) (rotI e 11)) (rotI e 25))) (xorI (andI e f) (andI (xorI 4294967295 e) g))) k) w
def uI(a b c:Int):Int:=addI (xorI (xorI (rotI a 2) (rotI a 13)) (rotI a 22)) (xorI (xorI (andI a b) (andI a c)) (andI b c))
def mixR(x:W8)(k w:Int):W8:=⟨addI (tI x.e x.f x.g x.h k w) (uI x.a x.b x.c),x.a,x.b,x.c,addI x.d (tI x.e x.f x.g x.h k w),x.e,x.f,x.g⟩
def keyI(j:Nat):Int:=au (keyC.getD j (.bool false))
def wI(ws:List V)(j:Nat):Int:=au (ws.getD j (.bool false))
def mixL:Nat→Nat→List V→W8→W8
 |0,_,_,x=>x
 |n+1,j,ws,x=>mixL n (j+1) ws (mixR x (keyI j) (wI ws j))
def fj(ws:List V):Bool:=ws.all (aj .u32)
theorem eS{ws:List V}(h:fj ws=true){j:Nat}(hj:j<ws.length):aj .u32 (ws.getD j (.bool false))=true:=by
 rw[List.getD_eq_getElem?_getD,List.getElem?_eq_getElem hj];exact List.all_eq_true.1 h _ (List.getElem_mem hj)
theorem jZ(σ:List Nat):∀ws:List V,fj ws=true→renL σ ws=some ws
 |[],_=>rfl
 |v::r,h=>by
  unfold fj at h;rw[List.all_cons,af]at h;have ih:=jZ σ r h.2;cases v<;>simp[aj]at h;simp only[renL,renV,ih]
def za_1(j:Int):=[V.int u32 1116352408,V.int u32 1899447441,V.int u32 3049323471,V.int u32 3921009573,V.int u32 961987163,V.int u32 1508970993,V.int u32 2453635748,V.int u32 2870763221,V.int u32 3624381080,V.int u32 310598401,V.int u32 607225278,V.int u32 1426881987,V.int u32 1925078388,V.int u32 2162078206,V.int u32 2614888103,V.int u32 3248222580,V.int u32 3835390401,V.int u32 4022224774,V.int u32 264347078,V.int u32 604807628,V.int u32 770255983,V.int u32 1249150122,V.int u32 1555081692,V.int u32 1996064986,V.int u32 2554220882,V.int u32 2821834349,V.int u32 2952996808,V.int u32 3210313671,V.int u32 3336571891,V.int u32 3584528711,V.int u32 113926993,V.int u32 338241895,V.int u32 666307205,V.int u32 773529912,V.int u32 1294757372,V.int u32 1396182291,V.int u32 1695183700,V.int u32 1986661051,V.int u32 2177026350,V.int u32 2456956037,V.int u32 2730485921,V.int u32 2820302411,V.int u32 3259730800,V.int u32 3345764771,V.int u32 3516065817,V.int u32 3600352804,V.int u32 4094571909,V.int u32 275423344,V.int u32 430227734,V.int u32 506948616,V.int u32 659060556,V.int u32 883997877,V.int u32 958139571,V.int u32 1322822218,V.int u32 1537002063,V.int u32 1747873779,V.int u32 1955562222,V.int u32 2024104815,V.int u32 2227730452,V.int u32 2361852424,V.int u32 2428436474,V.int u32 2756734187,V.int u32 3204031479,V.int u32 3329325298].getD (0+j.toNat*1) (V.bool false)
def za_2(e f g h j:Int)(ws:List V):=(u32.wrap (u32.wrap (u32.wrap (h+u32.wrap (↑(BitVec.ofInt 32 (u32.wrap (↑(BitVec.ofInt 32 (rotI (e) 6)^^^BitVec.ofInt 32 (rotI (e) 11)).toNat:Int))^^^BitVec.ofInt 32 (rotI (e) 25)).toNat:Int))+u32.wrap (↑(BitVec.ofInt 32 (u32.wrap (↑(BitVec.ofInt 32 (e)&&&BitVec.ofInt 32 (f)).toNat:Int))^^^BitVec.ofInt 32 (u32.wrap (↑(BitVec.ofInt 32 (u32.wrap (↑(BitVec.ofInt 32 4294967295^^^BitVec.ofInt 32 (e)).toNat:Int))&&&BitVec.ofInt 32 (g)).toNat:Int))).toNat:Int))+au (za_1 j))+au (ws.getD (0+j.toNat*1) (V.bool false)))
theorem mix_round(a b c d e f g h:Int)(ws:List V)(m:Nat)(j:Int)(r was:List V)(R:Qz):aJ Qq T1 9 10 (ar 9) 136 58 [2,3,4,5,13] [.ptr 0 0,.ptr 1 0,.ptr 2 0,.ptr 3 0,.int .i64 j] [.row [.int .u32 a,.int .u32 b,.int .u32 c,.int .u32 d,.int .u32 e,.int .u32 f,.int .u32 g,.int .u32 h] 174 8,.row ws 177 m,.row r 174 8,.row was 174 8] R=
 (
 bif decide (j<64)then bif decide (0≤j)&&decide (j<64)then bif (0+j.toNat*1).blt 64 then bif aj u32 (za_1 j)then bif decide (0≤j)&&
 decide (j<64)then bif (0+j.toNat*1).blt ws.length then bif aj u32 (ws.getD (0+j.toNat*1) (.bool false))then R .normal [some (.ptr 0
 0),some (.ptr 1 0),some (.ptr 2 0),some (.ptr 3 0),some (.int i64 (i64.wrap (j+1)))] [.row [.int u32 (u32.wrap
 (u32.wrap (za_2 e f g h j ws)+u32.wrap (u32.wrap (↑(BitVec.ofInt 32 (u32.wrap (↑(BitVec.ofInt 32 (rotI (a) 2)^^^BitVec.ofInt
 32 (rotI (a) 13)).toNat:Int))^^^BitVec.ofInt 32 (rotI (a) 22)).toNat:Int)+u32.wrap (↑(BitVec.ofInt 32 (u32.wrap (↑(BitVec.ofInt 32
 (u32.wrap (↑(BitVec.ofInt 32 (a)&&&BitVec.ofInt 32 (b)).toNat:Int))^^^BitVec.ofInt 32 (u32.wrap (↑(BitVec.ofInt 32 (a)&&&BitVec.ofInt 32
 (c)).toNat:Int))).toNat:Int))^^^BitVec.ofInt 32 (u32.wrap (↑(BitVec.ofInt 32 (b)&&&BitVec.ofInt 32 (c)).toNat:Int))).toNat:Int)))),.int
 u32 (a),.int u32 (b),.int u32 (c),.int u32 (u32.wrap (d+u32.wrap (za_2 e f g h j ws))),.int u32
 (e),.int u32 (f),.int u32 (g)] 174 8,.row ws 177 m,.row r 174 8,.row was 174 8]else False else False else False else False else
 False else False else R (.exit 0) [some (.ptr 0 0),some (.ptr 1 0),some (.ptr 2 0),some (.ptr 3 0),some (.int i64 j)] [.row [.int
 u32 a,.int u32 b,.int u32 c,.int u32 d,.int u32 e,.int u32 f,.int u32 g,.int u32 h]
 174 8,.row ws 177 m,.row r 174 8,.row was 174 8]):=by kernel_rfl
structure MX where
 x:W8
 l:List V
 m:Nat
 r:W8
 was:W8
 j:Nat
def mxV(y:MX):List V:=[.ptr 0 0,.ptr 1 0,.ptr 2 0,.ptr 3 0,.int .i64 y.j]
def mxJ(y:MX):St:=[.row y.x.cells 174 8,.row y.l 177 y.m,.row y.r.cells 174 8,.row y.was.cells 174 8]
def iv(y:MX):Bool:=fj y.l&&(Nat.beq y.l.length 64&&Nat.ble y.j 64)
def mxMu(y:MX):Nat:=64-y.j
def mxOutG(ML:Nat→Nat→List V→W8→W8):Asks MX:=fun y K=>K (.exit 0) [.ptr 0 0,.ptr 1 0,.ptr 2 0,.ptr 3 0,.int .i64 64] [.row (ML (64-y.j) y.j y.l y.x).cells 174 8,.row y.l 177 y.m,.row y.r.cells 174 8,.row y.was.cells 174 8]
abbrev mxOut:Asks MX:=mxOutG mixL
theorem od(x:W8)(l:List V)(hl:fj l=true)(m:Nat)(r was:W8)(j:Int):Fits 0 [.ptr 0 0,.ptr 1 0,.ptr 2 0,.ptr 3 0,.int .i64 j] [.row x.cells 174 8,.row l 177 m,.row r.cells 174 8,.row was.cells 174 8]
  [some (.ptr 0 0),some (.ptr 1 0),some (.ptr 2 0),some (.ptr 3 0),some (.int .i64 j)] [.row x.cells 174 8,.row l 177 m,.row r.cells 174 8,.row was.cells 174 8]:=
 ⟨[0,1,2,3],[.ptr 0 0,.ptr 1 0,.ptr 2 0,.ptr 3 0,.int .i64 j],rfl,rfl,FitsM.of ⟨.inr ⟨_,.inl rfl,rfl⟩,.inr ⟨.row l 177 m,.inl (by simp only[renB,jZ _ l hl]),rfl⟩,.inr ⟨_,.inl rfl,rfl⟩,.inr ⟨_,.inl rfl,rfl⟩,trivial⟩,by decide,fun i hi=>by omega⟩
theorem mx_roundOk(y:MX)(hy:iv y=true):aJ Qq T1 9 10 (ar 9) 136 58 [2,3,4,5,13] (mxV y) (mxJ y) (aQ 0 iv mxV mxJ mxMu mxOut y):=by
 obtain⟨x,l,m,r,was,j⟩:=y;have p1:l.length=64:=by
  unfold iv at hy;rw[af]at hy;rw[af]at hy;exact aC hy.2.1
 have p2:j≤64:=by
  unfold iv at hy;rw[af]at hy;rw[af]at hy;exact aD hy.2.2
 have p0:fj l=true:=by
  unfold iv at hy;rw[af]at hy;exact hy.1
 clear hy;show aJ Qq T1 9 10 (ar 9) 136 58 [2,3,4,5,13] [.ptr 0 0,.ptr 1 0,.ptr 2 0,.ptr 3 0,.int .i64 j] [.row [.int .u32 x.a,.int .u32 x.b,.int .u32 x.c,.int .u32 x.d,.int .u32 x.e,.int .u32 x.f,.int .u32 x.g,.int .u32 x.h] 174 8,.row l 177 m,.row r.cells 174 8,.row was.cells 174 8] _;rw[mix_round];unfold za_2 za_1;cases hb:decide ((j:Int)<64)with
 |true=>
  have hj:j<64:=by have:=a8 hb;omega
  have e1:i64.wrap ((j:Int)+1)=((j+1:Nat):Int):=by rw[IntWalk.i64_in _ ⟨by omega,by omega⟩];omega
  have c1:decide ((0:Int)≤(j:Int))=true:=az (by omega);have c2:(0+j*1).blt 64=true:=ap (by omega);have c3:(0+j*1).blt l.length=true:=ap (by omega);have c4:∀i:Fin 64,aj .u32 (keyC.getD i.val (.bool false))=true:=by decide+kernel
  have c5:=c4 ⟨j,hj⟩;have e0:0+j*1=j:=by omega
  rw[bK,c1,c2,c3,e1,e0];simp only[Bool.and_self,ac];refine ah c5 ?_;refine ah (eS p0 (by omega)) ?_;refine⟨⟨mixR x (keyI j) (wI l j),l,m,r,was,j+1⟩,?_,od _ l p0 m r was _,by simp only[mxMu];omega,fun K hK=>?_⟩
  ·unfold iv;rw[af,af];exact⟨p0,by rw[p1];rfl,ap hj⟩
  ·have hK:K _ _ _:=hK;have:64-j=(64-(j+1))+1:=by omega
   rw[this]at hK;exact hK
 |false=>
  have hj:j=64:=by have:=of_decide_eq_false hb;omega
  subst hj;exact⟨_,_,fun K hK=>hK,od x l p0 m r was 64⟩
def mxDec:List (Option V)→St→Option MX
 |[some (.ptr 0 0),some (.ptr 1 0),some (.ptr 2 0),some (.ptr 3 0),some (.int .i64 0)],
  .row [.int .u32 a,.int .u32 b,.int .u32 c,.int .u32 d,.int .u32 e,.int .u32 f,.int .u32 g,.int .u32 h] _ _::.row ws _ m::.row [.int .u32 a2,.int .u32 b2,.int .u32 c2,.int .u32 d2,.int .u32 e2,.int .u32 f2,.int .u32 g2,.int .u32 h2] _ _::.row [.int .u32 a3,.int .u32 b3,.int .u32 c3,.int .u32 d3,.int .u32 e3,.int .u32 f3,.int .u32 g3,.int .u32 h3] _ _::_=>
   some ⟨⟨a,b,c,d,e,f,g,h⟩,ws,m,⟨a2,b2,c2,d2,e2,f2,g2,h2⟩,⟨a3,b3,c3,d3,e3,f3,g3,h3⟩,0⟩
 |_,_=>none
end Go.Proofs.YtebkeppoicllmaaGreatDoor
namespace Go.Proofs.YtebkeppoicllmaaGreatDoor
open Go Go.Vm Go.RowKit
variable [Φ:Frz]
theorem ble_dec(a b:Nat):Nat.ble a b=decide (a≤b):=by
 cases h:Nat.ble a b with
 |true=>exact(az (aD h)).symm
 |false=>exact(decide_eq_false fun hl=>by rw[ap hl]at h;cases h).symm
theorem blt_dec(a b:Nat):Nat.blt a b=decide (a<b):=ble_dec (a+1) b
def okTag(t:Int):Bool:=decide (0≤t)&&decide (t<256)
def lenB(n:Nat):List UInt8:=if n>255 then[130,UInt8.ofNat (n/256),UInt8.ofNat n]else if n>127 then[129,UInt8.ofNat n]else[UInt8.ofNat n]
def putE(t:Int)(s:List UInt8):Int:=if t%32=31 then 4 else if s.length>65535 then 40 else 0
def putB(t:Int)(s:List UInt8):List UInt8:=if t%32=31 then[]else if s.length>65535 then[]else UInt8.ofNat t.toNat::(lenB s.length++s)
def putF:List V→Option (Qx)
 |[.agg [.int .u8 t,.str s]]=>some [(okTag t,(.tuple [.str (putB t s),.int .i64 (putE t s)],[]))]
 |_=>none
def dz:List UInt8→Nat×Nat×Int
 |[]=>(0,0,8)
 |a::r=>if a.toNat≤127 then(a.toNat,1,0)else if a.toNat=129 then(match r with
   |[]=>(0,0,8)
   |b::_=>if b.toNat≤127 then(0,0,4)else(b.toNat,2,0))
  else if a.toNat=130 then(match r with
   |[]=>(0,0,8)
   |b::r=>if b.toNat=0 then(0,0,4)else match r with
    |[]=>(0,0,8)
    |c::_=>(b.toNat*256+c.toNat,3,0))
  else(0,0,4)
def ez(s:List UInt8):Nat:=(dz s).1
def ey(s:List UInt8):Nat:=(dz s).2.1
def kS(s:List UInt8):Int:=(dz s).2.2
def getE:List UInt8→Int
 |[]=>8
 |t::r=>if t.toNat%32=31 then 4 else if kS r=0 then(if r.length<ey r+ez r then 8 else 0)else kS r
def getT(s:List UInt8):Int:=if getE s=0 then((s.getD 0 0).toNat:Int)else 0
def getX(s:List UInt8):List UInt8:=if getE s=0 then((s.drop 1).drop (ey (s.drop 1))).take (ez (s.drop 1))else[]
def getR(s:List UInt8):List UInt8:=if getE s=0 then((s.drop 1).drop (ey (s.drop 1))).drop (ez (s.drop 1))else[]
def aF(s:List UInt8):Bool:=decide (s.length≤1099511627776)
def getF:List V→Option (Qx)
 |[.str s]=>some [(aF s,(.tuple [.agg [.int .u8 (getT s),.str (getX s)],.str (getR s),.int .i64 (getE s)],[]))]
 |_=>none
theorem size_small(s:List UInt8):ez s≤65535∧ey s≤3:=by
 unfold ez ey
 match s with
 |[]=>simp[dz]
 |[a]=>
  have ha:=a.toNat_lt;simp only[dz];(repeat' split)<;>simp<;>omega
 |[a,b]=>
  have ha:=a.toNat_lt;have hb:=b.toNat_lt;simp only[dz];(repeat' split)<;>simp<;>omega
 |a::b::c::r=>
  have ha:=a.toNat_lt;have hb:=b.toNat_lt;have hc:=c.toNat_lt;simp only[dz];(repeat' split)<;>simp<;>omega
end Go.Proofs.YtebkeppoicllmaaGreatDoor
namespace Go.Proofs.YtebkeppoicllmaaGreatDoor
open Go.IntKind (u8 u16 u32 u64 i8 i16 i32 i64)
open Go Go.Vm Go.RowKit
variable [Φ:Frz]
def N0:Tab:=⟨noT,noL,bk 9⟩
theorem N0_ok:TabOk3 Qq N0:=⟨aW,aX,aE 9⟩
def zc_0(s:List UInt8)(i:Int):=[some (V.str s),some (V.bool false),some (V.bool false),some (V.int i64 (↑s.length:Int)),some (V.int i64 (i64.wrap (i+1)))]
def zc_1(s:List UInt8)(d:Bool)(i:Int):=[some (V.str s),some (V.bool false),some (V.bool d),some (V.int i64 (↑s.length:Int)),some (V.int i64 i)]
def zc_2(s:List UInt8)(i:Int):=(↑(s.getD i.toNat 0).toNat:Int)
theorem lb_round(s:List UInt8)(d:Bool)(i:Int)(R:Qz):aJ Qq N0 9 10 (ar 9) 178 218 [0,2,3,28,29] [.str s,.bool false,.bool d,.int .i64 s.length,.int .i64 i] [] R=
 (
 bif decide (i<(↑s.length:Int))then bif decide (0≤i)&&i.toNat.blt s.length then bif decide ((zc_2 s i)≥48)then bif decide ((zc_2 s i)≤57)then R
 .normal [some (.str s),some (.bool false),some (.bool d),some (.int i64 (↑s.length:Int)),some (.int i64 (i64.wrap (i+
 1)))] []else bif decide ((zc_2 s i)≥97)then bif decide ((zc_2 s i)≤122)then R .normal (zc_0 s i) []else bif (zc_2 s i)==45 then R .normal (zc_0
 s i) []else R (Exit.goto 0) (zc_1 s d i) []else bif (zc_2 s i)==45 then R .normal (zc_0 s i) []else R (Exit.goto 0) (zc_1 s d i) []else bif decide
 ((zc_2 s i)≥97)then bif decide ((zc_2 s i)≤122)then R .normal (zc_0 s i) []else bif (zc_2 s i)==45 then R .normal (zc_0 s i) []else R
 (Exit.goto 0) (zc_1 s d i) []else bif (zc_2 s i)==45 then R .normal (zc_0 s i) []else R (Exit.goto 0) (zc_1 s d i) []else False else R (.exit 0)
 (zc_1 s d i) []):=by kernel_rfl
theorem ff{s:List UInt8}{i:Nat}(h:s.drop i=[])(hi:i≤s.length):i=s.length:=by
 have:=congrArg List.length h;simp at this;omega
theorem dJ{s r:List UInt8}{i:Nat}{c:UInt8}(h:s.drop i=c::r):s.getD i 0=c∧s.drop (i+1)=r∧i<s.length:=by
 have hl:i<s.length:=by
  have:=congrArg List.length h;simp at this;omega
 rw[List.drop_eq_getElem_cons hl]at h;injection h with h1 h2
 exact⟨by rw[List.getD_eq_getElem?_getD,List.getElem?_eq_getElem hl,Option.getD_some,h1],h2,hl⟩
def cV(b:UInt8):Nat:=if 48≤b.toNat∧b.toNat≤57 then 0 else if(97≤b.toNat∧b.toNat≤122)∨b.toNat=45 then 1 else 2
def cH(s:List UInt8):Bool:=s.all fun b=>Nat.blt (cV b) 2
def bC(s:List UInt8):Bool:=s.all fun b=>Nat.beq (cV b) 0
structure LB where
 s:List UInt8
 d:Bool
 i:Nat
def lbV(x:LB):List V:=[.str x.s,.bool false,.bool x.d,.int .i64 x.s.length,.int .i64 x.i]
def lbJ(_:LB):St:=[]
def iy(x:LB):Bool:=Nat.ble x.i x.s.length&&Nat.ble x.s.length 63
def lbMu(x:LB):Nat:=x.s.length-x.i
def lbDec:List (Option V)→St→Option LB
 |[some (.str s),some (.bool false),some (.bool d),some (.int .i64 _),some (.int .i64 0)],_=>some ⟨s,d,0⟩
 |_,_=>none
def jM(g d:Bool)(s:List UInt8)(K:Exit→List V→St→Prop):Prop:=
 bif g then K (.exit 0) [.str s,.bool false,.bool d,.int .i64 s.length,.int .i64 s.length] []else ∀(e:Bool) (j:Int),K (.goto 0) [.str s,.bool false,.bool e,.int .i64 s.length,.int .i64 j] []
def lbOut:Asks LB:=fun x K=>jM (cH (x.s.drop x.i)) (x.d&&bC (x.s.drop x.i)) x.s K
theorem bZ(vs:List V)(h:ax vs=true)(l:List (Option V))(hl:l=vs.map some)(st:St):Fits 0 vs [] l st:=⟨[],vs,hl,bu vs h,FitsM.of trivial,by simp,fun i hi=>by omega⟩
theorem lb_roundOk(x:LB)(hx:iy x=true):aJ Qq N0 9 10 (ar 9) 178 218 [0,2,3,28,29] (lbV x) (lbJ x) (aQ 0 iy lbV lbJ lbMu lbOut x):=by
 obtain⟨s,d,i⟩:=x;unfold iy at hx;rw[af]at hx;have p1:i≤s.length:=aD hx.1;have p2:s.length≤63:=aD hx.2;show aJ Qq N0 9 10 (ar 9) 178 218 [0,2,3,28,29] [.str s,.bool false,.bool d,.int .i64 s.length,.int .i64 i] [] _;rw[lb_round];unfold zc_2 zc_1 zc_0;cases hd:s.drop i with
 |nil=>
  have hi:=ff hd p1;rw[decide_eq_false (show ¬((i:Int)<(s.length:Int)) by omega),ai];refine⟨[.str s,.bool false,.bool d,.int .i64 s.length,.int .i64 i],[],fun K hK=>?_,bZ _ rfl _ rfl _⟩;have hK:jM (cH (s.drop i)) (d&&bC (s.drop i)) s K:=hK;rw[hd]at hK;simp only[jM,cH,bC,List.all_nil,ac,Bool.and_true]at hK;rw[hi];exact hK
 |cons c r=>
  obtain⟨e1,e2,e3⟩:=dJ hd;have hc:=c.toNat_lt;rw[az (show((i:Int)<(s.length:Int)) by omega),ac];simp only[bK,e1];have hm:(decide ((0:Int)≤(i:Int))&&i.blt s.length)=true:=by rw[af];exact⟨az (by omega),ap e3⟩
  rw[hm,ac,show i64.wrap ((i:Int)+1)=((i+1:Nat):Int) by rw[IntWalk.i64_in _ ⟨by omega,by omega⟩];omega];have again:∀b:Bool,cV c<2→(d&&bC (c::r))=(b&&bC r)→aQ 0 iy lbV lbJ lbMu lbOut ⟨s,d,i⟩ .normal [some (.str s),some (.bool false),some (.bool b),some (.int .i64 s.length),some (.int .i64 ((i+1:Nat):Int))] []:=by
   intro b h1 h2;refine⟨⟨s,b,i+1⟩,?_,bZ _ rfl _ rfl _,by simp only[lbMu];omega,fun K hK=>?_⟩
   ·unfold iy;rw[af];exact⟨ap (show i+1≤s.length by omega),ap p2⟩
   ·have hK:jM (cH (s.drop i)) (d&&bC (s.drop i)) s K:=hK;show jM (cH (s.drop (i+1))) (b&&bC (s.drop (i+1))) s K;rw[hd,h2]at hK;rw[e2];have:cH (c::r)=cH r:=by
     have:Nat.blt (cV c) 2=true:=ap h1;simp only[cH,List.all_cons,this,ay]
    rw[this]at hK;exact hK
  have bad:2≤cV c→aQ 0 iy lbV lbJ lbMu lbOut ⟨s,d,i⟩ (.goto 0) [some (.str s),some (.bool false),some (.bool d),some (.int .i64 s.length),some (.int .i64 (i:Int))] []:=by
   intro h1;refine⟨[.str s,.bool false,.bool d,.int .i64 s.length,.int .i64 i],[],fun K hK=>?_,bZ _ rfl _ rfl _⟩;have hK:jM (cH (s.drop i)) (d&&bC (s.drop i)) s K:=hK;have:cH (c::r)=false:=by
    have:Nat.blt (cV c) 2=false:=by rw[blt_dec];exact decide_eq_false (by omega)
    simp only[cH,List.all_cons,this,Bool.false_and]
   rw[hd,this]at hK;exact hK d i
  have k0:48≤c.toNat→c.toNat≤57→cV c=0:=fun a b=>by unfold cV;rw[if_pos ⟨a,b⟩]
  have k1:¬(48≤c.toNat∧c.toNat≤57)→(97≤c.toNat∧c.toNat≤122)∨c.toNat=45→cV c=1:=fun a b=>by unfold cV;rw[if_neg a,if_pos b]
  have k2:¬(48≤c.toNat∧c.toNat≤57)→¬((97≤c.toNat∧c.toNat≤122)∨c.toNat=45)→cV c=2:=fun a b=>by unfold cV;rw[if_neg a,if_neg b]
  have d0:cV c=0→(d&&bC (c::r))=(d&&bC r):=fun h=>by simp only[bC,List.all_cons,h];rfl
  have d1:cV c=1→(d&&bC (c::r))=(false&&bC r):=fun h=>by simp only[bC,List.all_cons,h];cases d<;>rfl
  repeat' (refine ao (fun h=>?_) (fun h=>?_))
  all_goals simp only[decide_eq_true_eq,decide_eq_false_iff_not,beq_iff_eq,beq_eq_false_iff_ne]at*
  ·have hk:=k0 (by omega) (by omega);exact again d (by omega) (d0 hk)
  ·have hk:=k1 (by omega) (by omega);exact again false (by omega) (d1 hk)
  ·have hk:=k1 (by omega) (by omega);exact again false (by omega) (d1 hk)
  ·exact bad (by rw[k2 (by omega) (by omega)];exact Nat.le_refl _)
  ·have hk:=k1 (by omega) (by omega);exact again false (by omega) (d1 hk)
  ·exact bad (by rw[k2 (by omega) (by omega)];exact Nat.le_refl _)
  ·have hk:=k1 (by omega) (by omega);exact again false (by omega) (d1 hk)
  ·have hk:=k1 (by omega) (by omega);exact again false (by omega) (d1 hk)
  ·exact bad (by rw[k2 (by omega) (by omega)];exact Nat.le_refl _)
  ·have hk:=k1 (by omega) (by omega);exact again false (by omega) (d1 hk)
  ·exact bad (by rw[k2 (by omega) (by omega)];exact Nat.le_refl _)
def lk53:Nat→Trans→Trans:=bq 218 (dc 0 (szOf Qq 178) [0,2,3,28,29] lbDec iy lbV lbJ lbOut) (ar 9)
theorem lk53_ok:ba Qq 0 lk53 178:=by
 unfold lk53;exact cx (bJ 9 0 178) (by kernel_rfl) fun f st Q h=>bO (P:=Qq) (T:=N0) (k:=0) (lim:=9) (n:=10) (g:=178) (p0:=218) (lk:=ar 9) aI N0_ok (bt 9 _ _) lbMu lb_roundOk h
def N1:Tab:=⟨noT,noL,er (bk 9) 178 0 lk53⟩
theorem N1_ok:TabOk3 Qq N1:=⟨aW,aX,cD (aE 9) lk53_ok⟩
theorem lab_tree(s:List UInt8)(R:V→Prop):runW Qq N1 9 20 178 [.str s] R=
  (
 bif decide ((↑s.length:Int)<1)then R (.tuple [.bool false,.bool false])else bif decide ((↑s.length:Int)>63)then R (.tuple [.bool false,.bool false])
 else bif true&&Nat.blt 0 s.length then bif (↑(s.getD 0 0).toNat:Int)==45 then R (.tuple [.bool false,.bool false])else bif decide (0≤i64.wrap
 ((↑s.length:Int)-1))&&(i64.wrap ((↑s.length:Int)-1)).toNat.blt s.length then bif (↑(s.getD (i64.wrap ((↑s.length:Int)-1)).toNat 0).toNat:
 Int)==45 then R (.tuple [.bool false,.bool false])else Fits 0 [.str s,.bool false,.bool true,.int i64 (↑s.length:Int),.int i64 0] []
 [some (.str s),some (.bool false),some (.bool true),some (.int i64 (↑s.length:Int)),some (.int i64 0)] []∧bif iy {s:=s,d:=true,i:=0}
 then bif cH (List.drop 0 s)then R (.tuple [.bool true,.bool (true&&bC (List.drop 0 s))])else ∀(e:Bool) (j:Int),R (.tuple [.bool false,.bool
 false])else False else False else False):=by kernel_rfl
theorem cut_tree(s:List UInt8)(R:V→Prop):runW Qq N0 9 20 123 [.str s,.str [46]] R=
  (
 bif [46]==s then bif Nat.ble 1 s.length&&s.length.ble s.length then R (.tuple [.str (List.take 0 (List.drop 0 s)),.str (List.take (s.length-1) (List.drop 1 s)),
 .bool true])else False else bif decide (Lib.indexByte s 46≥0)then bif decide (0≤Lib.indexByte s 46)then bif true&&(Lib.indexByte s 46).toNat.ble s.length then
 bif decide (0≤i64.wrap (Lib.indexByte s 46+1))then bif (i64.wrap (Lib.indexByte s 46+1)).toNat.ble s.length&&s.length.ble s.length then R
 (.tuple [.str (List.take ((Lib.indexByte s 46).toNat-0) (List.drop 0 s)),.str (List.take (s.length-(i64.wrap (Lib.indexByte s 46+1)).toNat) (List.drop
 (i64.wrap (Lib.indexByte s 46+1)).toNat s)),.bool true])else False else False else False else False else R (.tuple [.str s,.str [],.bool false])):=by kernel_rfl
theorem tp_tree(s:List UInt8)(R:V→Prop):runW Qq N0 9 20 177 [.str s,.str [42,46]] R=
  (
 bif decide ((↑s.length:Int)≥2)then bif true&&Nat.ble 2 s.length then bif List.take 2 (List.drop 0 s)==[42,46]then bif Nat.ble 2 s.length&&s.length.ble
 s.length then R (.str (List.take (s.length-2) (List.drop 2 s)))else False else R (.str s)else False else R (.str s)):=by kernel_rfl
def bG(s:List UInt8):Bool:=decide (1≤s.length)&&(decide (s.length≤63)&&(!((s.getD 0 0).toNat==45)&&(!((s.getD (s.length-1) 0).toNat==45)&&cH s)))
def labP:List V→Option V
 |[.str s]=>some (.tuple [.bool (bG s),.bool (bG s&&bC s)])
 |_=>none
theorem lab_ok(args:List V)(v:V)(h:labP args=some v):FnSat Qq 178 args [] (Is (v,[])):=by
 unfold labP at h;split at h
 ·rename_i s;cases h;refine aP (lim:=9) (n:=20) aI N1_ok rfl rfl ?_;rw[lab_tree];unfold bG;refine ao (fun h=>?_) (fun h=>?_)
  ·have h:=a8 h;rw[decide_eq_false (show ¬1≤s.length by omega)];rfl
  have h:=of_decide_eq_false h;rw[az (show 1≤s.length by omega)];refine ao (fun h1=>?_) (fun h1=>?_)
  ·have h1:=a8 h1;rw[decide_eq_false (show ¬s.length≤63 by omega)];rfl
  have h1:=of_decide_eq_false h1;rw[az (show s.length≤63 by omega)];have e1:i64.wrap ((s.length:Int)-1)=((s.length-1:Nat):Int):=by rw[IntWalk.i64_in _ ⟨by omega,by omega⟩];omega
  have e2:(true&&Nat.blt 0 s.length)=true:=by rw[ay];exact ap (by omega)
  have e3:(decide ((0:Int)≤((s.length-1:Nat):Int))&&(s.length-1).blt s.length)=true:=by rw[af];exact⟨az (by omega),ap (by omega)⟩
  have c1:∀b:UInt8,((b.toNat:Int)==45)=(b.toNat==45):=fun b=>by
   rw[Bool.eq_iff_iff,beq_iff_eq,beq_iff_eq];omega
  have c2:iy ⟨s,true,0⟩=true:=by unfold iy;rw[af];exact⟨ap (Nat.zero_le _),ap (show s.length≤63 by omega)⟩
  simp only[e1,e2,bK,e3,ac,c1,c2,List.drop_zero,ay];refine ao (fun h2=>?_) (fun h2=>?_)
  ·rw[h2];rfl
  refine ao (fun h3=>?_) (fun h3=>?_)
  ·rw[h2,h3];rfl
  refine⟨bZ _ rfl _ rfl _,?_⟩;rw[h2,h3];refine ao (fun h4=>?_) (fun h4=>?_)
  ·rw[h4];rfl
  ·intro _ _;rw[h4];rfl
 ·cases h
def cutA:List UInt8→List UInt8×Option (List UInt8)
 |[]=>([],none)
 |c::r=>if c=46 then([],some r)else(c::(cutA r).1,(cutA r).2)
theorem ii:∀s:List UInt8,(Lib.indexByte s 46=-1∧cutA s=(s,none))∨∃o:Nat,Lib.indexByte s 46=o∧o<s.length∧cutA s=(s.take o,some (s.drop (o+1)))
 |[]=>.inl ⟨rfl,rfl⟩
 |c::r=>by
  by_cases hc:c=46
  ·subst hc;exact .inr ⟨0,by simp[Lib.indexByte],by simp,by simp[cutA]⟩
  ·have h1:(c==46)=false:=by simpa using hc
   rcases ii r with⟨h2,h3⟩|⟨o,h2,h3,h4⟩
   ·exact .inl ⟨by simp[Lib.indexByte,h1,h2],by simp[cutA,hc,h3]⟩
   ·refine .inr ⟨o+1,?_,by simp only[List.length_cons];omega,by simp[cutA,hc,h4]⟩;have:(((o:Int))==-1)=false:=by
     cases hq:((o:Int)==-1)with
     |false=>rfl
     |true=>have:=beq_iff_eq.1 hq;omega
    simp[Lib.indexByte,h1,h2,this]
def cutB(s:List UInt8):List UInt8:=(cutA s).1
def cutR(s:List UInt8):List UInt8:=(cutA s).2.getD []
def cutM(s:List UInt8):Bool:=(cutA s).2.isSome
def cutP:List V→Option (Qx)
 |[.str s,.str [46]]=>some [(aF s,(.tuple [.str (cutB s),.str (cutR s),.bool (cutM s)],[]))]
 |_=>none
theorem cut_ok(args:List V)(l:Qx)(o:V×St)(h:cutP args=some l)(ho:aO l=some o):FnSat Qq 123 args [] (Is o):=by
 unfold cutP at h;split at h
 ·rename_i s;cases h;cases hk:aF s with
  |false=>rw[hk]at ho;cases ho
  |true=>
   rw[hk]at ho;cases ho;have hl:s.length≤1099511627776:=a8 hk;refine aP (lim:=9) (n:=20) aI N0_ok rfl rfl ?_;rw[cut_tree];unfold cutB cutR cutM;refine ao (fun h1=>?_) (fun h1=>?_)
   ·have h1:[46]=s:=eq_of_beq h1;subst h1;rfl
   ·rcases ii s with⟨h2,h3⟩|⟨o,h2,h3,h4⟩
    ·rw[h2,h3];rfl
    ·rw[h2,h4];have e1:i64.wrap ((o:Int)+1)=((o+1:Nat):Int):=by rw[IntWalk.i64_in _ ⟨by omega,by omega⟩];omega
     simp only[e1,bK];refine ao (fun _=>?_) (fun h5=>absurd (of_decide_eq_false h5) (by omega));refine ah (az (by omega)) (ah (by rw[ay];exact ap (by omega)) (ah (az (by omega)) (ah ?_ ?_)))
     ·rw[af];exact⟨ap (by omega),ap (Nat.le_refl _)⟩
     ·simp only[Nat.sub_zero,List.drop_zero,Option.getD_some,Option.isSome_some];rw[List.take_of_length_le (l:=s.drop (o+1)) (by rw[List.length_drop];omega)]
 ·cases h
def du(s:List UInt8):List UInt8:=if s.take 2=[42,46]then s.drop 2 else s
def tpP:List V→Option V
 |[.str s,.str [42,46]]=>some (.str (du s))
 |_=>none
theorem tp_ok(args:List V)(v:V)(h:tpP args=some v):FnSat Qq 177 args [] (Is (v,[])):=by
 unfold tpP at h;split at h
 ·rename_i s;cases h;refine aP (lim:=9) (n:=20) aI N0_ok rfl rfl ?_;rw[tp_tree];unfold du;refine ao (fun h1=>?_) (fun h1=>?_)
  ·have h1:=a8 h1;have e:(true&&Nat.ble 2 s.length)=true:=by rw[ay];exact ap (by omega)
   rw[e,ac,List.drop_zero];refine ao (fun h2=>?_) (fun h2=>?_)
   ·have e2:(Nat.ble 2 s.length&&s.length.ble s.length)=true:=by rw[af];exact⟨ap (by omega),ap (Nat.le_refl _)⟩
    rw[e2,ac,if_pos (eq_of_beq h2),List.take_of_length_le (by rw[List.length_drop];omega)]
   ·rw[if_neg (fun h3=>by rw[h3]at h2;cases h2)]
  ·have h1:=of_decide_eq_false h1;rw[if_neg];intro h3;have:=congrArg List.length h3;simp at this;omega
 ·cases h
def N2:Tab:=⟨addP (addT (addP noT 178 labP) 123 cutP) 177 tpP,noL,bk 9⟩
theorem N2_ok:TabOk3 Qq N2:=⟨bh (bg (bh aW lab_ok) cut_ok) tp_ok,aX,aE 9⟩
def ek:Code→Option (Array Tmp×Code×Code)
 |.seq a b=>(ek a).or (ek b)
 |.cond _ a b=>(ek a).or (ek b)
 |.block _ c=>ek c
 |.loop c=>ek c
 |.rangeFunc _ ps asg bd=>some (ps,asg,bd)
 |_=>none
def nmRg:Array Tmp×Code×Code:=(ek (lZ Qq 131)).getD (#[],.skip,.skip)
def nmAs:Code:=nmRg.2.1
def nmBd:Code:=nmRg.2.2
def rgLoopN(P:Program)(g:Nat)(s:LoopState)(p:Option Code)(T:List (Nat×V))(dn:Nat):Blk:=match ek (lZ P g)with
 |some (ps,asg,bd)=>.loop s p (szOf P g) (mL .lf T) ps asg bd dn
 |none=>.dead
def nmT:List (Nat×V):=[(2,.ptr 0 0),(3,.ptr 1 0)]
def nmL(s:LoopState)(p:Option Code):Blk:=rgLoopN Qq 131 s p nmT 3
def nmM(d:Bool)(s:List UInt8)(l:LoopState)(p:Option Code):St:=[.row [.bool false] 4 1,.row [.bool d] 4 1,.row [.str s] 9 1,.defd,nmL l p]
theorem nm_round(d:Bool)(s:List UInt8)(R:Qz):aJ Qq N2 9 10 (ar 9) 182 2 [0,1] [.yield 4,.ptr 2 0] (nmM d s .ready none) R=
  (
 bif aF s then bif !bG (cutB s)then R .ret [some (V.yield 4),some (.ptr 2 0)] [.row [.bool false] 4 1,.row [.bool d] 4 1,.row [.str s] 9 1,
 Blk.defd,nmL LoopState.done (some Code.ret)]else bif !cutM s then R .ret [some (V.yield 4),some (.ptr 2 0)] [.row [.bool false] 4 1,.row [.bool (bG
 (cutB s)&&bC (cutB s))] 4 1,.row [.str s] 9 1,Blk.defd,nmL LoopState.ready none]else R .normal [some (V.yield 4),some (.ptr 2 0)] [.row [.bool
 false] 4 1,.row [.bool (bG (cutB s)&&bC (cutB s))] 4 1,.row [.str (cutR s)] 9 1,Blk.defd,nmL LoopState.ready none]else False):=by kernel_rfl
theorem jw{s:List UInt8}(h:cutM s=true):(cutR s).length<s.length:=by
 unfold cutM at h;unfold cutR;rcases ii s with⟨_,h3⟩|⟨o,_,h3,h4⟩
 ·rw[h3]at h;cases h
 ·rw[h4,Option.getD_some,List.length_drop];omega
theorem cutR_le(s:List UInt8):(cutR s).length≤s.length:=by
 unfold cutR;rcases ii s with⟨_,h3⟩|⟨o,_,h3,h4⟩
 ·rw[h3];simp
 ·rw[h4,Option.getD_some,List.length_drop];omega
def nmA:Nat→List UInt8→Bool×Bool
 |0,_=>(false,false)
 |k+1,s=>bif bG (cutB s)then(bif cutM s then nmA k (cutR s)else(true,bC (cutB s)))else(false,false)
theorem nmA_fuel:∀(k j:Nat) (s:List UInt8),s.length<k→s.length<j→nmA k s=nmA j s
 |0,_,s,h,_=>by omega
 |_+1,0,s,_,h=>by omega
 |k+1,j+1,s,h1,h2=>by
  rw[nmA,nmA];cases hl:bG (cutB s)with
  |false=>rfl
  |true=>
   cases hm:cutM s with
   |false=>rfl
   |true=>
    have hlt:=jw hm;rw[ac,ac,ac,ac];exact nmA_fuel k j _ (by omega) (by omega)
def nmO(s:List UInt8):Bool:=(nmA (s.length+1) s).1
def nmD(s:List UInt8):Bool:=(nmA (s.length+1) s).2
theorem nm_bad{s:List UInt8}(h:bG (cutB s)=false):nmO s=false:=by unfold nmO;rw[nmA,h];rfl
theorem nm_end{s:List UInt8}(h:bG (cutB s)=true)(hm:cutM s=false):nmO s=true∧nmD s=bC (cutB s):=by unfold nmO nmD;rw[nmA,h,hm];exact⟨rfl,rfl⟩
theorem nm_next{s:List UInt8}(h:bG (cutB s)=true)(hm:cutM s=true):nmO s=nmO (cutR s)∧nmD s=nmD (cutR s):=by
 have hlt:=jw hm;unfold nmO nmD;rw[nmA,h,hm,ac,ac,nmA_fuel s.length ((cutR s).length+1) _ (by omega) (by omega)];exact⟨rfl,rfl⟩
structure NM where
 d:Bool
 s:List UInt8
def nmV(_:NM):List V:=[.yield 4,.ptr 2 0]
def nmJ(x:NM):St:=nmM x.d x.s .ready none
def nmPre(x:NM):Bool:=aF x.s
def nmMu(x:NM):Nat:=x.s.length
def nmDec:List (Option V)→St→Option NM
 |[some (.yield 4),some (.ptr 2 0)],(.row [.bool false] _ _)::(.row [.bool d] _ _)::(.row [.str s] _ _)::_=>some ⟨d,s⟩
 |_,_=>none
def n9(o d:Bool)(K:Exit→List V→St→Prop):Prop:=
 bif o then ∀s:List UInt8,K .ret [.yield 4,.ptr 2 0] (nmM d s .ready none)else ∀(e:Bool) (s:List UInt8),K .ret [.yield 4,.ptr 2 0] (nmM e s .done (some .ret))
def nmOut:Asks NM:=fun x K=>n9 (nmO x.s) (nmD x.s) K
theorem nmL_fit(σ:List Nat)(h0:σ[0]?=some 0)(h1:σ[1]?=some 1)(h3:σ[3]?=some 3)(s:LoopState)(p:Option Code):FitB σ (nmL s p) (nmL s p):=by
 unfold nmL rgLoopN;split
 ·refine .inr ⟨_,_,_,_,_,_,_,_,_,_,rfl,rfl,h3,FitT.of (fun t v hm=>?_)⟩;simp only[nmT,List.mem_cons,Prod.mk.injEq,List.not_mem_nil,or_false]at hm;rcases hm with⟨rfl,rfl⟩|⟨rfl,rfl⟩
  ·exact⟨.ptr 0 0,by simp[renV,h0],rfl⟩
  ·exact⟨.ptr 1 0,by simp[renV,h1],rfl⟩
 ·exact .inl rfl
theorem n8(d:Bool)(s:List UInt8)(l:LoopState)(p:Option Code):Fits 5 [.yield 4,.ptr 2 0] (nmM d s l p) [some (.yield 4),some (.ptr 2 0)] (nmM d s l p):=
 ⟨[0,1,2,3,4],[.yield 4,.ptr 2 0],rfl,rfl,FitsM.of ⟨.inr ⟨_,.inl rfl,rfl⟩,.inr ⟨_,.inl rfl,rfl⟩,.inr ⟨_,.inl rfl,rfl⟩,.inr ⟨_,.inl rfl,rfl⟩,.inr ⟨_,nmL_fit _ rfl rfl rfl l p,rfl⟩,trivial⟩,by decide,fun i hi=>by
   match i,hi with
   |0,_|1,_|2,_|3,_|4,_=>rfl⟩
theorem nm_roundOk(x:NM)(hx:nmPre x=true):aJ Qq N2 9 10 (ar 9) 182 2 [0,1] (nmV x) (nmJ x) (aQ 5 nmPre nmV nmJ nmMu nmOut x):=by
 obtain⟨d,s⟩:=x;have hx:aF s=true:=hx;show aJ Qq N2 9 10 (ar 9) 182 2 [0,1] [.yield 4,.ptr 2 0] (nmM d s .ready none) _;rw[nm_round,hx,ac];cases hl:bG (cutB s)with
 |false=>
  refine⟨_,_,fun K hK=>?_,n8 d s .done (some .ret)⟩;have hK:n9 (nmO s) (nmD s) K:=hK;rw[nm_bad hl]at hK;exact hK d s
 |true=>
  cases hm:cutM s with
  |false=>
   obtain⟨h1,h2⟩:=nm_end hl hm;refine⟨_,_,fun K hK=>?_,n8 _ s .ready none⟩;have hK:n9 (nmO s) (nmD s) K:=hK;rw[h1,h2]at hK;exact hK s
  |true=>
   obtain⟨h1,h2⟩:=nm_next hl hm;refine⟨⟨bC (cutB s),cutR s⟩,?_,n8 _ (cutR s) .ready none,jw hm,fun K hK=>?_⟩
   ·exact az (Nat.le_trans (cutR_le s) (a8 hx))
   ·have hK:n9 (nmO s) (nmD s) K:=hK;rw[h1,h2]at hK;exact hK
def lk55:Nat→Trans→Trans:=bq 2 (dc 5 (szOf Qq 182) [0,1] nmDec nmPre nmV nmJ nmOut) (ar 9)
theorem lk55_ok:ba Qq 5 lk55 182:=by
 unfold lk55;exact cx (bJ 9 5 182) (by kernel_rfl) fun f st Q h=>bO (P:=Qq) (T:=N2) (k:=5) (lim:=9) (n:=10) (g:=182) (p0:=2) (lk:=ar 9) aI N2_ok (bt 9 _ _) nmMu nm_roundOk h
def N3:Tab:=⟨addP (addT (addP noT 178 labP) 123 cutP) 177 tpP,noL,er (bk 9) 182 5 lk55⟩
theorem N3_ok:TabOk3 Qq N3:=⟨bh (bg (bh aW lab_ok) cut_ok) tp_ok,aX,cD (aE 9) lk55_ok⟩
theorem may_tree(s:List UInt8)(R:V→Prop):runW Qq N3 9 10 131 [.str s] R=
  (
 bif decide ((↑s.length:Int)>253)then R (.bool false)else Fits 5 [V.yield 4,.ptr 2 0] [.row [.bool false] 4 1,.row [.bool false] 4 1,.row [.str s] 9
 1,Blk.defd,nmL LoopState.ready none] [some (V.yield 4),some (.ptr 2 0)] [.row [.bool false] 4 1,.row [.bool false] 4 1,.row [.str s] 9 1,Blk.defd,
 Blk.loop LoopState.ready none 23 ((((Tr.lf.nd (some (.str s)) Tr.lf).nd (some (.ptr 1 0)) (Tr.lf.nd (some (V.func (Fn.func 182) [] [.ptr 2 0])) Tr.lf)).nd none
 ((Tr.lf.nd (some (.bool false)) Tr.lf).nd none Tr.lf)).nd (some (.str s)) (((Tr.lf.nd (some (.int IntKind.i64 (↑s.length:Int))) Tr.lf).nd none Tr.lf).nd (some (.ptr
 0 0)) ((Tr.lf.nd (some (.str s)) Tr.lf).nd none Tr.lf))) {toList:=[12]} nmAs nmBd 3]∧bif nmPre {d:=false,s:=s}then bif nmO s then ∀(s_1:List UInt8),R
 (.bool !nmD s)else ∀(e:Bool) (s:List UInt8),R (.bool false)else False):=by kernel_rfl
def mayN(s:List UInt8):Bool:=decide (s.length≤253)&&(nmO s&&!nmD s)
def mayP:List V→Option V
 |[.str s]=>some (.bool (mayN s))
 |_=>none
theorem nm_enter(s:List UInt8)(T2:Tr)(h2:T2.get 2=some (.ptr 0 0))(h3:T2.get 3=some (.ptr 1 0)):
  Fits 5 [.yield 4,.ptr 2 0] [.row [.bool false] 4 1,.row [.bool false] 4 1,.row [.str s] 9 1,.defd,nmL .ready none] [some (.yield 4),some (.ptr 2 0)]
   [.row [.bool false] 4 1,.row [.bool false] 4 1,.row [.str s] 9 1,.defd,.loop .ready none 23 T2 {toList:=[12]} nmAs nmBd 3]:=by
 have hL:nmL .ready none=.loop .ready none 23 (mL .lf nmT) {toList:=[12]} nmAs nmBd 3:=by kernel_rfl
 refine⟨[0,1,2,3,4],[.yield 4,.ptr 2 0],rfl,rfl,FitsM.of ?_,by decide,fun i hi=>by
  match i,hi with
  |0,_|1,_|2,_|3,_|4,_=>rfl⟩
 refine⟨.inr ⟨_,.inl rfl,rfl⟩,.inr ⟨_,.inl rfl,rfl⟩,.inr ⟨_,.inl rfl,rfl⟩,.inr ⟨_,.inl rfl,rfl⟩,.inr ⟨_,?_,rfl⟩,trivial⟩;rw[hL];refine .inr ⟨_,_,_,_,_,_,_,_,_,_,rfl,rfl,rfl,FitT.of fun t v hm=>?_⟩;simp only[nmT,List.mem_cons,Prod.mk.injEq,List.not_mem_nil,or_false]at hm;rcases hm with⟨rfl,rfl⟩|⟨rfl,rfl⟩
 ·exact⟨_,rfl,h2⟩
 ·exact⟨_,rfl,h3⟩
theorem may_ok(args:List V)(v:V)(h:mayP args=some v):FnSat Qq 131 args [] (Is (v,[])):=by
 unfold mayP at h;split at h
 ·rename_i s;cases h;refine aP (lim:=9) (n:=10) aI N3_ok rfl rfl ?_;rw[may_tree];unfold mayN;refine ao (fun h=>?_) (fun h=>?_)
  ·have h:=a8 h;rw[decide_eq_false (show ¬s.length≤253 by omega)];rfl
  ·have h:=of_decide_eq_false h;rw[az (show s.length≤253 by omega),ay];refine⟨nm_enter s _ rfl rfl,ah (az (show s.length≤1099511627776 by omega)) ?_⟩;refine ao (fun h=>?_) (fun h=>?_)
   ·intro _;rw[h];rfl
   ·intro _ _;rw[h];rfl
 ·cases h
def N4:Tab:=⟨addP (addP noT 177 tpP) 131 mayP,noL,bk 9⟩
theorem N4_ok:TabOk3 Qq N4:=⟨bh (bh aW tp_ok) may_ok,aX,aE 9⟩
def patN(s:List UInt8):Bool:=mayN (du s)
def patP:List V→Option V
 |[.str s]=>some (.bool (patN s))
 |_=>none
theorem pat_tree(s:List UInt8)(R:V→Prop):runW Qq N4 9 10 130 [.str s] R=
  (
 R (.bool (mayN (du s)))):=by kernel_rfl
theorem pat_ok(args:List V)(v:V)(h:patP args=some v):FnSat Qq 130 args [] (Is (v,[])):=by
 unfold patP at h;split at h
 ·rename_i s;cases h;refine aP (lim:=9) (n:=10) aI N4_ok rfl rfl ?_;rw[pat_tree];rfl
 ·cases h
def npatP:List V→Option V
 |[.str s]=>some (.bool !patN s)
 |_=>none
def C0:Tab:=⟨addP (addT (addP noT 130 patP) 179 putF) 150 npatP,noL,bk 9⟩
structure IX where
 x:Value
 n:Nat
 cs:List V
 i:Nat
def ixV(x:IX):List V:=[.lst x.x x.n x.cs,.func (.func 150) [] [],.int .i64 0,.int .i64 x.n,.int .i64 x.i]
def ixJ(_:IX):St:=[]
def ixPre(x:IX):Bool:=okS x.n x.cs&&Nat.ble x.i x.n
def ixDec:List (Option V)→St→Option IX
 |[some (.lst x n cs),some (.func (.func 150) [] []),some (.int .i64 0),some (.int .i64 _),some (.int .i64 0)],_=>some ⟨x,n,cs,0⟩
 |_,_=>none
def allP(cs:List V):Bool:=(cs.map al).all patN
def ixOutG(x:Value)(n:Nat)(cs:List V)(b:Bool)(K:Exit→List V→St→Prop):Prop:=
 bif b then K (.exit 0) [.lst x n cs,.func (.func 150) [] [],.int .i64 0,.int .i64 n,.int .i64 n] []else ∀i:Nat,K .ret [.lst x n cs,.func (.func 150) [] [],.int .i64 i,.int .i64 n,.int .i64 i] []
def ixOut:Asks IX:=fun x K=>ixOutG x.x x.n x.cs (allP (x.cs.drop x.i)) K
def lk49:Nat→Trans→Trans:=bq 26 (dc 0 (szOf Qq 129) [0,1,4,7,8] ixDec ixPre ixV ixJ ixOut) (ar 9)
def C1:Tab:=⟨noT,noL,er (bk 9) 129 0 lk49⟩
structure TH where
 t:Int
 o:List UInt8
 x:Value
 n:Nat
 cs:List V
 i:Nat
def thV(x:TH):List V:=[.int .u8 x.t,.str x.o,.lst x.x x.n x.cs,.int .i64 x.n,.int .i64 x.i]
def thJ(_:TH):St:=[]
def catS(cs:List V):List UInt8:=(cs.map al).flatten
def thPre(x:TH):Bool:=okS x.n x.cs&&(Nat.ble x.i x.n&&Nat.ble (x.o.length+(catS (x.cs.drop x.i)).length) 1099511627776)
def thDec:List (Option V)→St→Option TH
 |[some (.int .u8 t),some (.str o),some (.lst x n cs),some (.int .i64 _),some (.int .i64 0)],_=>some ⟨t,o,x,n,cs,0⟩
 |_,_=>none
def thOutG(t:Int)(o:List UInt8)(x:Value)(n:Nat)(cs:List V)(K:Exit→List V→St→Prop):Prop:=
 K (.exit 0) [.int .u8 t,.str o,.lst x n cs,.int .i64 n,.int .i64 n] []
def thOut:Asks TH:=fun x K=>thOutG x.t (x.o++catS (x.cs.drop x.i)) x.x x.n x.cs K
def lk41:Nat→Trans→Trans:=bq 58 (dc 0 (szOf Qq 133) [0,5,10,11,12] thDec thPre thV thJ thOut) (ar 9)
def C2:Tab:=⟨addT noT 179 putF,noL,er (bk 9) 133 0 lk41⟩
def beL:Nat→Int→List UInt8
 |0,_=>[]
 |k+1,n=>Vm.byteOf (V.int .u8 (IntKind.u8.wrap (n.fdiv ((256^k:Nat):Int))))::beL k n
def decF(a:Int):List UInt8→Int
 |[]=>a
 |b::r=>decF (a*256+b.toNat) r
def sgnB(b:UInt8):Int:=if b.toNat≥128 then(b.toNat:Int)-256 else b.toNat
def dec:List UInt8→Int
 |[]=>0
 |b::r=>decF (sgnB b) r
def manyI(n:Int):Int:=if-128≤n∧n≤127 then 1 else if-32768≤n∧n≤32767 then 2 else if-8388608≤n∧n≤8388607 then 3 else if-2147483648≤n∧n≤2147483647 then 4 else if-549755813888≤n∧n≤549755813887 then 5 else if-140737488355328≤n∧n≤140737488355327 then 6 else if-36028797018963968≤n∧n≤36028797018963967 then 7 else 8
structure IS where
 n:Int
 m:Int
def intL(n:Int):List UInt8:=beL (manyI n).toNat n
structure RS where
 s:List UInt8
 n:Int
 i:Int
def readE(s:List UInt8):Int:=if s.length<1∨8<s.length then 4 else if intL (dec s)=s then 0 else 4
def readN(s:List UInt8):Int:=if readE s=0 then dec s else 0
def rbE(s:List UInt8):Int:=if s=[255]∨s=[0]then 0 else 4
theorem f7(a:UInt8):UInt8.ofNat a.toNat=a:=by simp
theorem size_inv(r:List UInt8)(h:kS r=0):lenB (ez r)++r.drop (ey r)=r∧(lenB (ez r)).length=ey r∧ey r≤r.length:=by
 unfold kS ez ey at*
 cases r with
 |nil=>simp[dz]at h
 |cons a r=>
  have ha:=a.toNat_lt;by_cases h1:a.toNat≤127
  ·have e:dz (a::r)=(a.toNat,1,0):=by simp only[dz];rw[if_pos h1]
   rw[e];have:lenB a.toNat=[a]:=by unfold lenB;rw[if_neg (by omega),if_neg (by omega),f7]
   simp[this]
  ·by_cases h2:a.toNat=129
   ·cases r with
    |nil=>simp[dz,h2]at h
    |cons b r=>
     have hb:=b.toNat_lt;by_cases h3:b.toNat≤127
     ·simp[dz,h2,h3]at h
     ·have e:dz (a::b::r)=(b.toNat,2,0):=by simp only[dz];rw[if_neg h1,if_pos h2,if_neg h3]
      rw[e];have ea:a=129:=UInt8.toNat_inj.1 h2;have:lenB b.toNat=[129,b]:=by unfold lenB;rw[if_neg (by omega),if_pos (by omega),f7]
      simp[this,ea]
   ·by_cases h3:a.toNat=130
    ·cases r with
     |nil=>simp[dz,h3]at h
     |cons b r=>
      have hb:=b.toNat_lt;by_cases h4:b.toNat=0
      ·simp[dz,h3,h4]at h
      ·cases r with
       |nil=>simp[dz,h3,h4]at h
       |cons c r=>
        have hc:=c.toNat_lt;have e:dz (a::b::c::r)=(b.toNat*256+c.toNat,3,0):=by simp only[dz];rw[if_neg h1,if_neg h2,if_pos h3,if_neg h4]
        rw[e];have ea:a=130:=UInt8.toNat_inj.1 h3;have e1:UInt8.ofNat ((b.toNat*256+c.toNat)/256)=b:=by
         rw[show(b.toNat*256+c.toNat)/256=b.toNat by omega,f7]
        have e2:UInt8.ofNat (b.toNat*256+c.toNat)=c:=by
         apply UInt8.toNat_inj.1;simp only[UInt8.toNat_ofNat'];omega
        have:lenB (b.toNat*256+c.toNat)=[130,b,c]:=by unfold lenB;rw[if_pos (by omega),e1,e2]
        simp[this,ea]
    ·simp[dz,h1,h2,h3]at h
theorem get_put{s:List UInt8}(h:getE s=0):okTag (getT s)=true∧putE (getT s) (getX s)=0∧putB (getT s) (getX s)++getR s=s:=by
 cases s with
 |nil=>simp[getE]at h
 |cons t r=>
  have ht:=t.toNat_lt;have h0:=h;simp only[getE]at h;by_cases h1:t.toNat%32=31
  ·rw[if_pos h1]at h;omega
  rw[if_neg h1]at h;by_cases h2:kS r=0
  ·rw[if_pos h2]at h;by_cases h3:r.length<ey r+ez r
   ·rw[if_pos h3]at h;omega
   have hi:=size_inv r h2;have hs:=size_small r;have e1:getT (t::r)=(t.toNat:Int):=by unfold getT;rw[if_pos h0];rfl
   have e2:getX (t::r)=(r.drop (ey r)).take (ez r):=by unfold getX;rw[if_pos h0];rfl
   have e3:getR (t::r)=(r.drop (ey r)).drop (ez r):=by unfold getR;rw[if_pos h0];rfl
   have e4:((r.drop (ey r)).take (ez r)).length=ez r:=by simp;omega
   have n1:¬(t.toNat:Int)%32=31:=by omega
   rw[e1,e2,e3];refine⟨by simp[okTag];omega,?_,?_⟩
   ·unfold putE;rw[if_neg n1,if_neg (by rw[e4];omega)]
   ·unfold putB;rw[if_neg n1,if_neg (by rw[e4];omega),e4];simp only[bK,f7,List.cons_append,List.append_assoc,List.take_append_drop,hi.1]
  ·rw[if_neg h2]at h;exact absurd h h2
structure CT where
 k:List UInt8
 g:List UInt8
 x:Value
 n:Nat
 cs:List V
 f:Int
 u:Int
 ca:Bool
def CT.cells(c:CT):List V:=[.str c.k,.str c.g,.lst c.x c.n c.cs,.int .i64 c.f,.int .i64 c.u,.bool c.ca]
def CT.v(c:CT):V:=.agg [.str c.k,.str c.g,.lst c.x c.n c.cs,.int .i64 c.f,.int .i64 c.u,.bool c.ca]
def mayC(k g:List UInt8)(f u:Int):Bool:=decide ((k.length:Int)>0)&&(decide ((k.length:Int)≤64)&&(((g.length:Int)==32)&&(decide (f≥0)&&(decide (f≤1099511627776)&&(decide (u≥0)&&decide (u≤1099511627776))))))
theorem real_agg_mk{m:List MB}{l:List V}{xs:List Value}(h:ak m l=some xs):real m (.agg l)=some (.agg xs.toArray):=by simp only[real,h]
structure EN where
 c:CT
 i:Nat
def lJ:List UInt8→Int
 |[]=>8
 |t::r=>if t.toNat%32=31 then 4 else if kS r=0 then(if IntKind.i64.wrap (((r.length+1:Nat):Int)-((1+ey r:Nat):Int))<ez r then 8 else 0)else kS r
def getT2(s:List UInt8):Int:=if lJ s=0 then((s.getD 0 0).toNat:Int)else 0
def ne(s:List UInt8):List UInt8:=if lJ s=0 then((s.drop 1).drop (ey (s.drop 1))).take (ez (s.drop 1))else[]
def getR2(s:List UInt8):List UInt8:=if lJ s=0 then((s.drop 1).drop (ey (s.drop 1))).drop (ez (s.drop 1))else[]
abbrev IT:=Int×List UInt8
def alF:Nat→List UInt8→List IT→List IT×Int
 |0,_,acc=>(acc,0)
 |k+1,s,acc=>if s=[]then(acc,0)else if lJ s=0 then(if acc.length=64 then([],40)else alF k (getR2 s) (acc++[(getT2 s,ne s)]))else([],lJ s)
structure AL where
 s:List UInt8
 acc:List IT
def allI(s:List UInt8):List IT:=(alF s.length s []).1
def allE(s:List UInt8):Int:=(alF s.length s []).2
def onlyB(s:List UInt8)(t:Int):Bool:=(lJ s==0)&&((getR2 s==[])&&(getT2 s==t))
structure DE where
 k:List UInt8
 g:List UInt8
 f:Int
 u:Int
 ca:Bool
 ds:List V
 n:Nat
 i:Nat
structure CD where
 k:List UInt8
 g:List UInt8
 l:List (List UInt8)
 f:Int
 u:Int
 ca:Bool
def m2(x y:Int):Int:=if y>x then y else x
def decT(L:List IT):Option CD:=match L with
 |[x0,x1,x2,x3,x4,x5]=>
  bif (x0.1==48)&&((x1.1==4)&&((x2.1==48)&&((x3.1==2)&&((x4.1==2)&&(x5.1==1)))))then
   (bif onlyB x0.2 4 then
     (bif m2 (m2 (m2 (allE x2.2) (readE x3.2)) (readE x4.2)) (rbE x5.2)!=0 then none else
       (bif (allI x2.2).all (fun y=>y.1==130)then
         (bif mayC (ne x0.2) x1.2 (readN x3.2) (readN x4.2)&&((allI x2.2).map (·.2)).all patN then some ⟨ne x0.2,x1.2,(allI x2.2).map (·.2),readN x3.2,readN x4.2,x5.2==[255]⟩else none)
       else none))
   else none)
  else none
 |_=>none
def decC(s:List UInt8):Option CD:=bif onlyB s 48 then(bif allE (ne s)!=0 then none else decT (allI (ne s)))else none
def decR(s:List UInt8):Option CD:=bif decide ((s.length:Int)>512)then none else decC s
def decE(s:List UInt8):Int:=bif decide ((s.length:Int)>512)then 40 else(match decC s with
 |some _=>0
 |none=>4)
def dCd(s:List UInt8):CD:=(decR s).getD ⟨[],[],[],0,0,false⟩
def dK(s:List UInt8):List UInt8:=(dCd s).k
def dG(s:List UInt8):List UInt8:=(dCd s).g
def dL(s:List UInt8):List (List UInt8):=(dCd s).l
def dN(s:List UInt8):Nat:=(dL s).length
def dF(s:List UInt8):Int:=(dCd s).f
def dU(s:List UInt8):Int:=(dCd s).u
def dCa(s:List UInt8):Bool:=(dCd s).ca
theorem cp_tree(s:List UInt8)(R:V→Prop):runW Qq N0 9 20 78 [.str s,.str [42,46]] R=
  (
 bif decide ((↑s.length:Int)≥2)then bif true&&Nat.ble 2 s.length then bif !List.take 2 (List.drop 0 s)==[42,46]then R (.tuple [.str s,.bool false])else bif
 Nat.ble 2 s.length&&s.length.ble s.length then R (.tuple [.str (List.take (s.length-2) (List.drop 2 s)),.bool true])else False else False else R (.tuple [.str
 s,.bool false])):=by kernel_rfl
def eY(s:List UInt8):Bool:=s.take 2==[42,46]
def cpP:List V→Option V
 |[.str s,.str [42,46]]=>some (.tuple [.str (du s),.bool (eY s)])
 |_=>none
theorem bare_star(s:List UInt8):du s=bif eY s then s.drop 2 else s:=by
 unfold du eY;by_cases h:s.take 2=[42,46]
 ·rw[if_pos h,h];rfl
 ·rw[if_neg h,(by simpa using h:(s.take 2==[42,46])=false)];rfl
theorem cp_ok(args:List V)(v:V)(h:cpP args=some v):FnSat Qq 78 args [] (Is (v,[])):=by
 unfold cpP at h;split at h
 ·rename_i s;cases h;refine aP (lim:=9) (n:=20) aI N0_ok rfl rfl ?_;rw[cp_tree];have hb:du s=bif eY s then s.drop 2 else s:=bare_star s
  refine ao (fun h=>?_) (fun h=>?_)
  ·have h:=a8 h;refine ah (by rw[ay];exact ap (by omega)) ?_;rw[List.drop_zero];show bif !eY s then _ else _
   refine ao (fun h2=>?_) (fun h2=>?_)
   ·rw[Bool.not_eq_true']at h2;rw[h2]at hb ⊢;rw[hb];rfl
   ·rw[Bool.not_eq_false']at h2;rw[h2]at hb ⊢;refine ah (by rw[af];exact⟨ap (by omega),ap (Nat.le_refl _)⟩) ?_;rw[hb,List.take_of_length_le (by rw[List.length_drop];omega)];rfl
  ·have h:=of_decide_eq_false h;have h2:eY s=false:=by
    unfold eY;cases hq:(s.take 2==[42,46])with
    |false=>rfl
    |true=>
     have:=congrArg List.length (eq_of_beq hq);simp at this;omega
   rw[h2]at hb ⊢;rw[hb];rfl
 ·cases h
def MP:Tab:=⟨addP (addT noT 123 cutP) 131 mayP,noL,bk 9⟩
theorem MP_ok:TabOk3 Qq MP:=⟨bh (bg aW cut_ok) may_ok,aX,aE 9⟩
theorem par_tree(s:List UInt8)(R:V→Prop):runW Qq MP 9 20 132 [.str s] R=
  (
 bif aF s then bif !cutM s then R (.tuple [.str [],.bool false])else bif !mayN s then R (.tuple [.str [],.bool false])else R (.tuple [.str (cutR s),.bool
 true])else False):=by kernel_rfl
def parB(s:List UInt8):Bool:=cutM s&&mayN s
def parP:List V→Option (Qx)
 |[.str s]=>some [(aF s,(.tuple [.str (bif parB s then cutR s else[]),.bool (parB s)],[]))]
 |_=>none
theorem par_ok(args:List V)(l:Qx)(o:V×St)(h:parP args=some l)(ho:aO l=some o):FnSat Qq 132 args [] (Is o):=by
 unfold parP at h;split at h
 ·rename_i s;cases h;obtain⟨hk,rfl⟩:=a7 ho;refine aP (lim:=9) (n:=20) aI MP_ok rfl rfl ?_;rw[par_tree,hk,ac];unfold parB;cases cutM s<;>cases mayN s<;>rfl
 ·cases h
def MQ:Tab:=⟨addP (addP (addT (addP noT 130 patP) 132 parP) 131 mayP) 78 cpP,noL,bk 9⟩
theorem MQ_ok:TabOk3 Qq MQ:=⟨bh (bh (bg (bh aW pat_ok) par_ok) may_ok) cp_ok,aX,aE 9⟩
theorem match_tree(p s:List UInt8)(R:V→Prop):runW Qq MQ 9 20 73 [.str p,.str s] R=
  (
 bif !patN p then R (.bool false)else bif !mayN s then R (.bool false)else bif eY p then bif aF s then bif parB s then R (.bool ((bif parB s then cutR s else
 [])==du p))else R (.bool false)else False else R (.bool (p==s))):=by kernel_rfl
def dX(p s:List UInt8):Bool:=patN p&&(mayN s&&(bif eY p then parB s&&(cutR s==du p)else p==s))
def matchP:List V→Option V
 |[.str p,.str s]=>some (.bool (dX p s))
 |_=>none
theorem may_len{s:List UInt8}(h:mayN s=true):s.length≤253:=by
 unfold mayN at h;rw[af]at h;exact a8 h.1
theorem match_ok(args:List V)(v:V)(h:matchP args=some v):FnSat Qq 73 args [] (Is (v,[])):=by
 unfold matchP at h;split at h
 ·rename_i p s;cases h;refine aP (lim:=9) (n:=20) aI MQ_ok rfl rfl ?_;rw[match_tree];unfold dX;cases h1:patN p with
  |false=>rfl
  |true=>
  cases h2:mayN s with
  |false=>rfl
  |true=>
  cases h3:eY p with
  |false=>rfl
  |true=>
  have hk:aF s=true:=az (by have:=may_len h2;omega);rw[hk];cases parB s<;>rfl
 ·cases h
def labF:Nat→List UInt8→List (List UInt8)
 |0,_=>[]
 |k+1,s=>bif cutM s then cutB s::labF k (cutR s)else[cutB s]
def cU(s:List UInt8):List (List UInt8):=labF (s.length+1) s
structure LS where
 s:List UInt8
 o:List (List UInt8)
def lsN(s:List UInt8)(o:List (List UInt8)):Nat:=(o++cU s).length
def lsC(s:List UInt8)(o:List (List UInt8)):List V:=strs (o++cU s)
def lk73G(ML:Nat→Nat→List V→W8→W8):Nat→Trans→Trans:=bq 58 (dc 0 (szOf Qq 136) [2,3,4,5,13] mxDec iv mxV mxJ (mxOutG ML)) (ar 9)
def lk73:Nat→Trans→Trans:=lk73G mixL
theorem mx_loop{f:Fr}{st:St}{Q:Exit→Fr→St→Prop}(h:dc 0 (szOf Qq 136) [2,3,4,5,13] mxDec iv mxV mxJ mxOut f st Q):CodeSatW Qq none 0 (.loop (fF Qq 136 58)) f st Q:=
 bO (P:=Qq) (T:=T1) (k:=0) (lim:=9) (n:=10) (g:=136) (p0:=58) (lk:=ar 9) aI T1_ok (bt 9 _ _) mxMu mx_roundOk h
theorem lk73_ok:ba Qq 0 lk73 136:=by
 unfold lk73 lk73G;exact cx (bJ 9 0 136) (by kernel_rfl) fun f st Q h=>mx_loop h
def T2(ML:Nat→Nat→List V→W8→W8):Tab:=⟨addP noT 180 rotF,noL,er (bk 9) 136 0 (lk73G ML)⟩
theorem T2_ok:TabOk3 Qq (T2 mixL):=⟨bh aW rot_ok,aX,cD (aE 9) lk73_ok⟩
def zr_0(a b c d e f g h:Int):=[V.int u32 a,V.int u32 b,V.int u32 c,V.int u32 d,V.int u32 e,V.int u32 f,V.int u32 g,V.int u32 h]
def zr_1:=[V.int u32 0,V.int u32 0,V.int u32 0,V.int u32 0,V.int u32 0,V.int u32 0,V.int u32 0,V.int u32 0]
theorem mix_tree(ML:Nat→Nat→List V→W8→W8)(a b c d e f g h:Int)(ws:List V)(R:V→St→Prop):runM Qq (T2 ML) 9 10 136 [.agg [.int .u32 a,.int .u32 b,.int .u32 c,.int .u32 d,.int .u32 e,.int .u32 f,.int .u32 g,.int .u32 h],.agg ws] R=
 (
 Fits 0 [.ptr 0 0,.ptr 1 0,.ptr 2 0,.ptr 3 0,.int i64 0] [.row (zr_0 a b c d e f g h) 174 8,.row ws 177 ws.length,.row zr_1 174 8,
 .row (zr_0 a b c d e f g h) 174 8] [some (.ptr 0 0),some (.ptr 1 0),some (.ptr 2 0),some (.ptr 3 0),some (.int i64 0)] [.row (zr_0 a b c d
 e f g h) 174 8,.row ws 177 ws.length,.row zr_1 174 8,.row (zr_0 a b c d e f g h) 174 8]∧bif iv
 {x:={a:=a,b:=b,c:=c,d:=d,e:=e,f:=f,g:=g,h:=h},l:=ws,m:=ws.length,r:={a:=0,b:=0,c:=0,d:=0,e:=0,f:=0,g:=0,h:=0},was:={a:=a,b:=b,c:=c,d:=d,e:=e,f:=f,g:=g,h:=h},j:=0}
 then R (.agg [.int u32 (u32.wrap ((ML 64 0 ws {a:=a,b:=b,c:=c,d:=d,e:=e,f:=f,g:=g,h:=h}).a+a)),.int u32
 (u32.wrap ((ML 64 0 ws {a:=a,b:=b,c:=c,d:=d,e:=e,f:=f,g:=g,h:=h}).b+b)),.int u32 (u32.wrap ((ML 64 0 ws
 {a:=a,b:=b,c:=c,d:=d,e:=e,f:=f,g:=g,h:=h}).c+c)),.int u32 (u32.wrap ((ML 64 0 ws
 {a:=a,b:=b,c:=c,d:=d,e:=e,f:=f,g:=g,h:=h}).d+d)),.int u32 (u32.wrap ((ML 64 0 ws
 {a:=a,b:=b,c:=c,d:=d,e:=e,f:=f,g:=g,h:=h}).e+e)),.int u32 (u32.wrap ((ML 64 0 ws
 {a:=a,b:=b,c:=c,d:=d,e:=e,f:=f,g:=g,h:=h}).f+f)),.int u32 (u32.wrap ((ML 64 0 ws
 {a:=a,b:=b,c:=c,d:=d,e:=e,f:=f,g:=g,h:=h}).g+g)),.int u32 (u32.wrap ((ML 64 0 ws
 {a:=a,b:=b,c:=c,d:=d,e:=e,f:=f,g:=g,h:=h}).h+h))]) [.row [.int u32 (u32.wrap ((ML 64 0 ws
 {a:=a,b:=b,c:=c,d:=d,e:=e,f:=f,g:=g,h:=h}).a+a)),.int u32 (u32.wrap ((ML 64 0 ws
 {a:=a,b:=b,c:=c,d:=d,e:=e,f:=f,g:=g,h:=h}).b+b)),.int u32 (u32.wrap ((ML 64 0 ws
 {a:=a,b:=b,c:=c,d:=d,e:=e,f:=f,g:=g,h:=h}).c+c)),.int u32 (u32.wrap ((ML 64 0 ws
 {a:=a,b:=b,c:=c,d:=d,e:=e,f:=f,g:=g,h:=h}).d+d)),.int u32 (u32.wrap ((ML 64 0 ws
 {a:=a,b:=b,c:=c,d:=d,e:=e,f:=f,g:=g,h:=h}).e+e)),.int u32 (u32.wrap ((ML 64 0 ws
 {a:=a,b:=b,c:=c,d:=d,e:=e,f:=f,g:=g,h:=h}).f+f)),.int u32 (u32.wrap ((ML 64 0 ws
 {a:=a,b:=b,c:=c,d:=d,e:=e,f:=f,g:=g,h:=h}).g+g)),.int u32 (u32.wrap ((ML 64 0 ws
 {a:=a,b:=b,c:=c,d:=d,e:=e,f:=f,g:=g,h:=h}).h+h))] 174 8,.row ws 177 ws.length,.row [.int u32 (u32.wrap ((ML
 64 0 ws {a:=a,b:=b,c:=c,d:=d,e:=e,f:=f,g:=g,h:=h}).a+a)),.int u32 (u32.wrap ((ML 64 0 ws
 {a:=a,b:=b,c:=c,d:=d,e:=e,f:=f,g:=g,h:=h}).b+b)),.int u32 (u32.wrap ((ML 64 0 ws
 {a:=a,b:=b,c:=c,d:=d,e:=e,f:=f,g:=g,h:=h}).c+c)),.int u32 (u32.wrap ((ML 64 0 ws
 {a:=a,b:=b,c:=c,d:=d,e:=e,f:=f,g:=g,h:=h}).d+d)),.int u32 (u32.wrap ((ML 64 0 ws
 {a:=a,b:=b,c:=c,d:=d,e:=e,f:=f,g:=g,h:=h}).e+e)),.int u32 (u32.wrap ((ML 64 0 ws
 {a:=a,b:=b,c:=c,d:=d,e:=e,f:=f,g:=g,h:=h}).f+f)),.int u32 (u32.wrap ((ML 64 0 ws
 {a:=a,b:=b,c:=c,d:=d,e:=e,f:=f,g:=g,h:=h}).g+g)),.int u32 (u32.wrap ((ML 64 0 ws
 {a:=a,b:=b,c:=c,d:=d,e:=e,f:=f,g:=g,h:=h}).h+h))] 174 8,.row (zr_0 a b c d e f g h) 174 8]else False):=by kernel_rfl
def mixE(x:W8)(ws:List V):W8:=⟨addI (mixL 64 0 ws x).a x.a,addI (mixL 64 0 ws x).b x.b,addI (mixL 64 0 ws x).c x.c,addI (mixL 64 0 ws x).d x.d,addI (mixL 64 0 ws x).e x.e,addI (mixL 64 0 ws x).f x.f,addI (mixL 64 0 ws x).g x.g,addI (mixL 64 0 ws x).h x.h⟩
def mixF:List V→Option (Qx)
 |[.agg [.int .u32 a,.int .u32 b,.int .u32 c,.int .u32 d,.int .u32 e,.int .u32 f,.int .u32 g,.int .u32 h],.agg ws]=>some [(fj ws&&Nat.beq ws.length 64,(.agg (mixE ⟨a,b,c,d,e,f,g,h⟩ ws).cells,[]))]
 |_=>none
theorem mix_ok(args:List V)(l:Qx)(o:V×St)(h:mixF args=some l)(ho:aO l=some o):FnSat Qq 136 args [] (Is o):=by
 unfold mixF at h;split at h
 ·rename_i a b c d e f g h' ws;cases h;cases hc:(fj ws&&Nat.beq ws.length 64)with
  |false=>rw[hc]at ho;cases ho
  |true=>
   rw[hc]at ho;cases ho;rw[af]at hc;refine FnSat.fits (eE (lim:=9) (n:=10) aI T2_ok ?_);rw[mix_tree];unfold zr_1 zr_0;refine⟨od ⟨a,b,c,d,e,f,g,h'⟩ ws hc.1 ws.length ⟨0,0,0,0,0,0,0,0⟩ ⟨a,b,c,d,e,f,g,h'⟩ 0,ah ?_ ?_⟩
   ·unfold iv;rw[af,af];exact⟨hc.1,hc.2,rfl⟩
   ·exact⟨[],[.agg (mixE ⟨a,b,c,d,e,f,g,h'⟩ ws).cells],rfl,rfl,FitsM.of trivial,by simp,fun i hi=>by omega⟩
 ·cases h
def zr_2(ws:List V)(j:Int):=ws.getD (0+(i64.wrap (j-15)).toNat*1) (V.bool false)
def zr_3(ws:List V)(j:Int):=ws.getD (0+(i64.wrap (j-2)).toNat*1) (V.bool false)
theorem blk_round(la:List V)(off c z:Nat)(ws:List V)(j:Int)(R:Qz):aJ Qq T1 9 10 (ar 9) 137 26 [0,2,6] [.slice 0 off 64 false c z,.ptr 1 0,.int .i64 j] [.ro false la,.row ws 177 64] R=
 (
 bif decide (j<64)then bif decide (j<16)then bif decide (0≤i64.wrap (4*j))&&decide (i64.wrap (4*j)<64)then bif (off+
 (i64.wrap (4*j)).toNat*1).blt la.length then bif aj u8 (la.getD (off+(i64.wrap (4*j)).toNat*1) (.bool false))then bif
 decide (0≤i64.wrap (i64.wrap (4*j)+1))&&decide (i64.wrap (i64.wrap (4*j)+1)<64)then bif (off+(i64.wrap
 (i64.wrap (4*j)+1)).toNat*1).blt la.length then bif aj u8 (la.getD (off+(i64.wrap (i64.wrap (4*j)+1)).toNat*1)
 (.bool false))then bif decide (0≤i64.wrap (i64.wrap (4*j)+2))&&decide (i64.wrap (i64.wrap (4*j)+2)<64)then bif
 (off+(i64.wrap (i64.wrap (4*j)+2)).toNat*1).blt la.length then bif aj u8 (la.getD (off+(i64.wrap (i64.wrap
 (4*j)+2)).toNat*1) (.bool false))then bif decide (0≤i64.wrap (i64.wrap (4*j)+3))&&decide (i64.wrap (i64.wrap (4*
 j)+3)<64)then bif (off+(i64.wrap (i64.wrap (4*j)+3)).toNat*1).blt la.length then bif aj u8 (la.getD (off+
 (i64.wrap (i64.wrap (4*j)+3)).toNat*1) (.bool false))then bif decide (0≤j)&&decide (j<64)then bif true&&(0+j.toNat*1+
 1).ble ws.length then R .normal [some (.slice 0 off 64 false c z),some (.ptr 1 0),some (.int i64 (i64.wrap (j+1)))] [.ro false la,
 .row (cN (0+j.toNat*1) [.int u32 (u32.wrap (↑(BitVec.ofInt 32 (u32.wrap (↑(BitVec.ofInt 32 (u32.wrap (↑(BitVec.ofInt
 32 (u32.wrap (u32.wrap (au (la.getD (off+(i64.wrap (4*j)).toNat*1) (.bool false)))*16777216))|||BitVec.ofInt 32
 (u32.wrap (u32.wrap (au (la.getD (off+(i64.wrap (i64.wrap (4*j)+1)).toNat*1) (.bool false)))*65536))).toNat:
 Int))|||BitVec.ofInt 32 (u32.wrap (u32.wrap (au (la.getD (off+(i64.wrap (i64.wrap (4*j)+2)).toNat*1) (.bool
 false)))*256))).toNat:Int))|||BitVec.ofInt 32 (u32.wrap (au (la.getD (off+(i64.wrap (i64.wrap (4*j)+3)).toNat*1)
 (.bool false))))).toNat:Int))] ws) 177 64]else False else False else False else False else False else False else False else False else False else False else
 False else False else False else False else bif decide (0≤i64.wrap (j-15))&&decide (i64.wrap (j-15)<64)then bif (0+(i64.wrap
 (j-15)).toNat*1).blt ws.length then bif aj u32 (zr_2 ws j)then bif decide (0≤i64.wrap (j-2))&&decide (i64.wrap (j-2)<
 64)then bif (0+(i64.wrap (j-2)).toNat*1).blt ws.length then bif aj u32 (zr_3 ws j)then bif decide (0≤i64.wrap (j-16))&&
 decide (i64.wrap (j-16)<64)then bif (0+(i64.wrap (j-16)).toNat*1).blt ws.length then bif aj u32 (ws.getD (0+
 (i64.wrap (j-16)).toNat*1) (.bool false))then bif decide (0≤i64.wrap (j-7))&&decide (i64.wrap (j-7)<64)then bif (0+
 (i64.wrap (j-7)).toNat*1).blt ws.length then bif aj u32 (ws.getD (0+(i64.wrap (j-7)).toNat*1) (.bool false))then bif
 decide (0≤j)&&decide (j<64)then bif true&&(0+j.toNat*1+1).ble ws.length then R .normal [some (.slice 0 off 64 false c z),some (.ptr 1 0),
 some (.int i64 (i64.wrap (j+1)))] [.ro false la,.row (cN (0+j.toNat*1) [.int u32 (u32.wrap (u32.wrap
 (u32.wrap (au (ws.getD (0+(i64.wrap (j-16)).toNat*1) (.bool false))+au (ws.getD (0+(i64.wrap (j-7)).toNat*1)
 (.bool false)))+u32.wrap (↑(BitVec.ofInt 32 (u32.wrap (↑(BitVec.ofInt 32 (rotI (au (zr_2 ws j)) 7)^^^BitVec.ofInt 32 (rotI (au (zr_2
 ws j)) 18)).toNat:Int))^^^BitVec.ofInt 32 ((au (zr_2 ws j)).fdiv 8)).toNat:Int))+u32.wrap (↑(BitVec.ofInt 32 (u32.wrap
 (↑(BitVec.ofInt 32 (rotI (au (zr_3 ws j)) 17)^^^BitVec.ofInt 32 (rotI (au (zr_3 ws j)) 19)).toNat:Int))^^^BitVec.ofInt 32 ((au (zr_3 ws
 j)).fdiv 1024)).toNat:Int)))] ws) 177 64]else False else False else False else False else False else False else False else False else False else False else
 False else False else False else False else R (.exit 0) [some (.slice 0 off 64 false c z),some (.ptr 1 0),some (.int i64 j)] [.ro false la,
 .row ws 177 64]):=by kernel_rfl
def okB(la:List V)(off:Nat):Bool:=ax la&&(Nat.ble (off+64) la.length&&((la.drop off).take 64).all (aj .u8))
theorem okB_len{la:List V}{off:Nat}(h:okB la off=true):off+64≤la.length:=by
 unfold okB at h;rw[af,af]at h;exact aD h.2.1
theorem lj{la:List V}{off:Nat}(h:okB la off=true):ax la=true:=by
 unfold okB at h;rw[af]at h;exact h.1
theorem fu{la:List V}{off i:Nat}(h:okB la off=true)(hi:i<64):(off+i*1).blt la.length=true∧aj .u8 (la.getD (off+i*1) (.bool false))=true:=by
 have hl:=okB_len h;unfold okB at h;rw[af,af]at h;have h2:=h.2.2;clear h;rw[Nat.mul_one];refine⟨ap (by omega),?_⟩;have hlt:off+i<la.length:=by omega
 rw[List.getD_eq_getElem?_getD,List.getElem?_eq_getElem hlt];refine List.all_eq_true.1 h2 _ ?_;rw[List.mem_iff_getElem?];exact⟨i,by rw[List.getElem?_take,if_pos hi,List.getElem?_drop];exact List.getElem?_eq_getElem hlt⟩
def bI(la:List V)(off i:Nat):Int:=au (la.getD (off+i*1) (.bool false))
def shI(b m:Int):Int:=u32.wrap (u32.wrap b*m)
def wordB(la:List V)(off j:Nat):Int:=orI (orI (orI (shI (bI la off (4*j)) 16777216) (shI (bI la off (4*j+1)) 65536)) (shI (bI la off (4*j+2)) 256)) (u32.wrap (bI la off (4*j+3)))
def wordW(ws:List V)(j:Nat):Int:=addI (addI (addI (wI ws (j-16)) (wI ws (j-7))) (xorI (xorI (rotI (wI ws (j-15)) 7) (rotI (wI ws (j-15)) 18)) ((wI ws (j-15)).fdiv 8))) (xorI (xorI (rotI (wI ws (j-2)) 17) (rotI (wI ws (j-2)) 19)) ((wI ws (j-2)).fdiv 1024))
def wordN(la:List V)(off:Nat)(ws:List V)(j:Nat):Int:=if j<16 then wordB la off j else wordW ws j
def blkL(la:List V)(off:Nat):Nat→Nat→List V→List V
 |0,_,ws=>ws
 |n+1,j,ws=>blkL la off n (j+1) (cN j [.int .u32 (wordN la off ws j)] ws)
theorem put_all32{ws:List V}{j:Nat}{x:Int}(h:fj ws=true)(hj:j<ws.length):fj (cN j [.int .u32 x] ws)=true∧(cN j [.int .u32 x] ws).length=ws.length:=by
 unfold fj at h ⊢;rw[List.all_eq_true]at h ⊢;refine⟨fun v hv=>?_,?_⟩
 ·unfold cN at hv;rcases List.mem_append.1 hv with hv|hv
  ·rcases List.mem_append.1 hv with hv|hv
   ·exact h v (List.mem_of_mem_take hv)
   ·rw[List.mem_singleton.1 hv];rfl
  ·exact h v (List.mem_of_mem_drop hv)
 ·unfold cN;simp only[List.length_append,List.length_take,List.length_drop,List.length_cons,List.length_nil];omega
def eJ(f:Nat→Int):List V:=[.int .u32 (f 0),.int .u32 (f 1),.int .u32 (f 2),.int .u32 (f 3),.int .u32 (f 4),.int .u32 (f 5),.int .u32 (f 6),.int .u32 (f 7),.int .u32 (f 8),.int .u32 (f 9),.int .u32 (f 10),.int .u32 (f 11),.int .u32 (f 12),.int .u32 (f 13),.int .u32 (f 14),.int .u32 (f 15),.int .u32 (f 16),.int .u32 (f 17),.int .u32 (f 18),.int .u32 (f 19),.int .u32 (f 20),.int .u32 (f 21),.int .u32 (f 22),.int .u32 (f 23),.int .u32 (f 24),.int .u32 (f 25),.int .u32 (f 26),.int .u32 (f 27),.int .u32 (f 28),.int .u32 (f 29),.int .u32 (f 30),.int .u32 (f 31),.int .u32 (f 32),.int .u32 (f 33),.int .u32 (f 34),.int .u32 (f 35),.int .u32 (f 36),.int .u32 (f 37),.int .u32 (f 38),.int .u32 (f 39),.int .u32 (f 40),.int .u32 (f 41),.int .u32 (f 42),.int .u32 (f 43),.int .u32 (f 44),.int .u32 (f 45),.int .u32 (f 46),.int .u32 (f 47),.int .u32 (f 48),.int .u32 (f 49),.int .u32 (f 50),.int .u32 (f 51),.int .u32 (f 52),.int .u32 (f 53),.int .u32 (f 54),.int .u32 (f 55),.int .u32 (f 56),.int .u32 (f 57),.int .u32 (f 58),.int .u32 (f 59),.int .u32 (f 60),.int .u32 (f 61),.int .u32 (f 62),.int .u32 (f 63)]
theorem cells64_map(f:Nat→Int):eJ f=(List.range 64).map fun i=>V.int .u32 (f i):=by kernel_rfl
theorem cells64_of{ws:List V}(h:fj ws=true)(hl:ws.length=64):eJ (wI ws)=ws:=by
 rw[cells64_map];apply List.ext_getElem?;intro i;rcases Nat.lt_or_ge i 64 with hi|hi
 ·rw[List.getElem?_map,List.getElem?_range hi,Option.map_some];have h1:=eS h (j:=i) (by omega);unfold wI;rw[List.getD_eq_getElem?_getD,List.getElem?_eq_getElem (by omega),Option.getD_some]at h1 ⊢;cases hv:ws[i]with
  |int k n=>
   rw[hv]at h1;have hk:k=.u32:=a8 h1;subst hk;rfl
  |_=>rw[hv]at h1;cases h1
 ·rw[List.getElem?_eq_none (by simp;omega),List.getElem?_eq_none (by omega)]
def blkF(la:List V)(off n j:Nat)(ws:List V):Nat→Int:=wI (blkL la off n j ws)
structure BX where
 la:List V
 off:Nat
 c:Nat
 z:Nat
 ws:List V
 j:Nat
def bxV(y:BX):List V:=[.slice 0 y.off 64 false y.c y.z,.ptr 1 0,.int .i64 y.j]
def bxJ(y:BX):St:=[.ro false y.la,.row y.ws 177 64]
def jx(y:BX):Bool:=okB y.la y.off&&(fj y.ws&&(Nat.beq y.ws.length 64&&Nat.ble y.j 64))
def bxMu(y:BX):Nat:=64-y.j
def bxOutG(BL:List V→Nat→Nat→Nat→List V→Nat→Int):Asks BX:=fun y K=>K (.exit 0) [.slice 0 y.off 64 false y.c y.z,.ptr 1 0,.int .i64 64] [.ro false y.la,Blk.row (eJ (BL y.la y.off (64-y.j) y.j y.ws)) 177 64]
abbrev bxOut:Asks BX:=bxOutG blkF
theorem oH(la:List V)(hf:ax la=true)(off c z:Nat)(ws:List V)(hw:fj ws=true)(j:Int):Fits 1 [.slice 0 off 64 false c z,.ptr 1 0,.int .i64 j] [.ro false la,.row ws 177 64]
  [some (.slice 0 off 64 false c z),some (.ptr 1 0),some (.int .i64 j)] [.ro false la,.row ws 177 64]:=
 ⟨[0,1],[.slice 0 off 64 false c z,.ptr 1 0,.int .i64 j],rfl,rfl,FitsM.of ⟨.inr ⟨.ro false la,.inl (by simp only[renB,bu la hf]),rfl⟩,.inr ⟨.row ws 177 64,.inl (by simp only[renB,jZ _ ws hw]),rfl⟩,trivial⟩,by decide,fun i hi=>by
   match i,hi with
   |0,_=>rfl⟩
theorem bx_roundOk(y:BX)(hy:jx y=true):aJ Qq T1 9 10 (ar 9) 137 26 [0,2,6] (bxV y) (bxJ y) (aQ 1 jx bxV bxJ bxMu bxOut y):=by
 obtain⟨la,off,c,z,ws,j⟩:=y;unfold jx at hy;rw[af,af,af]at hy;have p0:okB la off=true:=hy.1;have p1:fj ws=true:=hy.2.1;have p2:ws.length=64:=aC hy.2.2.1;have p3:j≤64:=aD hy.2.2.2;clear hy;have hf:=lj p0;show aJ Qq T1 9 10 (ar 9) 137 26 [0,2,6] [.slice 0 off 64 false c z,.ptr 1 0,.int .i64 j] [.ro false la,.row ws 177 64] _;rw[blk_round];unfold zr_3 zr_2;cases hb:decide ((j:Int)<64)with
 |true=>
  have hj:j<64:=by have:=a8 hb;omega
  have e1:i64.wrap ((j:Int)+1)=((j+1:Nat):Int):=by rw[IntWalk.i64_in _ ⟨by omega,by omega⟩];omega
  have d1:decide ((0:Int)≤(j:Int))=true:=az (by omega);have d2:(true&&(0+j*1+1).ble ws.length)=true:=by rw[ay];exact ap (by omega)
  have e0:0+j*1=j:=by omega
  -- what stands behind a round
  have fin:∀x:Int,x=wordN la off ws j→aQ 1 jx bxV bxJ bxMu bxOut ⟨la,off,c,z,ws,j⟩ .normal [some (.slice 0 off 64 false c z),some (.ptr 1 0),some (.int .i64 ((j+1:Nat):Int))] [.ro false la,.row (cN j [.int .u32 x] ws) 177 64]:=by
   intro x hx;have hp:=put_all32 (x:=x) p1 (j:=j) (by omega);refine⟨⟨la,off,c,z,cN j [.int .u32 x] ws,j+1⟩,?_,oH la hf off c z _ hp.1 _,by simp only[bxMu];omega,fun K hK=>?_⟩
   ·unfold jx;rw[af,af,af];exact⟨p0,hp.1,by rw[hp.2,p2];rfl,ap hj⟩
   ·have hK:K _ _ _:=hK;have h64:64-j=(64-(j+1))+1:=by omega
    rw[h64]at hK;rw[hx];exact hK
  cases hb2:decide ((j:Int)<16)with
  |true=>
   have hj2:j<16:=by have:=a8 hb2;omega
   have w0:i64.wrap (4*(j:Int))=((4*j:Nat):Int):=by rw[IntWalk.i64_in _ ⟨by omega,by omega⟩];omega
   have w1:i64.wrap (((4*j:Nat):Int)+1)=((4*j+1:Nat):Int):=by rw[IntWalk.i64_in _ ⟨by omega,by omega⟩];omega
   have w2:i64.wrap (((4*j:Nat):Int)+2)=((4*j+2:Nat):Int):=by rw[IntWalk.i64_in _ ⟨by omega,by omega⟩];omega
   have w3:i64.wrap (((4*j:Nat):Int)+3)=((4*j+3:Nat):Int):=by rw[IntWalk.i64_in _ ⟨by omega,by omega⟩];omega
   rw[w0,w1,w2,w3,e1];simp only[bK];rw[d1,d2,e0];have k:∀i:Nat,i<64→(decide ((0:Int)≤(i:Int))&&decide ((i:Int)<64))=true:=fun i hi=>by
    rw[af];exact⟨az (by omega),az (by omega)⟩
   rw[ac,ac];refine ah (k _ (by omega)) (ah (fu p0 (by omega)).1 (ah (fu p0 (by omega)).2 ?_));refine ah (k _ (by omega)) (ah (fu p0 (by omega)).1 (ah (fu p0 (by omega)).2 ?_));refine ah (k _ (by omega)) (ah (fu p0 (by omega)).1 (ah (fu p0 (by omega)).2 ?_));refine ah (k _ (by omega)) (ah (fu p0 (by omega)).1 (ah (fu p0 (by omega)).2 ?_));refine ah rfl ?_;exact fin _ (by unfold wordN;rw[if_pos hj2];rfl)
  |false=>
   have hj2:¬j<16:=by have:=of_decide_eq_false hb2;omega
   have w15:i64.wrap ((j:Int)-15)=((j-15:Nat):Int):=by rw[IntWalk.i64_in _ ⟨by omega,by omega⟩];omega
   have w2:i64.wrap ((j:Int)-2)=((j-2:Nat):Int):=by rw[IntWalk.i64_in _ ⟨by omega,by omega⟩];omega
   have w16:i64.wrap ((j:Int)-16)=((j-16:Nat):Int):=by rw[IntWalk.i64_in _ ⟨by omega,by omega⟩];omega
   have w7:i64.wrap ((j:Int)-7)=((j-7:Nat):Int):=by rw[IntWalk.i64_in _ ⟨by omega,by omega⟩];omega
   rw[w15,w2,w16,w7,e1];simp only[bK];have s0:∀i:Nat,0+i*1=i:=fun i=>by omega
   simp only[s0];rw[d1];have d2':(true&&(j+1).ble ws.length)=true:=by rw[ay];exact ap (by omega)
   rw[d2',ac,ai];have k:∀i:Nat,i<64→(decide ((0:Int)≤(i:Int))&&decide ((i:Int)<64))=true:=fun i hi=>by
    rw[af];exact⟨az (by omega),az (by omega)⟩
   have q:∀i:Nat,i<64→i.blt ws.length=true:=fun i hi=>ap (by omega);refine ah (k _ (by omega)) (ah (q _ (by omega)) (ah (eS p1 (by omega)) ?_));refine ah (k _ (by omega)) (ah (q _ (by omega)) (ah (eS p1 (by omega)) ?_));refine ah (k _ (by omega)) (ah (q _ (by omega)) (ah (eS p1 (by omega)) ?_));refine ah (k _ (by omega)) (ah (q _ (by omega)) (ah (eS p1 (by omega)) ?_));refine ah rfl ?_;exact fin _ (by unfold wordN;rw[if_neg hj2];rfl)
 |false=>
  have hj:j=64:=by have:=of_decide_eq_false hb;omega
  subst hj;refine⟨_,_,fun K hK=>hK,?_⟩;show Fits 1 _ [Blk.ro false la,Blk.row (eJ (wI ws)) 177 64] _ _;rw[cells64_of p1 p2];exact oH la hf off c z ws p1 64
def bxDec:List (Option V)→St→Option BX
 |[some (.slice 0 off 64 false c z),some (.ptr 1 0),some (.int .i64 0)],.ro false la::.row ws _ _::_=>some ⟨la,off,c,z,ws,0⟩
 |_,_=>none
def lk74G(BL:List V→Nat→Nat→Nat→List V→Nat→Int):Nat→Trans→Trans:=bq 26 (dc 1 (szOf Qq 137) [0,2,6] bxDec jx bxV bxJ (bxOutG BL)) (ar 9)
theorem bx_loop{f:Fr}{st:St}{Q:Exit→Fr→St→Prop}(h:dc 1 (szOf Qq 137) [0,2,6] bxDec jx bxV bxJ bxOut f st Q):CodeSatW Qq none 1 (.loop (fF Qq 137 26)) f st Q:=
 bO (P:=Qq) (T:=T1) (k:=1) (lim:=9) (n:=10) (g:=137) (p0:=26) (lk:=ar 9) aI T1_ok (bt 9 _ _) bxMu bx_roundOk h
theorem lk74_ok:ba Qq 1 (lk74G blkF) 137:=by
 unfold lk74G;exact cx (bJ 9 1 137) (by kernel_rfl) fun f st Q h=>bx_loop h
def m4(g:Nat)(lk:Nat→Trans→Trans)(args:List V)(st:St)(R:V→St→Prop):Prop:=fnK Qq (cqT Qq T1 9 10) (KG Qq T1 9 10) lk g args st R
theorem lB{g:Nat}{lk:Nat→Trans→Trans}{args:List V}{st:St}{R:V→St→Prop}(hl:ba Qq st.length lk g)(h:m4 g lk args st R):FnSat Qq g args st R:=
 jq aI (jY aI T1_ok 9 10) (l8 aI T1_ok 10) hl h
def fk:List V:=eJ fun _=>0
theorem blk_tree(BL:List V→Nat→Nat→Nat→List V→Nat→Int)(la:List V)(off c z:Nat)(R:V→St→Prop):m4 137 (lk74G BL) [.slice 0 off 64 false c z] [.ro false la] R=
  (
 Fits 1 [.slice 0 off 64 false c z,.ptr 1 0,.int i64 0] [.ro false la,.row fk 177 64] [some (.slice 0 off 64 false c z),some (.ptr 1 0),some
 (.int i64 0)] [.ro false la,.row fk 177 64]∧bif jx {la:=la,off:=off,c:=c,z:=z,ws:=fk,j:=0}then R (.agg (eJ (BL la
 off 64 0 fk))) [.ro false la,.row (eJ (BL la off 64 0 fk)) 177 64]else False):=by kernel_rfl
def blkG:List V→St→Option (Qx)
 |[.slice 0 off 64 false c z],[.ro false la]=>some [(okB la off,(.agg (eJ (blkF la off 64 0 fk)),[]))]
 |_,_=>none
theorem blk_ok(args:List V)(s:St)(l:Qx)(v:V)(n:St)(h:blkG args s=some l)(ho:aO l=some (v,n)):(∀b∈s,ax b.cs=true)∧FnSat Qq 137 args s (fun u st=>Fits 0 [v] n [some u] st):=by
 unfold blkG at h;split at h
 ·rename_i off c z la;cases h;cases hk:okB la off with
  |false=>rw[hk]at ho;cases ho
  |true=>
   rw[hk]at ho;cases ho;refine⟨by simp[Blk.cs,lj hk],lB (lk:=lk74G blkF) lk74_ok ?_⟩;rw[blk_tree];refine⟨oH la (lj hk) off c z fk rfl 0,ah ?_ ?_⟩
   ·unfold jx;rw[af,af,af];exact⟨hk,rfl,rfl,rfl⟩
   ·exact⟨[],[.agg (eJ (blkF la off 64 0 fk))],rfl,rfl,FitsM.of trivial,by simp,fun i hi=>by omega⟩
 ·cases h
end Go.Proofs.YtebkeppoicllmaaGreatDoor
namespace Go.Proofs.YtebkeppoicllmaaGreatDoor
open Go Go.Vm Go.RowKit
variable [Φ:Frz]
def T3:Tab:=⟨noT,noL,bk 9⟩
theorem kg:TabOk3 Qq T3:=⟨aW,aX,aE 9⟩
def lookW(T:Tab)(g:Nat)(args:List V)(st:St)(R:V→St→Prop):Prop:=fnK Qq (cqT Qq T 9 10) (KG Qq T 9 10) (T.lks g st.length) g args st R
theorem lookW_ok{T:Tab}(hT:TabOk3 Qq T){g:Nat}{args:List V}{st:St}{R:V→St→Prop}(h:lookW T g args st R):FnSat Qq g args st R:=
 jq aI (jY aI hT 9 10) (l8 aI hT 10) (hT.lks g st.length) h
end Go.Proofs.YtebkeppoicllmaaGreatDoor
namespace Go.Vm
open Go.RowKit
variable [Φ:Frz]
theorem fb{σ:List Nat}{st:St}{c:Nat}{cs:List V}{t:TypeId}{sz:Nat}(h:ax cs=true)(hc:st[c]?=some (.row cs t sz)):Blk.row cs t sz=.dead∨∃b',FitB σ (.row cs t sz) b'∧st[c]?=some b':=
 .inr ⟨.row cs t sz,.inl (by simp only[renB,bu _ h]),hc⟩
end Go.Vm
namespace Go.Vm
open Go.RowKit
variable [Φ:Frz]
theorem dJ{s r:List UInt8}{i:Nat}{a:UInt8}(h:s.drop i=a::r):s.getD i 0=a∧s.drop (i+1)=r∧i<s.length:=by
 have hl:i<s.length:=by
  have:(s.drop i).length=(a::r).length:=by rw[h]
  rw[List.length_drop,List.length_cons]at this;omega
 rw[List.drop_eq_getElem_cons hl]at h;cases h;exact⟨by rw[List.getD_eq_getElem?_getD,List.getElem?_eq_getElem hl,Option.getD_some],rfl,hl⟩
theorem ff{s:List UInt8}{i:Nat}(h:s.drop i=[])(hi:i≤s.length):i=s.length:=by
 have:(s.drop i).length=0:=by rw[h];rfl
 rw[List.length_drop]at this;omega
end Go.Vm
namespace Go.Proofs.YtebkeppoicllmaaGreatDoor
open Go Go.Vm Go.RowKit
variable [Φ:Frz]
structure HX where
 x:Value
 n:Nat
 cs:List V
 h:List UInt8
 i:Nat
theorem jS:∀{l r:List V},ax l=true→ax r=true→ax (l++r)=true
 |[],r,_,h=>h
 |v::l,r,h1,h2=>by
  rw[ax,af]at h1;rw[List.cons_append,ax,af];exact⟨h1.1,jS h1.2 h2⟩
structure DX where
 s:List UInt8
 cs:List V
structure D3 where
 la:List V
 x:W8
 off:Nat
 len:Nat
 cc:Nat
 z:Nat
structure LK where
 b:Bool
 x:Value
 n:Nat
 cs:List V
 i:Nat
def goodP:List (List UInt8)→List (List UInt8)
 |[]=>[]
 |s::r=>bif decE s==0 then s::goodP r else[]
def readS(l:List (List UInt8)):List (List UInt8):=goodP (l.take 4)
def rdG(l:List (List UInt8))(j:Nat):List UInt8:=l.getD j []
def rdA(s:List UInt8)(k:Nat)(r:List V):List V:=.str (dK s)::.str (dG s)::.nos k (dN s)::.int .i64 (dF s)::.int .i64 (dU s)::.bool (dCa s)::r
def rdN(l:List (List UInt8)):Nat:=(readS l).length
end Go.Proofs.YtebkeppoicllmaaGreatDoor
namespace Go.Proofs.YtebkeppoicllmaaGreatDoor
open Go.IntKind (u8 u16 u32 u64 i8 i16 i32 i64)
open Go Go.Vm Go.RowKit
variable [Φ:Frz]
theorem us_tree(u s m:Int)(d:List UInt8)(R:V→Prop):runW Qq T3 9 10 99 [.agg [.int .u8 u,.int .u8 s,.int .u8 m,.str d]] R=
  (
 bif u !=2 then bif u !=3 then R (.bool false)else bif decide (i64.wrap s≥2)then R (.bool false)else bif decide (i64.wrap m≥2)then R (.bool
 false)else bif !d==[]then bif decide ((↑d.length:Int)≤512)then bif m==0 then R (.bool true)else R (.bool ((↑d.length:Int)==32))else R (.bool false)
 else R (.bool false)else bif decide (i64.wrap s≥2)then R (.bool false)else bif decide (i64.wrap m≥2)then R (.bool false)else bif !d==[]then
 bif decide ((↑d.length:Int)≤512)then bif m==0 then R (.bool true)else R (.bool ((↑d.length:Int)==32))else R (.bool false)else R (.bool false)):=by kernel_rfl
def usB(u s m:Int)(d:List UInt8):Bool:=(u==2||u==3)&&(!decide (i64.wrap s≥2)&&(!decide (i64.wrap m≥2)&&(!(d==[])&&(decide ((d.length:Int)≤512)&&(m==0||(d.length:Int)==32)))))
def usP:List V→Option V
 |[.agg [.int .u8 u,.int .u8 s,.int .u8 m,.str d]]=>some (.bool (usB u s m d))
 |_=>none
theorem us_ok(args:List V)(v:V)(h:usP args=some v):FnSat Qq 99 args [] (Is (v,[])):=by
 unfold usP at h;split at h
 ·rename_i u s m d;cases h;refine aP (lim:=9) (n:=10) aI kg rfl rfl ?_;rw[us_tree];unfold usB;have e:∀n:Int,(u !=n)=!(u==n):=fun n=>rfl;rw[e 2,e 3];cases u==2<;>cases u==3<;>cases decide (i64.wrap s≥2)<;>cases decide (i64.wrap m≥2)<;>cases d==[]<;>cases decide ((d.length:Int)≤512)<;>cases m==0<;>rfl
 ·cases h
def u8B(n:Int):Bool:=decide (0≤n∧n≤255)
structure LT where
 x:Value
 n:Nat
 cs:List V
 y:Value
 now:Int
 i:Nat
def ltV(z:LT):List V:=[.lst z.x z.n z.cs,.func (.func 195) [] [.lptr z.y 1 [.int .i64 z.now] 0],.int .i64 0,.int .i64 z.n,.int .i64 z.i]
def rdT(l:List (List UInt8)):List V:=match rdN l with
 |2=>rdA (rdG l 1) 2 []
 |3=>rdA (rdG l 1) 2 (rdA (rdG l 2) 3 [])
 |4=>rdA (rdG l 1) 2 (rdA (rdG l 2) 3 (rdA (rdG l 3) 4 []))
 |_=>[]
def nmR(l:List (List UInt8))(i:Nat):List V:=bif Nat.blt i (rdN l)then strs (dL (rdG l i))else[]
structure RdAt (st:St) (l:List (List UInt8)):Prop where
 b0:st[0]?=some (.row (rdA (rdG l 0) 1 (rdT l)) 32 6)
 b1:st[1]?=some (.ro true (strs (dL (rdG l 0))))
 b2:st[2]?=some (.ro true (nmR l 1))
 b3:st[3]?=some (.ro true (nmR l 2))
 b4:st[4]?=some (.ro true (nmR l 3))
def mA(l:List (List UInt8)):List V:=bif Nat.beq (rdN l) 0 then[]else aa 2 (rdA (rdG l 0) 1 (rdT l))
def mB(l:List (List UInt8)):List V:=aa 2 (strs (dL (rdG l 0)))
def mN(l:List (List UInt8))(i:Nat):List V:=aa 2 (nmR l i)
structure MtAt (st:St) (l:List (List UInt8)):Prop where
 b2:(∃t sz,st[2]?=some (.row (mA l) t sz))∨∃z,st[2]?=some (.ro z (mA l))
 b3:∃z,st[3]?=some (.ro z (mB l))
 b4:∃z,st[4]?=some (.ro z (mN l 1))
 b5:∃z,st[5]?=some (.ro z (mN l 2))
 b6:∃z,st[6]?=some (.ro z (mN l 3))
structure MT where
 u:Int
 s:Int
 m:Int
 d:List UInt8
 x:Value
 n:Nat
 cs:List V
 now:Int
 i:Nat
def MT.l(z:MT):List (List UInt8):=z.cs.map al
structure SC where
 hs:List V
 key:List V
 p:List V
 pl:Nat
 fr:Int
 ws:List V
structure MD where
 hs:List V
 p:List V
 pl:Nat
 fr:Int
 ws:List V
 x:W8
 i:Nat
structure PD where
 s:List UInt8
 hs:List V
 key:List V
 cs:List V
structure BD where
 la:List V
 x:W8
 fr:Nat
structure AS where
 n:Int
 s:List UInt8
 i:Nat
structure BS where
 n:Int
 s:List UInt8
structure US where
 s:List UInt8
 u:Int
 i:Nat
def gv(s:List UInt8):V:=.tuple [.agg [.int .u8 (getT2 s),.str (ne s)],.str (getR2 s),.int .i64 (lJ s)]
def RB0:Tab:=⟨noT,noL,bk 9⟩
theorem oM:TabOk3 Qq RB0:=⟨aW,aX,aE 9⟩
theorem dg_tree(b:Int)(R:V→Prop):runW Qq RB0 9 10 211 [.int .u8 b] R=
  (
 bif decide (b≥48)then R (.bool (decide (b≤57)))else R (.bool false)):=by kernel_rfl
theorem lt_tree(b:Int)(R:V→Prop):runW Qq RB0 9 10 212 [.int .u8 b] R=
  (
 bif decide (b≥97)then R (.bool (decide (b≤122)))else R (.bool false)):=by kernel_rfl
def dgI(b:Int):Bool:=decide (48≤b)&&decide (b≤57)
def ltI(b:Int):Bool:=decide (97≤b)&&decide (b≤122)
def dgP:List V→Option V
 |[.int .u8 b]=>some (.bool (dgI b))
 |_=>none
def ltP:List V→Option V
 |[.int .u8 b]=>some (.bool (ltI b))
 |_=>none
theorem dg_ok(args:List V)(v:V)(h:dgP args=some v):FnSat Qq 211 args [] (Is (v,[])):=by
 unfold dgP at h;split at h
 ·rename_i b;cases h;refine aP (lim:=9) (n:=10) aI oM rfl rfl ?_;rw[dg_tree];unfold dgI;refine ao (fun h=>?_) (fun h=>?_)
  ·have h:=a8 h;rw[az (show 48≤b by omega),ay]
  ·have h:=of_decide_eq_false h;rw[decide_eq_false (show ¬48≤b by omega),Bool.false_and]
 ·cases h
theorem lt_ok(args:List V)(v:V)(h:ltP args=some v):FnSat Qq 212 args [] (Is (v,[])):=by
 unfold ltP at h;split at h
 ·rename_i b;cases h;refine aP (lim:=9) (n:=10) aI oM rfl rfl ?_;rw[lt_tree];unfold ltI;refine ao (fun h=>?_) (fun h=>?_)
  ·have h:=a8 h;rw[az (show 97≤b by omega),ay]
  ·have h:=of_decide_eq_false h;rw[decide_eq_false (show ¬97≤b by omega),Bool.false_and]
 ·cases h
def RB1:Tab:=⟨addP (addP noT 211 dgP) 212 ltP,noL,bk 9⟩
theorem RB1_ok:TabOk3 Qq RB1:=⟨bh (bh aW dg_ok) lt_ok,aX,aE 9⟩
theorem rl_round(s:List UInt8)(i:Int)(R:Qz):aJ Qq RB1 9 10 (ar 9) 191 58 [0,2,3] [.str s,.bool false,.int .i64 i] [] R=
  (
 bif decide (i<(↑s.length:Int))then bif decide (0≤i)&&i.toNat.blt s.length then bif !dgI (↑(s.getD i.toNat 0).toNat:Int)then bif decide (0≤i)&&i.toNat.blt
 s.length then bif !ltI (↑(s.getD i.toNat 0).toNat:Int)then bif decide (0≤i)&&i.toNat.blt s.length then bif (↑(s.getD i.toNat 0).toNat:Int)!=45 then R .ret
 [some (.str s),some (.bool false),some (.int i64 i)] []else R .normal [some (.str s),some (.bool false),some (.int i64 (i64.wrap (i
 +1)))] []else False else R .normal [some (.str s),some (.bool false),some (.int i64 (i64.wrap (i+1)))] []else False else R .normal [some
 (.str s),some (.bool false),some (.int i64 (i64.wrap (i+1)))] []else False else R (.exit 0) [some (.str s),some (.bool false),some (.int
 i64 i)] []):=by kernel_rfl
theorem rdg_round(s:List UInt8)(i:Int)(R:Qz):aJ Qq RB1 9 10 (ar 9) 190 26 [0,2,3] [.str s,.bool false,.int .i64 i] [] R=
  (
 bif decide (i<(↑s.length:Int))then bif decide (0≤i)&&i.toNat.blt s.length then bif !dgI (↑(s.getD i.toNat 0).toNat:Int)then R .ret [some (.str s),some
 (.bool false),some (.int i64 i)] []else R .normal [some (.str s),some (.bool false),some (.int i64 (i64.wrap (i+1)))] []else False
 else R (.exit 0) [some (.str s),some (.bool false),some (.int i64 i)] []):=by kernel_rfl
def zK_0(i:Int):=V.int i64 (i64.wrap (i+1))
theorem rc_round0(s:List UInt8)(j i:Int)(R:Qz):aJ Qq RB0 9 10 (ar 9) 154 122 [0,2,3,4,5] [.str s,.nilSlice,.nilSlice,.int .i64 j,.int .i64 i] [] R=
 (
 bif decide (i≤(↑s.length:Int))then bif i==(↑s.length:Int)then bif decide (0≤j)then bif decide (0≤i)then bif j.toNat.ble i.toNat&&i.toNat.ble
 s.length then R .normal [some (.str s),some .nilSlice,some (.slice 1 0 1 false 0 0),some (zK_0 i),some (zK_0 i)] [.row [.str (List.take (i.toNat-
 j.toNat) (List.drop j.toNat s))] 9 1,.row [.str (List.take (i.toNat-j.toNat) (List.drop j.toNat s))] 9 1]else False else False else False else bif decide
 (0≤i)&&i.toNat.blt s.length then bif (↑(s.getD i.toNat 0).toNat:Int)==46 then bif decide (0≤j)then bif decide (0≤i)then bif j.toNat.ble i.toNat&&
 i.toNat.ble s.length then R .normal [some (.str s),some .nilSlice,some (.slice 1 0 1 false 0 0),some (zK_0 i),some (zK_0 i)] [.row [.str
 (List.take (i.toNat-j.toNat) (List.drop j.toNat s))] 9 1,.row [.str (List.take (i.toNat-j.toNat) (List.drop j.toNat s))] 9 1]else False else False else
 False else R .normal [some (.str s),some .nilSlice,some .nilSlice,some (.int i64 j),some (zK_0 i)] []else False else R (.exit 0) [some
 (.str s),some .nilSlice,some .nilSlice,some (.int i64 j),some (.int i64 i)] []):=by kernel_rfl
def zK_1(i:Int):=V.int i64 (i64.wrap (i+1))
theorem rc_round1(s:List UInt8)(o:List V)(n:Nat)(j i:Int)(R:Qz):aJ Qq RB0 9 10 (ar 9) 154 122 [0,2,3,4,5] [.str s,.nilSlice,.slice 0 0 n false 0 0,.int .i64 j,.int .i64 i] [.row o 9 1] R=
 (
 bif decide (i≤(↑s.length:Int))then bif i==(↑s.length:Int)then bif decide (0≤j)then bif decide (0≤i)then bif j.toNat.ble i.toNat&&i.toNat.ble
 s.length then bif o.length.beq (n*1)then bif (n+1).ble 9223372036854775807&&((n+1)*16).ble 140737488355328 then R .normal [some (.str s),some
 .nilSlice,some (.slice 2 0 (n+1) false 0 0),some (zK_1 i),some (zK_1 i)] [.dead,.row [.str (List.take (i.toNat-j.toNat) (List.drop j.toNat s))]
 9 1,.row (o++[V.str (List.take (i.toNat-j.toNat) (List.drop j.toNat s))]) 9 1]else False else False else False else False else False else bif decide (0
 ≤i)&&i.toNat.blt s.length then bif (↑(s.getD i.toNat 0).toNat:Int)==46 then bif decide (0≤j)then bif decide (0≤i)then bif j.toNat.ble i.toNat&&
 i.toNat.ble s.length then bif o.length.beq (n*1)then bif (n+1).ble 9223372036854775807&&((n+1)*16).ble 140737488355328 then R .normal [some (.str
 s),some .nilSlice,some (.slice 2 0 (n+1) false 0 0),some (zK_1 i),some (zK_1 i)] [.dead,.row [.str (List.take (i.toNat-j.toNat) (List.drop
 j.toNat s))] 9 1,.row (o++[V.str (List.take (i.toNat-j.toNat) (List.drop j.toNat s))]) 9 1]else False else False else False else False else False else R
 .normal [some (.str s),some .nilSlice,some (.slice 0 0 n false 0 0),some (.int i64 j),some (zK_1 i)] [.row o 9 1]else False else R
 (.exit 0) [some (.str s),some .nilSlice,some (.slice 0 0 n false 0 0),some (.int i64 j),some (.int i64 i)] [.row o 9 1]):=by kernel_rfl
theorem kind_lt(c:UInt8):Nat.blt (cV c) 2=(dgI c.toNat||(ltI c.toNat||((c.toNat:Int)==45))):=by
 unfold cV dgI ltI;rw[Bool.eq_iff_iff];simp only[Nat.blt_eq,Bool.or_eq_true,af,decide_eq_true_eq,beq_iff_eq];split
 ·constructor<;>intro _<;>omega
 ·split
  ·constructor<;>intro _<;>omega
  ·constructor<;>intro _<;>omega
theorem kind_dg(c:UInt8):Nat.beq (cV c) 0=dgI c.toNat:=by
 unfold cV dgI;rw[Bool.eq_iff_iff];simp only[Nat.beq_eq,af,decide_eq_true_eq];split
 ·constructor<;>intro _<;>omega
 ·split
  ·constructor<;>intro _<;>omega
  ·constructor<;>intro _<;>omega
structure RL where
 s:List UInt8
 i:Nat
def rlV(x:RL):List V:=[.str x.s,.bool false,.int .i64 x.i]
def rlJ(_:RL):St:=[]
def eB(x:RL):Bool:=Nat.ble x.i x.s.length&&aF x.s
def rlMu(x:RL):Nat:=x.s.length-x.i
def rlDec:List (Option V)→St→Option RL
 |[some (.str s),some (.bool false),some (.int .i64 0)],_=>some ⟨s,0⟩
 |_,_=>none
def gz(g:Bool)(s:List UInt8)(K:Exit→List V→St→Prop):Prop:=
 bif g then K (.exit 0) [.str s,.bool false,.int .i64 s.length] []else ∀j:Int,K .ret [.str s,.bool false,.int .i64 j] []
def rlOut:Asks RL:=fun x K=>gz (cH (x.s.drop x.i)) x.s K
def rdgOut:Asks RL:=fun x K=>gz (bC (x.s.drop x.i)) x.s K
theorem rl_roundOk(x:RL)(hx:eB x=true):aJ Qq RB1 9 10 (ar 9) 191 58 [0,2,3] (rlV x) (rlJ x) (aQ 0 eB rlV rlJ rlMu rlOut x):=by
 obtain⟨s,i⟩:=x;unfold eB at hx;rw[af]at hx;have p1:i≤s.length:=aD hx.1;have p2:s.length≤1099511627776:=a8 hx.2;show aJ Qq RB1 9 10 (ar 9) 191 58 [0,2,3] [.str s,.bool false,.int .i64 i] [] _;rw[rl_round];cases hd:s.drop i with
 |nil=>
  have hi:=ff hd p1;rw[decide_eq_false (show ¬((i:Int)<(s.length:Int)) by omega),ai];refine⟨[.str s,.bool false,.int .i64 i],[],fun K hK=>?_,bZ _ rfl _ rfl _⟩;have hK:gz (cH (s.drop i)) s K:=hK;rw[hd]at hK;rw[hi];exact hK
 |cons c r=>
  obtain⟨e1,e2,e3⟩:=dJ hd;have w1:i64.wrap ((i:Int)+1)=((i+1:Nat):Int):=by rw[IntWalk.i64_in _ ⟨by omega,by omega⟩];omega
  have d1:(decide (0≤(i:Int))&&i.blt s.length)=true:=by rw[az (show(0:Int)≤i by omega),ay];exact ap (by omega)
  rw[az (show((i:Int)<(s.length:Int)) by omega),ac];simp only[bK,d1,e1,w1,ac];have next:Nat.blt (cV c) 2=true→aQ 0 eB rlV rlJ rlMu rlOut ⟨s,i⟩ .normal [some (.str s),some (.bool false),some (.int .i64 ((i+1:Nat):Int))] []:=fun hk=>by
   refine⟨⟨s,i+1⟩,?_,bZ _ rfl _ rfl _,by simp only[rlMu];omega,fun K hK=>?_⟩
   ·unfold eB;rw[hx.2,Bool.and_true];exact ap e3
   ·have hK:gz (cH (s.drop i)) s K:=hK;have g:cH (c::r)=cH r:=by show(Nat.blt (cV c) 2&&cH r)=cH r;rw[hk];rfl
    rw[hd,g,←e2]at hK;exact hK
  have bad:Nat.blt (cV c) 2=false→aQ 0 eB rlV rlJ rlMu rlOut ⟨s,i⟩ .ret [some (.str s),some (.bool false),some (.int .i64 (i:Int))] []:=fun hk=>by
   refine⟨[.str s,.bool false,.int .i64 i],[],fun K hK=>?_,bZ _ rfl _ rfl _⟩;have hK:gz (cH (s.drop i)) s K:=hK;have g:cH (c::r)=false:=by show(Nat.blt (cV c) 2&&cH r)=false;rw[hk];rfl
   rw[hd,g]at hK;exact hK i
  rw[kind_lt]at next bad
  refine ao (fun h1=>?_) (fun h1=>?_)
  ·refine ao (fun h2=>ao (fun h3=>?_) (fun h3=>?_)) (fun h2=>?_)
   ·have h1:dgI c.toNat=false:=by simpa using h1
    have h2:ltI c.toNat=false:=by simpa using h2
    exact bad (by rw[h1,h2];simpa[bne]using h3)
   ·exact next (by have:((c.toNat:Int)==45)=true:=by simpa[bne]using h3
                   rw[this];simp)
   ·have h2:ltI c.toNat=true:=by simpa using h2
    exact next (by rw[h2];simp)
  ·have h1:dgI c.toNat=true:=by simpa using h1
   exact next (by rw[h1];rfl)
theorem rdg_roundOk(x:RL)(hx:eB x=true):aJ Qq RB1 9 10 (ar 9) 190 26 [0,2,3] (rlV x) (rlJ x) (aQ 0 eB rlV rlJ rlMu rdgOut x):=by
 obtain⟨s,i⟩:=x;unfold eB at hx;rw[af]at hx;have p1:i≤s.length:=aD hx.1;have p2:s.length≤1099511627776:=a8 hx.2;show aJ Qq RB1 9 10 (ar 9) 190 26 [0,2,3] [.str s,.bool false,.int .i64 i] [] _;rw[rdg_round];cases hd:s.drop i with
 |nil=>
  have hi:=ff hd p1;rw[decide_eq_false (show ¬((i:Int)<(s.length:Int)) by omega),ai];refine⟨[.str s,.bool false,.int .i64 i],[],fun K hK=>?_,bZ _ rfl _ rfl _⟩;have hK:gz (bC (s.drop i)) s K:=hK;rw[hd]at hK;rw[hi];exact hK
 |cons c r=>
  obtain⟨e1,e2,e3⟩:=dJ hd;have w1:i64.wrap ((i:Int)+1)=((i+1:Nat):Int):=by rw[IntWalk.i64_in _ ⟨by omega,by omega⟩];omega
  have d1:(decide (0≤(i:Int))&&i.blt s.length)=true:=by rw[az (show(0:Int)≤i by omega),ay];exact ap (by omega)
  rw[az (show((i:Int)<(s.length:Int)) by omega),ac];simp only[bK,d1,e1,w1,ac];refine ao (fun h1=>?_) (fun h1=>?_)
  ·have h1:dgI c.toNat=false:=by simpa using h1
   refine⟨[.str s,.bool false,.int .i64 i],[],fun K hK=>?_,bZ _ rfl _ rfl _⟩;have hK:gz (bC (s.drop i)) s K:=hK;have g:bC (c::r)=false:=by show(Nat.beq (cV c) 0&&bC r)=false;rw[kind_dg,h1];rfl
   rw[hd,g]at hK;exact hK i
  ·have h1:dgI c.toNat=true:=by simpa using h1
   refine⟨⟨s,i+1⟩,?_,bZ _ rfl _ rfl _,by simp only[rlMu];omega,fun K hK=>?_⟩
   ·unfold eB;rw[hx.2,Bool.and_true];exact ap e3
   ·have hK:gz (bC (s.drop i)) s K:=hK;have g:bC (c::r)=bC r:=by show(Nat.beq (cV c) 0&&bC r)=bC r;rw[kind_dg,h1];rfl
    rw[hd,g,←e2]at hK;exact hK
def lkRL:Nat→Trans→Trans:=bq 58 (dc 0 (szOf Qq 191) [0,2,3] rlDec eB rlV rlJ rlOut) (ar 9)
theorem lkRL_ok:ba Qq 0 lkRL 191:=by
 unfold lkRL;exact cx (bJ 9 0 191) (by kernel_rfl) fun f st Q h=>bO (P:=Qq) (T:=RB1) (k:=0) (lim:=9) (n:=10) (g:=191) (p0:=58) (lk:=ar 9) aI RB1_ok (bt 9 _ _) rlMu rl_roundOk h
def lkRD:Nat→Trans→Trans:=bq 26 (dc 0 (szOf Qq 190) [0,2,3] rlDec eB rlV rlJ rdgOut) (ar 9)
theorem lkRD_ok:ba Qq 0 lkRD 190:=by
 unfold lkRD;exact cx (bJ 9 0 190) (by kernel_rfl) fun f st Q h=>bO (P:=Qq) (T:=RB1) (k:=0) (lim:=9) (n:=10) (g:=190) (p0:=26) (lk:=ar 9) aI RB1_ok (bt 9 _ _) rlMu rdg_roundOk h
def RB2:Tab:=⟨noT,noL,er (er (bk 9) 191 0 lkRL) 190 0 lkRD⟩
theorem RB2_ok:TabOk3 Qq RB2:=⟨aW,aX,cD (cD (aE 9) lkRL_ok) lkRD_ok⟩
theorem rlab_tree(s:List UInt8)(R:V→Prop):runW Qq RB2 9 10 191 [.str s] R=
  (
 bif (↑s.length:Int)==0 then R (.bool false)else bif decide ((↑s.length:Int)>63)then R (.bool false)else bif true&&Nat.blt 0 s.length then bif (↑(s.getD 0
 0).toNat:Int)==45 then R (.bool false)else bif decide (0≤i64.wrap ((↑s.length:Int)-1))&&(i64.wrap ((↑s.length:Int)-1)).toNat.blt
 s.length then bif (↑(s.getD (i64.wrap ((↑s.length:Int)-1)).toNat 0).toNat:Int)==45 then R (.bool false)else Fits 0 [.str s,.bool false,.int
 i64 0] [] [some (.str s),some (.bool false),some (.int i64 0)] []∧bif eB {s:=s,i:=0}then bif cH (List.drop 0 s)then R (.bool true)
 else ∀(j:Int),R (.bool false)else False else False else False):=by kernel_rfl
theorem rdig_tree(s:List UInt8)(R:V→Prop):runW Qq RB2 9 10 190 [.str s] R=
  (
 Fits 0 [.str s,.bool false,.int i64 0] [] [some (.str s),some (.bool false),some (.int i64 0)] []∧bif eB {s:=s,i:=0}then bif bC
 (List.drop 0 s)then R (.bool true)else ∀(j:Int),R (.bool false)else False):=by kernel_rfl
theorem rlab_ok(args:List V)(v:V)(h:(match args with|[.str s]=>some (V.bool (bG s))|_=>none)=some v):FnSat Qq 191 args [] (Is (v,[])):=by
 split at h
 ·rename_i s;cases h;refine aP (lim:=9) (n:=10) aI RB2_ok rfl rfl ?_;rw[rlab_tree];have bad:∀{b:Bool},bG s=b→V.bool b=V.bool (bG s):=fun h=>by rw[h]
  refine ao (fun h=>bad ?_) (fun h=>ao (fun h1=>bad ?_) (fun h1=>?_))
  ·have h:s.length=0:=by have:=beq_iff_eq.1 h;omega
   unfold bG;rw[decide_eq_false (by omega)];rfl
  ·have h1:=a8 h1;unfold bG;rw[decide_eq_false (show ¬s.length≤63 by omega),Bool.false_and,Bool.and_false]
  have h:1≤s.length:=by have:=beq_eq_false_iff_ne.1 h;omega
  have h1:=of_decide_eq_false h1;have h1:s.length≤63:=by omega
  have w:i64.wrap ((s.length:Int)-1)=((s.length-1:Nat):Int):=by rw[IntWalk.i64_in _ ⟨by omega,by omega⟩];omega
  rw[w,bK];have nt:∀{c:UInt8} {b:Bool},((c.toNat:Int)==45)=b→(c.toNat==45)=b:=fun{c b} h=>by
   rw[←h,Bool.eq_iff_iff,beq_iff_eq,beq_iff_eq];omega
  refine ah (by rw[ay];exact ap h) (ao (fun h2=>bad ?_) (fun h2=>ah ?_ (ao (fun h3=>bad ?_) (fun h3=>⟨bZ _ rfl _ rfl _,ah ?_ ?_⟩))))
  ·unfold bG;rw[nt h2,Bool.not_true,Bool.false_and,Bool.and_false,Bool.and_false]
  ·rw[az (by omega),ay];exact ap (by omega)
  ·unfold bG;rw[nt h3,Bool.not_true,Bool.false_and,Bool.and_false,Bool.and_false,Bool.and_false]
  ·unfold eB aF;rw[af];exact⟨rfl,az (show s.length≤1099511627776 by omega)⟩
  ·have e:bG s=cH s:=by
    unfold bG;rw[az h,az h1,nt h2,nt h3];rfl
   rw[List.drop_zero];cases hg:cH s with
   |true=>exact bad (e.trans hg)
   |false=>exact fun _=>bad (e.trans hg)
 ·cases h
def rlabP:List V→Option V:=fun args=>match args with|[.str s]=>some (V.bool (bG s))|_=>none
def rdigT:List V→Option (Qx)
 |[.str s]=>some [(aF s,(.bool (bC s),[]))]
 |_=>none
theorem rdig_ok(args:List V)(l:Qx)(o:V×St)(h:rdigT args=some l)(ho:aO l=some o):FnSat Qq 190 args [] (Is o):=by
 unfold rdigT at h;split at h
 ·rename_i s;cases h;obtain⟨hk,rfl⟩:=a7 ho;refine aP (lim:=9) (n:=10) aI RB2_ok rfl rfl ?_;rw[rdig_tree];refine⟨bZ _ rfl _ rfl _,ah ?_ ?_⟩
  ·unfold eB;rw[hk];rfl
  ·rw[List.drop_zero];cases bC s with
   |true=>rfl
   |false=>exact fun _=>rfl
 ·cases h
def labG(a:List UInt8):List UInt8→List (List UInt8)
 |[]=>[a]
 |c::r=>if c=46 then a::labG [] r else labG (a++[c]) r
theorem labG_cut:∀(s a:List UInt8),labG a s=match(cutA s).2 with
  |none=>[a++(cutA s).1]
  |some r=>(a++(cutA s).1)::labG [] r
 |[],a=>by simp[labG,cutA]
 |c::r,a=>by
  by_cases hc:c=46
  ·simp[labG,cutA,hc]
  ·have:=labG_cut r (a++[c]);simp only[labG,cutA,if_neg hc];rw[this];cases(cutA r).2<;>simp
theorem labF_G:∀(k:Nat) (s:List UInt8),s.length<k→labF k s=labG [] s
 |0,s,h=>by omega
 |k+1,s,h=>by
  rw[labG_cut];unfold labF cutM cutB cutR;cases hc:(cutA s).2 with
  |none=>simp
  |some r=>
   have hl:r.length<s.length:=by
    have:∀(s r:List UInt8),(cutA s).2=some r→r.length<s.length:=by
     intro s
     induction s with
     |nil=>intro r h;simp[cutA]at h
     |cons c t ih=>
      intro r h;by_cases hc:c=46
      ·simp only[cutA,if_pos hc,ad]at h;subst h;simp
      ·simp only[cutA,if_neg hc]at h;have:=ih r h;simp only[List.length_cons];omega
    exact this s r hc
   simp only[Option.isSome_some,ac,Option.getD_some,List.nil_append];rw[labF_G k r (by omega)]
theorem kB(s:List UInt8):cU s=labG [] s:=labF_G _ s (by omega)
theorem lH:∀(s a:List UInt8),(labG a s).length≤s.length+1
 |[],a=>by simp[labG]
 |c::r,a=>by
  simp only[labG];split
  ·have:=lH r [];simp only[List.length_cons];omega
  ·have:=lH r (a++[c]);simp only[List.length_cons];omega
structure RC where
 s:List UInt8
 o:List (List UInt8)
 j:Nat
 i:Nat
def rcSl:List (List UInt8)→V
 |[]=>.nilSlice
 |a::r=>.slice 0 0 (a::r).length false 0 0
def rcRw:List (List UInt8)→St
 |[]=>[]
 |a::r=>[.row (strs (a::r)) 9 1]
def rcV(x:RC):List V:=[.str x.s,.nilSlice,rcSl x.o,.int .i64 x.j,.int .i64 x.i]
def rcJ(x:RC):St:=rcRw x.o
def io(x:RC):Bool:=aF x.s&&(Nat.ble x.j x.i&&(Nat.ble x.i (x.s.length+1)&&(Nat.ble x.o.length x.i&&(Nat.ble x.i x.s.length||!x.o.isEmpty))))
def rcMu(x:RC):Nat:=x.s.length+2-x.i
def rcDec:List (Option V)→St→Option RC
 |[some (.str s),some .nilSlice,some .nilSlice,some (.int .i64 0),some (.int .i64 0)],_=>some ⟨s,[],0,0⟩
 |_,_=>none
def rcL(x:RC):List (List UInt8):=bif Nat.ble x.i x.s.length then x.o++labG ((x.s.drop x.j).take (x.i-x.j)) (x.s.drop x.i)else x.o
def nV(n:Nat)(cs:List V)(s:List UInt8)(K:Exit→List V→St→Prop):Prop:=∀j i:Int,K (.exit 0) [.str s,.nilSlice,.slice 0 0 n false 0 0,.int .i64 j,.int .i64 i] [.row cs 9 1]
def rcN(s:List UInt8)(o:List (List UInt8))(j i:Nat):Nat:=(rcL ⟨s,o,j,i⟩).length
def rcC(s:List UInt8)(o:List (List UInt8))(j i:Nat):List V:=strs (rcL ⟨s,o,j,i⟩)
def rcOut:Asks RC:=fun x K=>nV (rcN x.s x.o x.j x.i) (rcC x.s x.o x.j x.i) x.s K
theorem i6(σ:List Nat):∀l:List (List UInt8),renL σ (strs l)=some (strs l)
 |[]=>rfl
 |a::r=>by
  have:=i6 σ r;unfold strs at this ⊢;simp only[List.map_cons,renL,renV,this]
theorem ld(s:List UInt8)(j i:Int)(o:List (List UInt8))(b L:Nat)(hL:L=o.length){st:St}(hb:st[b]?=some (.row (strs o) 9 1)):
  Fits 0 [.str s,.nilSlice,.slice 0 0 o.length false 0 0,.int .i64 j,.int .i64 i] [.row (strs o) 9 1] [some (.str s),some .nilSlice,some (.slice b 0 L false 0 0),some (.int .i64 j),some (.int .i64 i)] st:=by
 subst hL;exact⟨[b],[.str s,.nilSlice,.slice b 0 o.length false 0 0,.int .i64 j,.int .i64 i],rfl,rfl,FitsM.of ⟨.inr ⟨_,.inl (by simp only[renB,i6]),hb⟩,trivial⟩,by simp,fun i hi=>by omega⟩
theorem take_more{s:List UInt8}{j i:Nat}{c:UInt8}{r:List UInt8}(hd:s.drop i=c::r)(hj:j≤i):(s.drop j).take (i+1-j)=(s.drop j).take (i-j)++[c]:=by
 have hl:i<s.length:=by
  rcases Nat.lt_or_ge i s.length with h|h
  ·exact h
  ·rw[List.drop_eq_nil_of_le h]at hd;cases hd
 have hc:(s.drop j)[i-j]?=some c:=by
  rw[List.getElem?_drop,show j+(i-j)=i by omega];have:=List.getElem?_drop (xs:=s) (i:=i) (j:=0);rw[hd,Nat.add_zero]at this;exact this.symm
 rw[show i+1-j=(i-j)+1 by omega,List.take_add_one,hc];rfl
theorem jD{s:List UInt8}{o:List (List UInt8)}{j i:Nat}(h:i≤s.length):rcL ⟨s,o,j,i⟩=o++labG ((s.drop j).take (i-j)) (s.drop i):=by
 unfold rcL;rw[ap h];rfl
theorem rcL_out{s:List UInt8}{o:List (List UInt8)}{j i:Nat}(h:s.length<i):rcL ⟨s,o,j,i⟩=o:=by
 unfold rcL;cases hb:Nat.ble i s.length with
 |false=>rfl
 |true=>have:=aD hb;omega
theorem rc_roundOk(x:RC)(hx:io x=true):aJ Qq RB0 9 10 (ar 9) 154 122 [0,2,3,4,5] (rcV x) (rcJ x) (aQ 0 io rcV rcJ rcMu rcOut x):=by
 obtain⟨s,o,j,i⟩:=x;unfold io at hx;simp only[af]at hx;have p0:s.length≤1099511627776:=a8 hx.1;have p1:j≤i:=aD hx.2.1;have p2:i≤s.length+1:=aD hx.2.2.1;have p3:o.length≤i:=aD hx.2.2.2.1;have p4:s.length<i→o≠[]:=fun h=>by
  have h4:=hx.2.2.2.2;rw[Bool.or_eq_true]at h4;rcases h4 with h4|h4
  ·have:=aD h4;omega
  ·intro e;subst e;cases h4
 have w1:i64.wrap ((i:Int)+1)=((i+1:Nat):Int):=by rw[IntWalk.i64_in _ ⟨by omega,by omega⟩];omega
 have d1:decide ((0:Int)≤(j:Int))=true:=az (by omega);have d2:decide ((0:Int)≤(i:Int))=true:=az (by omega);have d5:(strs o).length.beq (o.length*1)=true:=by rw[bF,Nat.mul_one,Nat.beq_refl]
 have d6:((o.length+1).ble 9223372036854775807&&((o.length+1)*16).ble 140737488355328)=true:=by rw[ap (by omega),ap (by omega)];rfl
 have pre:∀(o':List (List UInt8)) (j':Nat),j'≤i+1→i≤s.length→o'.length≤i+1→(i=s.length→o'≠[])→io ⟨s,o',j',i+1⟩=true:=fun o' j' h1 h2 h3 h4=>by
  unfold io;simp only[af,Bool.or_eq_true];refine⟨hx.1,ap h1,ap (by omega),ap h3,?_⟩;rcases Nat.lt_or_ge i s.length with h|h
  ·exact .inl (ap h)
  ·refine .inr ?_;have:=h4 (by omega);cases o' with
   |nil=>exact absurd rfl this
   |cons a q=>rfl
 -- a part ends
 have cut:∀(b L:Nat) (st:St),L=o.length+1→st[b]?=some (.row (strs (o++[(s.drop j).take (i-j)])) 9 1)→i≤s.length→(∀c r,s.drop i=c::r→c=46)→
   aQ 0 io rcV rcJ rcMu rcOut ⟨s,o,j,i⟩ .normal [some (.str s),some .nilSlice,some (.slice b 0 L false 0 0),some (.int .i64 ((i+1:Nat):Int)),some (.int .i64 ((i+1:Nat):Int))] st:=by
  intro b L st hL hb hi hc;have hr:rcL ⟨s,o++[(s.drop j).take (i-j)],i+1,i+1⟩=rcL ⟨s,o,j,i⟩:=by
   cases hd:s.drop i with
   |nil=>
    have hi2:=ff hd hi;rw[rcL_out (by omega),jD hi,hd,labG]
   |cons c r=>
    obtain⟨_,h2,h3⟩:=dJ hd;rw[jD h3,jD hi,hd,labG,if_pos (hc c r hd),h2,Nat.sub_self,List.take_zero,List.append_assoc];rfl
  refine⟨⟨s,o++[(s.drop j).take (i-j)],i+1,i+1⟩,pre _ _ (Nat.le_refl _) hi (by simp;omega) (fun _=>by simp),?_,by simp only[rcMu];omega,fun K hK=>?_⟩
  ·cases ho:o++[(s.drop j).take (i-j)]with
   |nil=>simp at ho
   |cons a q=>
    rw[ho]at hb;have hL:L=(a::q).length:=by rw[←ho];simp;omega
    exact ld s _ _ (a::q) b L hL hb
  ·have hK:nV (rcN s o j i) (rcC s o j i) s K:=hK;unfold rcN rcC at hK;rw[←hr]at hK;exact hK
 have go:∀c r,s.drop i=c::r→c≠46→aQ 0 io rcV rcJ rcMu rcOut ⟨s,o,j,i⟩ .normal [some (.str s),some .nilSlice,some (rcSl o),some (.int .i64 (j:Int)),some (.int .i64 ((i+1:Nat):Int))] (rcRw o):=fun c r h hc=>by
  obtain⟨_,h2,h3⟩:=dJ h;refine⟨⟨s,o,j,i+1⟩,pre _ _ (by omega) (by omega) (by omega) (fun e=>by omega),?_,by simp only[rcMu];omega,fun K hK=>?_⟩
  ·cases o with
   |nil=>exact⟨[],[.str s,.nilSlice,.nilSlice,.int .i64 j,.int .i64 ((i+1:Nat):Int)],rfl,rfl,FitsM.of trivial,by simp,fun i hi=>by omega⟩
   |cons a q=>exact ld s _ _ (a::q) 0 _ rfl rfl
  ·have hK:nV (rcN s o j i) (rcC s o j i) s K:=hK;have e:rcL ⟨s,o,j,i⟩=rcL ⟨s,o,j,i+1⟩:=by
    rw[jD (by omega),jD h3,h,labG,if_neg hc,take_more h p1,h2]
   unfold rcN rcC at hK;rw[e]at hK;exact hK
 have dot:∀{c:UInt8} {b:Bool},((c.toNat:Int)==46)=b→(decide (c=46))=b:=fun{c b} h=>by
  rw[←h,Bool.eq_iff_iff,beq_iff_eq,decide_eq_true_eq];exact⟨fun h=>by subst h;rfl,fun h=>UInt8.toNat_inj.1 (by have:(46:UInt8).toNat=46:=rfl;omega)⟩
 cases o with
 |nil=>
  show aJ Qq RB0 9 10 (ar 9) 154 122 [0,2,3,4,5] [.str s,.nilSlice,.nilSlice,.int .i64 j,.int .i64 i] [] _;rw[rc_round0];unfold zK_0;have hi:i≤s.length:=by
   rcases Nat.lt_or_ge s.length i with h|h
   ·exact absurd rfl (p4 h)
   ·exact h
  have d0:decide ((i:Int)≤(s.length:Int))=true:=az (by omega);have d3:(j.ble i&&i.ble s.length)=true:=by rw[ap p1,ap hi];rfl
  simp only[d0,d1,d2,d3,w1,bK,ac,ay];refine ao (fun h=>?_) (fun h=>?_)
  ·have h:=beq_iff_eq.1 h;exact cut 1 1 _ rfl rfl hi (fun c r hd=>by rw[List.drop_eq_nil_of_le (by omega)]at hd;cases hd)
  ·have h:=beq_eq_false_iff_ne.1 h;refine ah (ap (by omega)) ?_;cases hd:s.drop i with
   |nil=>have:=ff hd hi;omega
   |cons c r=>
    rw[(dJ hd).1];refine ao (fun h=>?_) (fun h=>?_)
    ·exact cut 1 1 _ rfl rfl hi (fun c' r' hd'=>by rw[hd]at hd';cases hd';exact a8 (dot h))
    ·exact go c r hd (of_decide_eq_false (dot h))
 |cons a q=>
  show aJ Qq RB0 9 10 (ar 9) 154 122 [0,2,3,4,5] [.str s,.nilSlice,.slice 0 0 (a::q).length false 0 0,.int .i64 j,.int .i64 i] [.row (strs (a::q)) 9 1] _;rw[rc_round1];unfold zK_1;rcases Nat.lt_or_ge s.length i with hi|hi
  ·rw[decide_eq_false (show ¬((i:Int)≤(s.length:Int)) by omega),ai];refine⟨_,_,fun K hK=>?_,ld s j i (a::q) 0 _ rfl rfl⟩;have hK:nV (rcN s (a::q) j i) (rcC s (a::q) j i) s K:=hK;unfold rcN rcC at hK;rw[rcL_out hi]at hK;exact hK j i
  have d0:decide ((i:Int)≤(s.length:Int))=true:=az (by omega);have d3:(j.ble i&&i.ble s.length)=true:=by rw[ap p1,ap hi];rfl
  have cat:∀x:List UInt8,strs (a::q)++[V.str x]=strs ((a::q)++[x]):=fun x=>by unfold strs;rw[List.map_append];rfl
  simp only[d0,d1,d2,d3,d5,d6,w1,cat,bK,ac,ay];refine ao (fun h=>?_) (fun h=>?_)
  ·have h:=beq_iff_eq.1 h;exact cut 2 _ _ rfl rfl hi (fun c r hd=>by rw[List.drop_eq_nil_of_le (by omega)]at hd;cases hd)
  ·have h:=beq_eq_false_iff_ne.1 h;refine ah (ap (by omega)) ?_;cases hd:s.drop i with
   |nil=>have:=ff hd hi;omega
   |cons c r=>
    rw[(dJ hd).1];refine ao (fun h=>?_) (fun h=>?_)
    ·exact cut 2 _ _ rfl rfl hi (fun c' r' hd'=>by rw[hd]at hd';cases hd';exact a8 (dot h))
    ·exact go c r hd (of_decide_eq_false (dot h))
def lkRC:Nat→Trans→Trans:=bq 122 (dc 0 (szOf Qq 154) [0,2,3,4,5] rcDec io rcV rcJ rcOut) (ar 9)
theorem lkRC_ok:ba Qq 0 lkRC 154:=by
 unfold lkRC;exact cx (bJ 9 0 154) (by kernel_rfl) fun f st Q h=>bO (P:=Qq) (T:=RB0) (k:=0) (lim:=9) (n:=10) (g:=154) (p0:=122) (lk:=ar 9) aI oM (bt 9 _ _) rcMu rc_roundOk h
def RB3:Tab:=⟨noT,noL,er (bk 9) 154 0 lkRC⟩
theorem RB3_ok:TabOk3 Qq RB3:=⟨aW,aX,cD (aE 9) lkRC_ok⟩
theorem rcut_tree(s:List UInt8)(R:V→St→Prop):runM Qq RB3 9 10 154 [.str s] R=
  (
 Fits 0 [.str s,.nilSlice,.nilSlice,.int i64 0,.int i64 0] [] [some (.str s),some .nilSlice,some .nilSlice,some (.int i64 0),some
 (.int i64 0)] []∧bif io {s:=s,o:=[],j:=0,i:=0}then ∀(j i:Int),R (.slice 0 0 (rcN s [] 0 0) false 0 0) [.row (rcC s [] 0 0) 9 1]else
 False):=by kernel_rfl
def rcutT:List V→Option (Qx)
 |[.str s]=>some [(aF s,(.slice 0 0 (lsN s []) false 0 0,[.row (lsC s []) 9 1]))]
 |_=>none
theorem rcL_all(s:List UInt8):rcL ⟨s,[],0,0⟩=[]++cU s:=by
 rw[jD (Nat.zero_le _),kB];rfl
theorem nU(args:List V)(l:Qx)(o:V×St)(h:rcutT args=some l)(ho:aO l=some o):FnSat Qq 154 args [] (Is o):=by
 unfold rcutT at h;split at h
 ·rename_i s;cases h;obtain⟨hk,rfl⟩:=a7 ho;refine FnSat.fits (eE (lim:=9) (n:=10) aI RB3_ok ?_);rw[rcut_tree];refine⟨⟨[],[.str s,.nilSlice,.nilSlice,.int .i64 0,.int .i64 0],rfl,rfl,FitsM.of trivial,by simp,fun i hi=>by omega⟩,ah ?_ (fun j i=>?_)⟩
  ·unfold io;rw[hk];rfl
  ·unfold rcN rcC lsN lsC;rw[rcL_all];exact⟨[0],[.slice 0 0 _ false 0 0],rfl,rfl,FitsM.of ⟨.inr ⟨_,.inl (by simp only[renB,i6]),rfl⟩,trivial⟩,by simp,fun i hi=>by omega⟩
 ·cases h
def RB4:Tab:=⟨addP (addT (addT noT 154 rcutT) 190 rdigT) 191 rlabP,noL,bk 9⟩
theorem RB4_ok:TabOk3 Qq RB4:=⟨bh (bg (bg aW nU) rdig_ok) (fun args v h=>rlab_ok args v h),aX,aE 9⟩
theorem rm_round(s:List UInt8)(o:List V)(n:Nat)(i:Int)(R:Qz):aJ Qq RB4 9 10 (ar 9) 153 122 [0,2,3,4] [.str s,.bool false,.slice 0 0 n false 0 0,.int .i64 i] [.row o 9 1] R=
  (
 bif decide (i<(↑n:Int))then bif decide (0≤i)&&decide (i<(↑n:Int))then bif (0+i.toNat*1).blt o.length then bif aw (o.getD (0+i.toNat*1) (.bool
 false))then bif !bG (al (o.getD (0+i.toNat*1) (.bool false)))then R .ret [some (.str s),some (.bool false),some (.slice 0 0 n false 0 0),some
 (.int i64 i)] [.row o 9 1]else R .normal [some (.str s),some (.bool false),some (.slice 0 0 n false 0 0),some (.int i64 (i64.wrap
 (i+1)))] [.row o 9 1]else False else False else False else R (.exit 0) [some (.str s),some (.bool false),some (.slice 0 0 n false 0 0),some (.int
 i64 i)] [.row o 9 1]):=by kernel_rfl
structure RM where
 s:List UInt8
 o:List V
 i:Nat
def rmV(x:RM):List V:=[.str x.s,.bool false,.slice 0 0 x.o.length false 0 0,.int .i64 x.i]
def rmJ(x:RM):St:=[.row x.o 9 1]
def kY(x:RM):Bool:=x.o.all aw&&(Nat.ble x.o.length 1099511627800&&Nat.ble x.i x.o.length)
def rmMu(x:RM):Nat:=x.o.length-x.i
def rmDec:List (Option V)→St→Option RM
 |[some (.str s),some (.bool false),some (.slice b 0 n false 0 0),some (.int .i64 0)],st=>match st[b]? with
  |some (.row o _ _)=>some ⟨s,o,0⟩
  |_=>none
 |_,_=>none
def iY(o:List V):Bool:=(o.map al).all bG
def rmOutG(s:List UInt8)(o:List V)(g:Bool)(K:Exit→List V→St→Prop):Prop:=bif g then ∀i:Int,K (.exit 0) [.str s,.bool false,.slice 0 0 o.length false 0 0,.int .i64 i] [.row o 9 1]else ∀i:Int,K .ret [.str s,.bool false,.slice 0 0 o.length false 0 0,.int .i64 i] [.row o 9 1]
def rmOut:Asks RM:=fun x K=>rmOutG x.s x.o (iY (x.o.drop x.i)) K
theorem ks(s:List UInt8)(l:List (List UInt8))(b L:Nat)(i:Int)(hL:L=(strs l).length){st:St}(hb:st[b]?=some (.row (strs l) 9 1)):
  Fits 0 [.str s,.bool false,.slice 0 0 (strs l).length false 0 0,.int .i64 i] [.row (strs l) 9 1] [some (.str s),some (.bool false),some (.slice b 0 L false 0 0),some (.int .i64 i)] st:=by
 subst hL;exact⟨[b],[.str s,.bool false,.slice b 0 (strs l).length false 0 0,.int .i64 i],rfl,rfl,FitsM.of ⟨.inr ⟨_,.inl (by simp only[renB,i6]),hb⟩,trivial⟩,by simp,fun i hi=>by omega⟩
theorem rm_roundOk(x:RM)(hx:kY x=true):aJ Qq RB4 9 10 (ar 9) 153 122 [0,2,3,4] (rmV x) (rmJ x) (aQ 0 kY rmV rmJ rmMu rmOut x):=by
 obtain⟨s,o,i⟩:=x;have hx0:=hx;unfold kY at hx;simp only[af]at hx;have q1:o.all aw=true:=hx.1;have q2:o.length≤1099511627800:=aD hx.2.1;have q3:i≤o.length:=aD hx.2.2;obtain⟨l,rfl⟩:∃l,o=strs l:=⟨o.map al,(ko q1).symm⟩;show aJ Qq RB4 9 10 (ar 9) 153 122 [0,2,3,4] [.str s,.bool false,.slice 0 0 (strs l).length false 0 0,.int .i64 i] [.row (strs l) 9 1] _;rw[rm_round];rw[bF]at q2 q3;have hA:∀j,iY ((strs l).drop j)=(l.drop j).all bG:=fun j=>by
  have:(strs l).drop j=strs (l.drop j):=by unfold strs;rw[List.map_drop]
  unfold iY;rw[this,bV]
 have out:∀K,rmOut ⟨s,strs l,i⟩ K→rmOutG s (strs l) ((l.drop i).all bG) K:=fun K hK=>by
  have hK:rmOutG s (strs l) (iY ((strs l).drop i)) K:=hK;rw[hA]at hK;exact hK
 rw[bF];cases hd:l.drop i with
 |nil=>
  have hi:=fR hd q3;rw[decide_eq_false (show ¬((i:Int)<(l.length:Int)) by omega),ai];refine⟨_,_,fun K hK=>?_,ks s l 0 _ i (by rw[bF]) rfl⟩;have hK:=out K hK;rw[hd]at hK;exact hK i
 |cons c r=>
  obtain⟨e1,e2,e3⟩:=ef hd;obtain⟨e4,e5⟩:=kp hd;have e6:0+i*1=i*1:=by omega
  have w1:i64.wrap ((i:Int)+1)=((i+1:Nat):Int):=by rw[IntWalk.i64_in _ ⟨by omega,by omega⟩];omega
  have d0:decide ((i:Int)<(l.length:Int))=true:=az (by omega);have d1:decide ((0:Int)≤(i:Int))=true:=az (by omega);have e7:i.blt l.length=true:=ap e3;rw[Nat.mul_one]at e4;simp only[d0,d1,w1,e4,e7,Nat.zero_add,Nat.mul_one,bK,aw,al,ac,Bool.and_self];refine ao (fun h=>?_) (fun h=>?_)
  ·have h:bG c=false:=by simpa using h
   refine⟨_,_,fun K hK=>?_,ks s l 0 _ i (by rw[bF]) rfl⟩;have hK:=out K hK;rw[hd,List.all_cons,h,Bool.false_and]at hK;exact hK i
  ·have h:bG c=true:=by simpa using h
   refine⟨⟨s,strs l,i+1⟩,?_,ks s l 0 _ _ (by rw[bF]) rfl,by simp only[rmMu,bF];omega,fun K hK=>?_⟩
   ·unfold kY;simp only[af];exact⟨q1,hx.2.1,ap (by rw[bF];exact e3)⟩
   ·have hK:=out K hK;rw[hd,List.all_cons,h,ay,←e2,←hA]at hK;exact hK
def lkRM:Nat→Trans→Trans:=bq 122 (dc 0 (szOf Qq 153) [0,2,3,4] rmDec kY rmV rmJ rmOut) (ar 9)
theorem lkRM_ok:ba Qq 0 lkRM 153:=by
 unfold lkRM;exact cx (bJ 9 0 153) (by kernel_rfl) fun f st Q h=>bO (P:=Qq) (T:=RB4) (k:=0) (lim:=9) (n:=10) (g:=153) (p0:=122) (lk:=ar 9) aI RB4_ok (bt 9 _ _) rmMu rm_roundOk h
def RB5:Tab:=⟨addP (addT (addT noT 154 rcutT) 190 rdigT) 191 rlabP,noL,er (bk 9) 153 0 lkRM⟩
theorem RB5_ok:TabOk3 Qq RB5:=⟨bh (bg (bg aW nU) rdig_ok) (fun args v h=>rlab_ok args v h),aX,cD (aE 9) lkRM_ok⟩
def zK_2(s:List UInt8):=((lsC s []).getD (0+(i64.wrap ((↑(lsN s []):Int)-1)).toNat*1) (V.bool false))
theorem rmay_tree(s:List UInt8)(R:V→Prop):runW Qq RB5 9 10 153 [.str s] R=
 (
 bif aF s then bif decide ((↑s.length:Int)>253)then R (.bool false)else bif decide (0≤i64.wrap ((↑(lsN s []):Int)-1))&&decide
 (i64.wrap ((↑(lsN s []):Int)-1)<(↑(lsN s []):Int))then bif (0+(i64.wrap ((↑(lsN s []):Int)-1)).toNat*1).blt (lsC s []).length
 then bif aw (zK_2 s)then bif aF (al (zK_2 s))then bif bC (al (zK_2 s))then R (.bool false)else Fits 0 [.str s,.bool false,.slice 0 0
 (lsC s []).length false 0 0,.int i64 0] [.row (lsC s []) 9 1] [some (.str s),some (.bool false),some (.slice 0 0 (lsN s []) false 0 0),some
 (.int i64 0)] [.row (lsC s []) 9 1]∧bif kY {s:=s,o:=lsC s [],i:=0}then bif iY (List.drop 0 (lsC s []))then ∀(i:Int),R
 (.bool true)else ∀(i:Int),R (.bool false)else False else False else False else False else False else False):=by kernel_rfl
theorem nmA_all:∀(k:Nat) (s:List UInt8),s.length<k→nmA k s=((labF k s).all bG,(labF k s).all bG&&bC ((labF k s).getLastD []))
 |0,s,h=>by omega
 |k+1,s,h=>by
  unfold nmA labF;cases hl:bG (cutB s)with
  |false=>
   rw[ai];cases cutM s<;>simp[hl]
  |true=>
   rw[ac];cases hm:cutM s with
   |false=>simp[hl]
   |true=>
    rw[ac,ac];have hc:=jw hm;rw[nmA_all k (cutR s) (by omega)];have hne:labF k (cutR s)≠[]:=by
     cases k with
     |zero=>omega
     |succ k=>unfold labF;cases cutM (cutR s)<;>simp
    cases hq:labF k (cutR s)with
    |nil=>exact absurd hq hne
    |cons a q=>simp[hl]
theorem labG_ne:∀(s a:List UInt8),labG a s≠[]
 |[],a=>by simp[labG]
 |c::r,a=>by
  simp only[labG];split
  ·simp
  ·exact labG_ne r _
theorem mayN_all(s:List UInt8):mayN s=(decide (s.length≤253)&&((cU s).all bG&&!bC ((cU s).getLastD []))):=by
 unfold mayN nmO nmD cU;rw[nmA_all _ s (by omega)];cases(labF (s.length+1) s).all bG<;>simp
def rmayT:List V→Option (Qx)
 |[.str s]=>some [(aF s,(.bool (mayN s),[]))]
 |_=>none
theorem li:∀(s a:List UInt8),∀x∈labG a s,x.length≤a.length+s.length
 |[],a,x,h=>by simp[labG]at h;subst h;simp
 |c::r,a,x,h=>by
  simp only[labG]at h;split at h
  ·rcases List.mem_cons.1 h with h|h
   ·subst h;simp
   ·have:=li r [] x h;simp only[List.length_cons,List.length_nil]at*;omega
  ·have:=li r (a++[c]) x h;simp only[List.length_append,List.length_cons,List.length_nil]at*;omega
theorem rmay_ok(args:List V)(l:Qx)(o:V×St)(h:rmayT args=some l)(ho:aO l=some o):FnSat Qq 153 args [] (Is o):=by
 unfold rmayT at h;split at h
 ·rename_i s;cases h;obtain⟨hk,rfl⟩:=a7 ho;have hb:=a8 hk;refine aP (lim:=9) (n:=10) aI RB5_ok rfl rfl ?_;rw[rmay_tree];unfold zK_2;rw[mayN_all];have eC:lsC s []=strs (cU s):=rfl;have eN:lsN s []=(cU s).length:=rfl;have hlen:=lH s [];have hne:=labG_ne s [];rw[eC,eN];obtain⟨q,z,hq⟩:∃q z,cU s=q++[z]:=by
   rw[←kB]at hne;exact⟨_,_,(List.dropLast_concat_getLast hne).symm⟩
  have hz:z.length≤s.length:=by
   have:=li s [] z (by rw[←kB,hq];simp);simpa using this
  rw[←kB]at hlen;have hL:(cU s).length=q.length+1:=by rw[hq];simp
  have w:i64.wrap (((cU s).length:Int)-1)=(q.length:Int):=by rw[hL,IntWalk.i64_in _ ⟨by omega,by omega⟩];omega
  have g:(strs (cU s)).getD q.length (.bool false)=.str z:=by
   rw[hq];unfold strs;rw[List.map_append,List.getD_eq_getElem?_getD,List.getElem?_append_right (by simp)];simp
  have last:(cU s).getLastD []=z:=by rw[hq];simp
  have d1:(decide (0≤(q.length:Int))&&decide ((q.length:Int)<((cU s).length:Int)))=true:=by rw[hL];simp;omega
  have d2:q.length.blt (strs (cU s)).length=true:=ap (by rw[bF,hL];omega);have d3:aF z=true:=az (by omega);simp only[w,bK,Nat.mul_one,Nat.zero_add,d1,d2,g,d3,aw,al,last,hk,ac];refine ao (fun h=>?_) (fun h=>ao (fun h1=>?_) (fun h1=>⟨?_,ah ?_ ?_⟩))
  ·have h:=a8 h;rw[decide_eq_false (show ¬s.length≤253 by omega)];rfl
  ·rw[h1,Bool.not_true,Bool.and_false,Bool.and_false]
  ·exact ks s (cU s) 0 _ 0 (by rw[bF]) rfl
  ·unfold kY;simp only[af];exact⟨fU _,ap (by rw[bF];omega),ap (Nat.zero_le _)⟩
  ·have h:=of_decide_eq_false h;have e:(decide (s.length≤253)&&((cU s).all bG&&!bC z))=(cU s).all bG:=by
    rw[az (show s.length≤253 by omega),h1,Bool.not_false,Bool.and_true,ay]
   have e2:iY (List.drop 0 (strs (cU s)))=(cU s).all bG:=by unfold iY;rw[List.drop_zero,bV]
   rw[e2,e];cases(cU s).all bG with
   |true=>exact fun _=>rfl
   |false=>exact fun _=>rfl
 ·cases h
theorem rbare_tree(s:List UInt8)(R:V→Prop):runW Qq RB0 9 10 152 [.str s] R=
  (
 bif decide ((↑s.length:Int)>1)then bif true&&Nat.ble 2 s.length then bif List.take 2 (List.drop 0 s)==[42,46]then bif Nat.ble 2 s.length&&s.length.ble
 s.length then R (.tuple [.str (List.take (s.length-2) (List.drop 2 s)),.bool true])else False else R (.tuple [.str s,.bool false])else False else R (.tuple
 [.str s,.bool false])):=by kernel_rfl
def nW:List V→Option V
 |[.str s]=>some (.tuple [.str (du s),.bool (eY s)])
 |_=>none
theorem rbare_ok(args:List V)(v:V)(h:nW args=some v):FnSat Qq 152 args [] (Is (v,[])):=by
 unfold nW at h;split at h
 ·rename_i s;cases h;refine aP (lim:=9) (n:=10) aI oM rfl rfl ?_;rw[rbare_tree];unfold du eY;have hd:List.drop 0 s=s:=rfl;rw[hd];refine ao (fun h=>?_) (fun h=>?_)
  ·have h:=a8 h;refine ah (by rw[ay];exact ap (by omega)) (ao (fun h1=>ah ?_ ?_) (fun h1=>?_))
   ·rw[ap (show 2≤s.length by omega),ap (Nat.le_refl _)];rfl
   ·rw[if_pos (beq_iff_eq.1 h1),h1,List.take_of_length_le (by simp)]
   ·rw[if_neg (beq_eq_false_iff_ne.1 h1),h1]
  ·have h:=of_decide_eq_false h;have n:s.take 2≠[42,46]:=fun e=>by
    have:=congrArg List.length e;simp at this;omega
   rw[if_neg n,beq_false_of_ne n]
 ·cases h
def RM0:Tab:=⟨addT (addT (addP noT 152 nW) 153 rmayT) 154 rcutT,noL,bk 9⟩
theorem RM0_ok:TabOk3 Qq RM0:=⟨bg (bg (bh aW rbare_ok) rmay_ok) nU,aX,aE 9⟩
def zL_0(s:List UInt8):=((↑(al ((lsC s []).getD 0 (V.bool false))).length:Int)+1)
theorem rpar_tree(s:List UInt8)(R:V→Prop):runW Qq RM0 9 10 94 [.str s] R=
 (
 bif aF s then bif !mayN s then R (.tuple [.str [],.bool false])else bif aF s then bif decide ((↑(lsN s []):Int)<2)then R (.tuple [.str [],
 .bool false])else bif true&&decide (0<(↑(lsN s []):Int))then bif Nat.blt 0 (lsC s []).length then bif aw ((lsC s []).getD 0 (.bool false))then bif
 decide (0≤i64.wrap (zL_0 s))then bif (i64.wrap (zL_0 s)).toNat.ble s.length&&s.length.ble s.length then R (.tuple [.str (List.take
 (s.length-(i64.wrap (zL_0 s)).toNat) (List.drop (i64.wrap (zL_0 s)).toNat s)),.bool true])else False else False else False else False else
 False else False else False):=by kernel_rfl
theorem okLen_bare{s:List UInt8}(h:aF s=true):aF (du s)=true:=by
 unfold aF at*
 have h:=a8 h;refine az ?_;unfold du;split
 ·simp;omega
 ·exact h
theorem lU:∀s:List UInt8,match(cutA s).2 with
  |none=>(cutA s).1=s
  |some r=>s=(cutA s).1++46::r
 |[]=>rfl
 |c::r=>by
  by_cases hc:c=46
  ·simp[cutA,hc]
  ·have:=lU r;simp only[cutA,if_neg hc];cases h:(cutA r).2 with
   |none=>rw[h]at this;simp only at this ⊢;rw[this]
   |some t=>rw[h]at this;simp only at this ⊢;rw[List.cons_append,←this]
theorem cut_drop{s:List UInt8}(h:cutM s=true):s.drop ((cutB s).length+1)=cutR s∧(cutB s).length+1≤s.length:=by
 have:=lU s;unfold cutM at h;unfold cutB cutR;cases hc:(cutA s).2 with
 |none=>rw[hc]at h;cases h
 |some r=>
  rw[hc]at this;simp only at this;have hl:=congrArg List.length this;rw[List.length_append,List.length_cons]at hl;refine⟨?_,by omega⟩;rw[Option.getD_some];have e:s.drop ((cutA s).1.length+1)=((cutA s).1++46::r).drop ((cutA s).1.length+1):=by rw[←this]
  rw[e,List.drop_append,List.drop_eq_nil_of_le (by omega),List.nil_append,show(cutA s).1.length+1-(cutA s).1.length=1 by omega];rfl
theorem labsN_head(s:List UInt8):∃q,cU s=cutB s::q∧(q=[]↔cutM s=false):=by
 unfold cU labF;cases hm:cutM s with
 |false=>exact⟨[],rfl,by simp⟩
 |true=>
  rw[ac];refine⟨_,rfl,?_⟩;have:=jw hm;cases hk:s.length with
  |zero=>omega
  |succ k=>unfold labF;cases cutM (cutR s)<;>simp
def rparT:List V→Option (Qx)
 |[.str s]=>some [(aF s,(.tuple [.str (bif parB s then cutR s else[]),.bool (parB s)],[]))]
 |_=>none
theorem rpar_ok(args:List V)(l:Qx)(o:V×St)(h:rparT args=some l)(ho:aO l=some o):FnSat Qq 94 args [] (Is o):=by
 unfold rparT at h;split at h
 ·rename_i s;cases h;obtain⟨hk,rfl⟩:=a7 ho;have hb:=a8 hk;refine aP (lim:=9) (n:=10) aI RM0_ok rfl rfl ?_;rw[rpar_tree,hk,ac];unfold zL_0;unfold parB;cases hm:mayN s with
  |false=>simp
  |true=>
  obtain⟨q,hq,hc⟩:=labsN_head s;have eC:lsC s []=strs (cutB s::q):=by unfold lsC;rw[List.nil_append,hq]
  have eN:lsN s []=q.length+1:=by unfold lsN;rw[List.nil_append,hq];rfl
  rw[eC,eN,Bool.and_true,Bool.not_true,ai,ac];have g:(strs (cutB s::q)).getD 0 (.bool false)=.str (cutB s):=rfl;refine ao (fun h=>?_) (fun h=>?_)
  ·have h:=a8 h;have:q=[]:=List.length_eq_zero_iff.1 (by omega);rw[hc.1 this];rfl
  ·have h:=of_decide_eq_false h;have hcm:cutM s=true:=by
    cases hcm:cutM s with
    |true=>rfl
    |false=>have:=hc.2 hcm;subst this;simp at h
   obtain⟨c1,c2⟩:=cut_drop hcm;have w:i64.wrap (((cutB s).length:Int)+1)=(((cutB s).length+1:Nat):Int):=by rw[IntWalk.i64_in _ ⟨by omega,by omega⟩];omega
   simp only[g,al,aw,w,bK,c1,hcm,ac];refine ah (by rw[ay];exact az (by omega)) (ah rfl (ah (az (by omega)) (ah ?_ ?_)))
   ·rw[ap c2,ap (Nat.le_refl _)];rfl
   ·rw[List.take_of_length_le];rw[←c1,List.length_drop];omega
 ·cases h
def RM1:Tab:=⟨addT (addT (addP noT 152 nW) 153 rmayT) 94 rparT,noL,bk 9⟩
theorem RM1_ok:TabOk3 Qq RM1:=⟨bg (bg (bh aW rbare_ok) rmay_ok) rpar_ok,aX,aE 9⟩
theorem rmat_tree(p s:List UInt8)(R:V→Prop):runW Qq RM1 9 10 93 [.str p,.str s] R=
  (
 bif aF (du p)then bif !mayN (du p)then R (.bool false)else bif aF s then bif !mayN s then R (.bool false)else bif !eY p then R (.bool (du p==
 s))else bif aF s then bif parB s then R (.bool ((bif parB s then cutR s else[])==du p))else R (.bool false)else False else False else False):=by kernel_rfl
def rmatT:List V→Option (Qx)
 |[.str p,.str s]=>some [(aF p&&aF s,(.bool (dX p s),[]))]
 |_=>none
theorem rmat_ok(args:List V)(l:Qx)(o:V×St)(h:rmatT args=some l)(ho:aO l=some o):FnSat Qq 93 args [] (Is o):=by
 unfold rmatT at h;split at h
 ·rename_i p s;cases h;obtain⟨hk,rfl⟩:=a7 ho;rw[af]at hk;have h1:=okLen_bare hk.1;refine aP (lim:=9) (n:=10) aI RM1_ok rfl rfl ?_;rw[rmat_tree,h1,hk.2];unfold dX patN;cases hp:mayN (du p)with
  |false=>rfl
  |true=>
  cases hm:mayN s with
  |false=>rfl
  |true=>
  cases hs:eY p with
  |false=>
   have:du p=p:=by
    unfold du;unfold eY at hs;rw[if_neg (beq_eq_false_iff_ne.1 hs)]
   rw[this];rfl
  |true=>
   cases hb:parB s with
   |false=>rfl
   |true=>rfl
 ·cases h
structure RMY where
 c:CT
 i:Nat
structure REN where
 c:CT
 o:List UInt8
 i:Nat
structure RDX where
 s:List UInt8
 lc:List V
 nl:Nat
 ds:List V
 n:Nat
 k:List UInt8
 g:List UInt8
 i:Nat
structure RH where
 k:List UInt8
 g:List UInt8
 x:Value
 n:Nat
 cs:List V
 f:Int
 u:Int
 ca:Bool
 h:List UInt8
 i:Nat
structure RLX where
 x:Value
 n:Nat
 cs:List V
 i:Nat
theorem rus_tree(u s m:Int)(d:List UInt8)(R:V→Prop):runW Qq T3 9 10 105 [.agg [.int .u8 u,.int .u8 s,.int .u8 m,.str d]] R=
  (
 bif u==2 then bif decide (s<2)then bif decide (m<2)then bif decide ((↑d.length:Int)≥1)then bif decide ((↑d.length:Int)≤512)then bif m==0 then R
 (.bool true)else R (.bool ((↑d.length:Int)==32))else R (.bool false)else R (.bool false)else R (.bool false)else R (.bool false)else bif u==3 then bif
 decide (s<2)then bif decide (m<2)then bif decide ((↑d.length:Int)≥1)then bif decide ((↑d.length:Int)≤512)then bif m==0 then R (.bool true)else R
 (.bool ((↑d.length:Int)==32))else R (.bool false)else R (.bool false)else R (.bool false)else R (.bool false)else R (.bool false)):=by kernel_rfl
def rusP:List V→Option (Qx)
 |[.agg [.int .u8 u,.int .u8 s,.int .u8 m,.str d]]=>some [(u8B s&&u8B m,(.bool (usB u s m d),[]))]
 |_=>none
theorem u8_in{n:Int}(h:u8B n=true):0≤n∧n≤255:=a8 h
theorem rus_ok(args:List V)(l:Qx)(o:V×St)(h:rusP args=some l)(ho:aO l=some o):FnSat Qq 105 args [] (Is o):=by
 unfold rusP at h;split at h
 ·rename_i u s m d;cases h;obtain⟨hk,rfl⟩:=a7 ho;rw[af]at hk;have h1:=u8_in hk.1;have h2:=u8_in hk.2;refine aP (lim:=9) (n:=10) aI kg rfl rfl ?_;rw[rus_tree];unfold usB;have ws:i64.wrap s=s:=IntWalk.i64_in _ ⟨by omega,by omega⟩;have wm:i64.wrap m=m:=IntWalk.i64_in _ ⟨by omega,by omega⟩;have e1:decide (s<2)=!decide (i64.wrap s≥2):=by
   rw[ws];by_cases h:s<2
   ·rw[az h,decide_eq_false (by omega)];rfl
   ·rw[decide_eq_false h,az (by omega)];rfl
  have e2:decide (m<2)=!decide (i64.wrap m≥2):=by
   rw[wm];by_cases h:m<2
   ·rw[az h,decide_eq_false (by omega)];rfl
   ·rw[decide_eq_false h,az (by omega)];rfl
  have e3:decide ((d.length:Int)≥1)=!(d==[]):=by
   cases d with
   |nil=>rfl
   |cons b r=>rw[az (by simp only[List.length_cons];omega)];rfl
  rw[e1,e2,e3];cases u==2<;>cases u==3<;>cases decide (i64.wrap s≥2)<;>cases decide (i64.wrap m≥2)<;>cases d==[]<;>cases decide ((d.length:Int)≤512)<;>cases m==0<;>rfl
 ·cases h
def rA(l:List (List UInt8)):List V:=bif Nat.beq (rdN l) 0 then[]else aa 1 (rdA (rdG l 0) 1 (rdT l))
def rB(l:List (List UInt8)):List V:=aa 1 (strs (dL (rdG l 0)))
def rNm(l:List (List UInt8))(i:Nat):List V:=aa 1 (nmR l i)
structure RtAt (st:St) (l:List (List UInt8)):Prop where
 b2:(∃t sz,st[1]?=some (.row (rA l) t sz))∨∃z,st[1]?=some (.ro z (rA l))
 b3:∃z,st[2]?=some (.ro z (rB l))
 b4:∃z,st[3]?=some (.ro z (rNm l 1))
 b5:∃z,st[4]?=some (.ro z (rNm l 2))
 b6:∃z,st[5]?=some (.ro z (rNm l 3))
structure MQX where
 u:Int
 s:Int
 m:Int
 d:List UInt8
 x:Value
 n:Nat
 cs:List V
 now:Int
 i:Nat
theorem gk(x:Value)(n:Nat)(cs:List V)(R:V→St→Prop):runM Qq T3 9 10 58 [.lst x n cs] R=
  (
 bif nilX x then R .nilSlice []else bif n.beq 0 then R (.slice 0 0 0 false 0 0) [.row [] 72 4]else bif cs.length.beq (n*4)&&cs.all V.one then bif (0+n).ble
 9223372036854775807&&((0+n)*24).ble 140737488355328 then R (.slice 1 0 (0+n) false 0 0) [.dead,.row cs 72 4]else False else False):=by kernel_rfl
def rT(cs:List V)(j:Nat):TL:=(tlD cs).getD j ⟨0,0,0,[]⟩
def clT(cs:List V):Nat→V×St
 |1=>(.slice 0 0 1 false 0 0,[.row (TL.cells (rT cs 0)) 72 4])
 |2=>(.slice 0 0 2 false 0 0,[.row (TL.cells (rT cs 0)++TL.cells (rT cs 1)) 72 4])
 |3=>(.slice 0 0 3 false 0 0,[.row (TL.cells (rT cs 0)++(TL.cells (rT cs 1)++TL.cells (rT cs 2))) 72 4])
 |_=>(.slice 0 0 4 false 0 0,[.row (TL.cells (rT cs 0)++(TL.cells (rT cs 1)++(TL.cells (rT cs 2)++TL.cells (rT cs 3)))) 72 4])
def cloneT:List V→Option (Qx)
 |[.lst x n cs]=>some [(nilX x,(.nilSlice,[])),(okT n cs&&Nat.beq n 0,(.slice 0 0 0 false 0 0,[.row [] 72 4])),(okT n cs&&Nat.beq n 1,clT cs 1),(okT n cs&&Nat.beq n 2,clT cs 2),(okT n cs&&Nat.beq n 3,clT cs 3),(okT n cs&&Nat.beq n 4,clT cs 4)]
 |_=>none
theorem rT_tls(l:List TL)(j:Nat):rT (tls l) j=l.getD j ⟨0,0,0,[]⟩:=by unfold rT;rw[bf]
theorem bW{cells:List V}{b n:Nat}{st:St}{t:TypeId}(hf:ax cells=true)(hb:st[b]?=some (.row cells t 4)):Fits 0 [.slice 0 0 n false 0 0] [.row cells t 4] [some (.slice b 0 n false 0 0)] st:=
 ⟨[b],[.slice b 0 n false 0 0],rfl,rfl,FitsM.of ⟨.inr ⟨.row cells t 4,.inl (by simp only[renB,bu _ hf]),hb⟩,trivial⟩,by simp,fun i hi=>by omega⟩
theorem oneT:∀l:List TL,(tls l).all V.one=true
 |[]=>rfl
 |r::l=>by simp only[tls,List.all_cons,oneT l];rfl
theorem clone_ok(args:List V)(L:Qx)(o:V×St)(h:cloneT args=some L)(ho:aO L=some o):FnSat Qq 58 args [] (Is o):=by
 unfold cloneT at h;split at h
 ·rename_i x n cs;cases h;cases hx:nilX x with
  |true=>
   rw[hx]at ho;cases ho;refine FnSat.fits (eE aI kg ?_ (lim:=9) (n:=10));rw[gk,hx];exact⟨[],[.nilSlice],rfl,rfl,FitsM.of trivial,by decide,fun i hi=>by omega⟩
  |false=>
  rw[hx]at ho;cases hk:okT n cs with
  |false=>rw[hk]at ho;simp[aO]at ho
  |true=>
  rw[hk]at ho;obtain⟨l,rfl,rfl,h1,h2⟩:=bN hk;have big:l.length≤4→l.length≠0→FnSat Qq 58 [.lst x l.length (tls l)] [] (Is (.slice 0 0 l.length false 0 0,[.row (tls l) 72 4])):=fun h4 h0=>by
   refine FnSat.fits (eE aI kg ?_ (lim:=9) (n:=10));rw[gk,hx,ai];refine ao (fun e=>absurd (aC e) h0) (fun _=>?_);refine ah (by rw[ci,Nat.mul_comm,Nat.beq_refl,oneT];rfl) (ah (by rw[af];exact⟨ap (by omega),ap (by omega)⟩) ?_);rw[Nat.zero_add];exact bW (bR l) rfl
  match l,h1,h2,hk,ho,big with
  |[],_,_,hk,ho,_=>
   cases ho;refine FnSat.fits (eE aI kg ?_ (lim:=9) (n:=10));rw[gk,hx];exact bW rfl rfl
  |[a],_,_,_,ho,big=>cases ho;exact big (by simp) (by simp)
  |[a,b],_,_,_,ho,big=>cases ho;exact big (by simp) (by simp)
  |[a,b,c],_,_,_,ho,big=>cases ho;exact big (by simp) (by simp)
  |[a,b,c,d],_,_,_,ho,big=>cases ho;exact big (by simp) (by simp)
  |a::b::c::d::e::r,_,_,_,ho,_=>
   have ho:(none:Option (V×St))=some o:=ho;cases ho
 ·cases h
def CL1:Tab:=⟨addT (addP noT 99 usP) 58 cloneT,noL,bk 9⟩
theorem CL1_ok:TabOk3 Qq CL1:=⟨bg (bh aW us_ok) clone_ok,aX,aE 9⟩
def k4(n:Nat):Nat:=(if 4<(n:Int)then 4 else(n:Int)).toNat
def q4(n:Nat)(cs:List V):List V:=List.take ((k4 n-0)*4) cs
def zX_0:=V.slice 0 0 1 false 0 0
def zX_1:=V.slice 0 0 2 false 0 0
theorem usa_tree(x:Value)(n:Nat)(cs:List V)(R:V→St→Prop):runM Qq CL1 9 10 59 [.lst x n cs] (fun v st=>R v (visD v st))=
 (
 bif decide (0≤if 4<(↑n:Int)then 4 else(↑n:Int))then bif true&&(k4 n).ble n then bif nilX (ec x 0 (k4 n) 4)then R .nilSlice []else bif okT
 ((k4 n)-0) (q4 n cs)&&((k4 n)-0).beq 0 then R (.slice 0 0 0 false 0 0) [.row [] 72 4]else bif okT ((k4 n)-0) (q4 n cs)&&((k4 n)-0).beq 1 then
 bif !usB (rT (q4 n cs) 0).u (rT (q4 n cs) 0).s (rT (q4 n cs) 0).m (rT (q4 n cs) 0).d then R (.slice 0 0 0 false 0 0) [.row [.int u8 0,.int
 u8 0,.int u8 0,.str []] 72 4]else R zX_0 [.row [.int u8 (rT (q4 n cs) 0).u,.int u8 (rT (q4 n cs) 0).s,.int
 u8 (rT (q4 n cs) 0).m,.str (rT (q4 n cs) 0).d] 72 4]else bif okT ((k4 n)-0) (q4 n cs)&&((k4 n)-0).beq 2 then bif !usB (rT (q4 n cs) 0).u (rT (q4
 n cs) 0).s (rT (q4 n cs) 0).m (rT (q4 n cs) 0).d then bif !!usB (rT (q4 n cs) 1).u (rT (q4 n cs) 1).s (rT (q4 n cs) 1).m (rT (q4 n cs) 1).d then R zX_0 [.row
 [.int u8 (rT (q4 n cs) 1).u,.int u8 (rT (q4 n cs) 1).s,.int u8 (rT (q4 n cs) 1).m,.str (rT (q4 n cs) 1).d,.int u8 0,
 .int u8 0,.int u8 0,.str []] 72 4,.dead]else R (.slice 0 0 0 false 0 0) [.row [.int u8 0,.int u8 0,.int
 u8 0,.str [],.int u8 0,.int u8 0,.int u8 0,.str []] 72 4,.dead]else bif !usB (rT (q4 n cs) 1).u (rT (q4 n cs) 1).s
 (rT (q4 n cs) 1).m (rT (q4 n cs) 1).d then R zX_0 [.row [.int u8 (rT (q4 n cs) 0).u,.int u8 (rT (q4 n cs) 0).s,.int u8 (rT (q4 n
 cs) 0).m,.str (rT (q4 n cs) 0).d,.int u8 0,.int u8 0,.int u8 0,.str []] 72 4]else R zX_1 [.row [.int u8 (rT (q4 n
 cs) 0).u,.int u8 (rT (q4 n cs) 0).s,.int u8 (rT (q4 n cs) 0).m,.str (rT (q4 n cs) 0).d,.int u8 (rT (q4 n cs) 1).u,.int
 u8 (rT (q4 n cs) 1).s,.int u8 (rT (q4 n cs) 1).m,.str (rT (q4 n cs) 1).d] 72 4]else bif okT ((k4 n)-0) (q4 n cs)&&((k4 n)-0).beq 3
 then bif !usB (rT (q4 n cs) 0).u (rT (q4 n cs) 0).s (rT (q4 n cs) 0).m (rT (q4 n cs) 0).d then bif !!usB (rT (q4 n cs) 1).u (rT (q4 n cs) 1).s (rT (q4 n cs) 1).m
 (rT (q4 n cs) 1).d then bif !!usB (rT (q4 n cs) 2).u (rT (q4 n cs) 2).s (rT (q4 n cs) 2).m (rT (q4 n cs) 2).d then R zX_1 [.row [.int u8 (rT (q4 n
 cs) 1).u,.int u8 (rT (q4 n cs) 1).s,.int u8 (rT (q4 n cs) 1).m,.str (rT (q4 n cs) 1).d,.int u8 (rT (q4 n cs) 2).u,.int
 u8 (rT (q4 n cs) 2).s,.int u8 (rT (q4 n cs) 2).m,.str (rT (q4 n cs) 2).d,.int u8 0,.int u8 0,.int u8 0,.str
 []] 72 4,.dead,.dead]else R zX_0 [.row [.int u8 (rT (q4 n cs) 1).u,.int u8 (rT (q4 n cs) 1).s,.int u8 (rT (q4 n cs)
 1).m,.str (rT (q4 n cs) 1).d,.int u8 0,.int u8 0,.int u8 0,.str [],.int u8 0,.int u8 0,.int u8 0,
 .str []] 72 4,.dead,.dead]else bif !!usB (rT (q4 n cs) 2).u (rT (q4 n cs) 2).s (rT (q4 n cs) 2).m (rT (q4 n cs) 2).d then R zX_0 [.row [.int
 u8 (rT (q4 n cs) 2).u,.int u8 (rT (q4 n cs) 2).s,.int u8 (rT (q4 n cs) 2).m,.str (rT (q4 n cs) 2).d,.int u8 0,.int
 u8 0,.int u8 0,.str [],.int u8 0,.int u8 0,.int u8 0,.str []] 72 4,.dead,.dead]else R (.slice 0 0 0
 false 0 0) [.row [.int u8 0,.int u8 0,.int u8 0,.str [],.int u8 0,.int u8 0,.int u8 0,.str [],
 .int u8 0,.int u8 0,.int u8 0,.str []] 72 4,.dead,.dead]else bif !usB (rT (q4 n cs) 1).u (rT (q4 n cs) 1).s (rT (q4 n cs)
 1).m (rT (q4 n cs) 1).d then bif !!usB (rT (q4 n cs) 2).u (rT (q4 n cs) 2).s (rT (q4 n cs) 2).m (rT (q4 n cs) 2).d then R zX_1 [.row [.int u8 (rT (q4
 n cs) 0).u,.int u8 (rT (q4 n cs) 0).s,.int u8 (rT (q4 n cs) 0).m,.str (rT (q4 n cs) 0).d,.int u8 (rT (q4 n cs) 2).u,.int
 u8 (rT (q4 n cs) 2).s,.int u8 (rT (q4 n cs) 2).m,.str (rT (q4 n cs) 2).d,.int u8 0,.int u8 0,.int u8 0,.str
 []] 72 4,.dead]else R zX_0 [.row [.int u8 (rT (q4 n cs) 0).u,.int u8 (rT (q4 n cs) 0).s,.int u8 (rT (q4 n cs) 0).m,.str
 (rT (q4 n cs) 0).d,.int u8 0,.int u8 0,.int u8 0,.str [],.int u8 0,.int u8 0,.int u8 0,.str []]
 72 4,.dead]else bif !usB (rT (q4 n cs) 2).u (rT (q4 n cs) 2).s (rT (q4 n cs) 2).m (rT (q4 n cs) 2).d then R zX_1 [.row [.int u8 (rT (q4 n cs)
 0).u,.int u8 (rT (q4 n cs) 0).s,.int u8 (rT (q4 n cs) 0).m,.str (rT (q4 n cs) 0).d,.int u8 (rT (q4 n cs) 1).u,.int u8
 (rT (q4 n cs) 1).s,.int u8 (rT (q4 n cs) 1).m,.str (rT (q4 n cs) 1).d,.int u8 0,.int u8 0,.int u8 0,.str []] 72 4]
 else R (.slice 0 0 3 false 0 0) [.row [.int u8 (rT (q4 n cs) 0).u,.int u8 (rT (q4 n cs) 0).s,.int u8 (rT (q4 n cs) 0).m,.str
 (rT (q4 n cs) 0).d,.int u8 (rT (q4 n cs) 1).u,.int u8 (rT (q4 n cs) 1).s,.int u8 (rT (q4 n cs) 1).m,.str (rT (q4 n cs) 1).d,
 .int u8 (rT (q4 n cs) 2).u,.int u8 (rT (q4 n cs) 2).s,.int u8 (rT (q4 n cs) 2).m,.str (rT (q4 n cs) 2).d] 72 4]else bif okT ((k4
 n)-0) (q4 n cs)&&((k4 n)-0).beq 4 then bif !usB (rT (q4 n cs) 0).u (rT (q4 n cs) 0).s (rT (q4 n cs) 0).m (rT (q4 n cs) 0).d then bif !!usB (rT (q4 n cs)
 1).u (rT (q4 n cs) 1).s (rT (q4 n cs) 1).m (rT (q4 n cs) 1).d then bif !!usB (rT (q4 n cs) 2).u (rT (q4 n cs) 2).s (rT (q4 n cs) 2).m (rT (q4 n cs) 2).d then bif
 !!usB (rT (q4 n cs) 3).u (rT (q4 n cs) 3).s (rT (q4 n cs) 3).m (rT (q4 n cs) 3).d then R (.slice 0 0 3 false 0 0) [.row [.int u8 (rT (q4 n cs) 1).u,
 .int u8 (rT (q4 n cs) 1).s,.int u8 (rT (q4 n cs) 1).m,.str (rT (q4 n cs) 1).d,.int u8 (rT (q4 n cs) 2).u,.int u8 (rT (q4
 n cs) 2).s,.int u8 (rT (q4 n cs) 2).m,.str (rT (q4 n cs) 2).d,.int u8 (rT (q4 n cs) 3).u,.int u8 (rT (q4 n cs) 3).s,.int
 u8 (rT (q4 n cs) 3).m,.str (rT (q4 n cs) 3).d,.int u8 0,.int u8 0,.int u8 0,.str []] 72 4,.dead,.dead,
 .dead]else R zX_1 [.row [.int u8 (rT (q4 n cs) 1).u,.int u8 (rT (q4 n cs) 1).s,.int u8 (rT (q4 n cs) 1).m,.str (rT (q4 n
 cs) 1).d,.int u8 (rT (q4 n cs) 2).u,.int u8 (rT (q4 n cs) 2).s,.int u8 (rT (q4 n cs) 2).m,.str (rT (q4 n cs) 2).d,.int
 u8 0,.int u8 0,.int u8 0,.str [],.int u8 0,.int u8 0,.int u8 0,.str []] 72 4,.dead,.dead,
 .dead]else bif !!usB (rT (q4 n cs) 3).u (rT (q4 n cs) 3).s (rT (q4 n cs) 3).m (rT (q4 n cs) 3).d then R zX_1 [.row [.int u8 (rT (q4 n cs) 1).u,
 .int u8 (rT (q4 n cs) 1).s,.int u8 (rT (q4 n cs) 1).m,.str (rT (q4 n cs) 1).d,.int u8 (rT (q4 n cs) 3).u,.int u8 (rT (q4
 n cs) 3).s,.int u8 (rT (q4 n cs) 3).m,.str (rT (q4 n cs) 3).d,.int u8 0,.int u8 0,.int u8 0,.str [],.int u8
 0,.int u8 0,.int u8 0,.str []] 72 4,.dead,.dead,.dead]else R zX_0 [.row [.int u8 (rT (q4 n cs) 1).u,.int
 u8 (rT (q4 n cs) 1).s,.int u8 (rT (q4 n cs) 1).m,.str (rT (q4 n cs) 1).d,.int u8 0,.int u8 0,.int u8 0,.str
 [],.int u8 0,.int u8 0,.int u8 0,.str [],.int u8 0,.int u8 0,.int u8 0,.str []] 72 4,.dead,
 .dead,.dead]else bif !!usB (rT (q4 n cs) 2).u (rT (q4 n cs) 2).s (rT (q4 n cs) 2).m (rT (q4 n cs) 2).d then bif !!usB (rT (q4 n cs) 3).u (rT (q4 n cs)
 3).s (rT (q4 n cs) 3).m (rT (q4 n cs) 3).d then R zX_1 [.row [.int u8 (rT (q4 n cs) 2).u,.int u8 (rT (q4 n cs) 2).s,.int u8 (rT
 (q4 n cs) 2).m,.str (rT (q4 n cs) 2).d,.int u8 (rT (q4 n cs) 3).u,.int u8 (rT (q4 n cs) 3).s,.int u8 (rT (q4 n cs) 3).m,.str
 (rT (q4 n cs) 3).d,.int u8 0,.int u8 0,.int u8 0,.str [],.int u8 0,.int u8 0,.int u8 0,.str []]
 72 4,.dead,.dead,.dead]else R zX_0 [.row [.int u8 (rT (q4 n cs) 2).u,.int u8 (rT (q4 n cs) 2).s,.int u8 (rT (q4 n
 cs) 2).m,.str (rT (q4 n cs) 2).d,.int u8 0,.int u8 0,.int u8 0,.str [],.int u8 0,.int u8 0,.int
 u8 0,.str [],.int u8 0,.int u8 0,.int u8 0,.str []] 72 4,.dead,.dead,.dead]else bif !!usB (rT (q4 n cs)
 3).u (rT (q4 n cs) 3).s (rT (q4 n cs) 3).m (rT (q4 n cs) 3).d then R zX_0 [.row [.int u8 (rT (q4 n cs) 3).u,.int u8 (rT (q4 n cs) 3).s,
 .int u8 (rT (q4 n cs) 3).m,.str (rT (q4 n cs) 3).d,.int u8 0,.int u8 0,.int u8 0,.str [],.int u8 0,.int
 u8 0,.int u8 0,.str [],.int u8 0,.int u8 0,.int u8 0,.str []] 72 4,.dead,.dead,.dead]else R
 (.slice 0 0 0 false 0 0) [.row [.int u8 0,.int u8 0,.int u8 0,.str [],.int u8 0,.int u8 0,.int
 u8 0,.str [],.int u8 0,.int u8 0,.int u8 0,.str [],.int u8 0,.int u8 0,.int u8 0,.str
 []] 72 4,.dead,.dead,.dead]else bif !usB (rT (q4 n cs) 1).u (rT (q4 n cs) 1).s (rT (q4 n cs) 1).m (rT (q4 n cs) 1).d then bif !!usB (rT (q4 n cs)
 2).u (rT (q4 n cs) 2).s (rT (q4 n cs) 2).m (rT (q4 n cs) 2).d then bif !!usB (rT (q4 n cs) 3).u (rT (q4 n cs) 3).s (rT (q4 n cs) 3).m (rT (q4 n cs) 3).d then R
 (.slice 0 0 3 false 0 0) [.row [.int u8 (rT (q4 n cs) 0).u,.int u8 (rT (q4 n cs) 0).s,.int u8 (rT (q4 n cs) 0).m,.str (rT (q4
 n cs) 0).d,.int u8 (rT (q4 n cs) 2).u,.int u8 (rT (q4 n cs) 2).s,.int u8 (rT (q4 n cs) 2).m,.str (rT (q4 n cs) 2).d,.int
 u8 (rT (q4 n cs) 3).u,.int u8 (rT (q4 n cs) 3).s,.int u8 (rT (q4 n cs) 3).m,.str (rT (q4 n cs) 3).d,.int u8 0,.int
 u8 0,.int u8 0,.str []] 72 4,.dead,.dead]else R zX_1 [.row [.int u8 (rT (q4 n cs) 0).u,.int u8 (rT (q4 n cs)
 0).s,.int u8 (rT (q4 n cs) 0).m,.str (rT (q4 n cs) 0).d,.int u8 (rT (q4 n cs) 2).u,.int u8 (rT (q4 n cs) 2).s,.int u8
 (rT (q4 n cs) 2).m,.str (rT (q4 n cs) 2).d,.int u8 0,.int u8 0,.int u8 0,.str [],.int u8 0,.int u8 0,.int
 u8 0,.str []] 72 4,.dead,.dead]else bif !!usB (rT (q4 n cs) 3).u (rT (q4 n cs) 3).s (rT (q4 n cs) 3).m (rT (q4 n cs) 3).d then R zX_1 [.row
 [.int u8 (rT (q4 n cs) 0).u,.int u8 (rT (q4 n cs) 0).s,.int u8 (rT (q4 n cs) 0).m,.str (rT (q4 n cs) 0).d,.int u8 (rT
 (q4 n cs) 3).u,.int u8 (rT (q4 n cs) 3).s,.int u8 (rT (q4 n cs) 3).m,.str (rT (q4 n cs) 3).d,.int u8 0,.int u8 0,.int
 u8 0,.str [],.int u8 0,.int u8 0,.int u8 0,.str []] 72 4,.dead,.dead]else R zX_0 [.row [.int u8
 (rT (q4 n cs) 0).u,.int u8 (rT (q4 n cs) 0).s,.int u8 (rT (q4 n cs) 0).m,.str (rT (q4 n cs) 0).d,.int u8 0,.int u8 0,
 .int u8 0,.str [],.int u8 0,.int u8 0,.int u8 0,.str [],.int u8 0,.int u8 0,.int u8 0,
 .str []] 72 4,.dead,.dead]else bif !usB (rT (q4 n cs) 2).u (rT (q4 n cs) 2).s (rT (q4 n cs) 2).m (rT (q4 n cs) 2).d then bif !!usB (rT (q4 n cs) 3).u
 (rT (q4 n cs) 3).s (rT (q4 n cs) 3).m (rT (q4 n cs) 3).d then R (.slice 0 0 3 false 0 0) [.row [.int u8 (rT (q4 n cs) 0).u,.int u8 (rT (q4
 n cs) 0).s,.int u8 (rT (q4 n cs) 0).m,.str (rT (q4 n cs) 0).d,.int u8 (rT (q4 n cs) 1).u,.int u8 (rT (q4 n cs) 1).s,.int
 u8 (rT (q4 n cs) 1).m,.str (rT (q4 n cs) 1).d,.int u8 (rT (q4 n cs) 3).u,.int u8 (rT (q4 n cs) 3).s,.int u8 (rT (q4 n cs)
 3).m,.str (rT (q4 n cs) 3).d,.int u8 0,.int u8 0,.int u8 0,.str []] 72 4,.dead]else R zX_1 [.row [.int u8 (rT
 (q4 n cs) 0).u,.int u8 (rT (q4 n cs) 0).s,.int u8 (rT (q4 n cs) 0).m,.str (rT (q4 n cs) 0).d,.int u8 (rT (q4 n cs) 1).u,.int
 u8 (rT (q4 n cs) 1).s,.int u8 (rT (q4 n cs) 1).m,.str (rT (q4 n cs) 1).d,.int u8 0,.int u8 0,.int u8 0,.str
 [],.int u8 0,.int u8 0,.int u8 0,.str []] 72 4,.dead]else bif !usB (rT (q4 n cs) 3).u (rT (q4 n cs) 3).s (rT (q4 n cs) 3).m
 (rT (q4 n cs) 3).d then R (.slice 0 0 3 false 0 0) [.row [.int u8 (rT (q4 n cs) 0).u,.int u8 (rT (q4 n cs) 0).s,.int u8 (rT (q4
 n cs) 0).m,.str (rT (q4 n cs) 0).d,.int u8 (rT (q4 n cs) 1).u,.int u8 (rT (q4 n cs) 1).s,.int u8 (rT (q4 n cs) 1).m,.str (rT
 (q4 n cs) 1).d,.int u8 (rT (q4 n cs) 2).u,.int u8 (rT (q4 n cs) 2).s,.int u8 (rT (q4 n cs) 2).m,.str (rT (q4 n cs) 2).d,.int
 u8 0,.int u8 0,.int u8 0,.str []] 72 4]else R (.slice 0 0 4 false 0 0) [.row [.int u8 (rT (q4 n cs) 0).u,.int
 u8 (rT (q4 n cs) 0).s,.int u8 (rT (q4 n cs) 0).m,.str (rT (q4 n cs) 0).d,.int u8 (rT (q4 n cs) 1).u,.int u8 (rT (q4 n cs)
 1).s,.int u8 (rT (q4 n cs) 1).m,.str (rT (q4 n cs) 1).d,.int u8 (rT (q4 n cs) 2).u,.int u8 (rT (q4 n cs) 2).s,.int u8
 (rT (q4 n cs) 2).m,.str (rT (q4 n cs) 2).d,.int u8 (rT (q4 n cs) 3).u,.int u8 (rT (q4 n cs) 3).s,.int u8 (rT (q4 n cs) 3).m,
 .str (rT (q4 n cs) 3).d] 72 4]else False else False else False):=by kernel_rfl
def ab:List TL→List TL
 |[]=>[]
 |r::l=>bif usB r.u r.s r.m r.d then r::ab l else ab l
def aK:List TL→List V
 |[]=>[]
 |r::l=>bif usB r.u r.s r.m r.d then aK l else .int .u8 0::.int .u8 0::.int .u8 0::.str []::aK l
def usaL(cs:List V):List TL:=(tlD cs).take 4
def usaT:List V→Option (Qx)
 |[.lst x n cs]=>some [(okT n cs&&nilX (ec x 0 (k4 n) 4),(.nilSlice,[])),(okT n cs,(.slice 0 0 (ab (usaL cs)).length false 0 0,[.row (tls (ab (usaL cs))++aK (usaL cs)) 72 4]))]
 |_=>none
theorem k4_eq(n:Nat):k4 n=min 4 n:=by unfold k4;split<;>omega
theorem usa_ok(args:List V)(L:Qx)(o:V×St)(h:usaT args=some L)(ho:aO L=some o):FnSat Qq 59 args [] (Is o):=by
 unfold usaT at h;split at h
 ·rename_i x n cs;cases h;cases hk:okT n cs with
  |false=>rw[hk]at ho;simp[aO]at ho
  |true=>
  rw[hk,ay]at ho;obtain⟨l,rfl,rfl,h1,h2⟩:=bN hk;have hK:k4 l.length=(l.take 4).length:=by rw[k4_eq,List.length_take]
  have hq:q4 l.length (tls l)=tls (l.take 4):=by
   unfold q4;rw[Nat.sub_zero,k4_eq,Nat.mul_comm,tls_take];congr 1;rcases Nat.le_total 4 l.length with h|h
   ·rw[Nat.min_eq_left h]
   ·rw[Nat.min_eq_right h,List.take_of_length_le h,List.take_of_length_le (Nat.le_refl _)]
  have c1:decide (0≤if 4<(l.length:Int)then 4 else(l.length:Int))=true:=az (by split<;>omega);have c2:(true&&(k4 l.length).ble l.length)=true:=by rw[ay];exact ap (by rw[k4_eq];omega)
  refine FnSat.fits ((eE aI CL1_ok (lim:=9) (n:=10) (cast (usa_tree x l.length (tls l) (fun v st=>Fits 0 [o.1] o.2 [some v] st)).symm ?_)).mono fun u st hq=>fits_visD hq);rw[c1,c2,ac,ac];cases hx:nilX (ec x 0 (k4 l.length) 4)with
  |true=>
   rw[hx]at ho;cases ho;exact⟨[],[.nilSlice],rfl,rfl,FitsM.of trivial,by decide,fun i hi=>by omega⟩
  |false=>
  rw[hx]at ho;have ho:(V.slice 0 0 (ab (usaL (tls l))).length false 0 0,[Blk.row (tls (ab (usaL (tls l)))++aK (usaL (tls l))) 72 4])=o:=Option.some.inj ho;rw[←ho,ai,hq,Nat.sub_zero,hK];have hu:usaL (tls l)=l.take 4:=by unfold usaL;rw[bf]
  rw[hu];have hl:(l.take 4).length≤4:=by rw[List.length_take];omega
  have hkq:okT (l.take 4).length (tls (l.take 4))=true:=dT (by omega);rw[hkq];clear hx ho hu hkq hK hq c1 c2 hk h1 h2;generalize l.take 4=q at*
  simp only[rT_tls,ay]
  match q,hl with
  |[],_=>exact bW rfl rfl
  |[a],_=>
   simp only[List.getD_cons_zero];cases ha:usB a.u a.s a.m a.d<;>(simp only[ab,aK,ha,ac,ai];exact bW rfl rfl)
  |[a,b],_=>
   simp only[List.getD_cons_zero,List.getD_cons_succ];cases ha:usB a.u a.s a.m a.d<;>cases hb:usB b.u b.s b.m b.d<;>(simp only[ab,aK,ha,hb,ac,ai];exact bW rfl rfl)
  |[a,b,c],_=>
   simp only[List.getD_cons_zero,List.getD_cons_succ];cases ha:usB a.u a.s a.m a.d<;>cases hb:usB b.u b.s b.m b.d<;>cases hc:usB c.u c.s c.m c.d<;>(simp only[ab,aK,ha,hb,hc,ac,ai];exact bW rfl rfl)
  |[a,b,c,d],_=>
   simp only[List.getD_cons_zero,List.getD_cons_succ];cases ha:usB a.u a.s a.m a.d<;>cases hb:usB b.u b.s b.m b.d<;>cases hc:usB c.u c.s c.m c.d<;>cases hd:usB d.u d.s d.m d.d<;>(simp only[ab,aK,ha,hb,hc,hd,ac,ai];exact bW rfl rfl)
  |a::b::c::d::e::r,hl=>simp only[List.length_cons]at hl;omega
 ·cases h
def ayF(y1:Value)(p:Value)(k:Nat)(ds:List V)(y2:Value)(h:List UInt8)(y3:Value)(now:Int):V:=.func (.func 157) [] [.lptr y1 1 [.lst p k ds] 0,.lptr y2 1 [.str h] 0,.lptr y3 1 [.int .i64 now] 0]
def inU(r:TL):Bool:=u8B r.s&&u8B r.m
structure AY where
 x:Value
 n:Nat
 cs:List V
 y1:Value
 p:Value
 k:Nat
 ds:List V
 y2:Value
 h:List UInt8
 y3:Value
 now:Int
 i:Nat
def AY.f(z:AY):V:=ayF z.y1 z.p z.k z.ds z.y2 z.h z.y3 z.now
theorem shA(k:Nat):∀a b:List V,aa k (a++b)=aa k a++aa k b
 |[],b=>rfl
 |v::r,b=>by simp only[List.cons_append,aa,shA k r b]
theorem shT(k:Nat):∀l:List TL,aa k (tls l)=tls l
 |[]=>rfl
 |r::l=>by simp only[tls,aa,V.shift,shT k l]
theorem shZ(k:Nat):∀q:List TL,aa k (aK q)=aK q
 |[]=>rfl
 |r::l=>by
  rw[aK];cases usB r.u r.s r.m r.d with
  |true=>exact shZ k l
  |false=>simp only[ai,aa,V.shift,shZ k l]
theorem kP{st:St}{b:Nat}{l:List TL}{z:List V}(hb:(∃t sz,st[b]?=some (.row (tls l++z) t sz))∨∃o,st[b]?=some (.ro o (tls l++z)))(ex:Bool)(c zz:Nat):dy st (.slice b 0 l.length ex c zz)=some (true,l):=by
 have ht:List.take (l.length*4) (tls l++z)=tls l:=by
  rw[List.take_append_of_le_length (by rw[ci];omega)];exact List.take_of_length_le (by rw[ci];omega)
 have hle:(0+l.length*4).ble (tls l++z).length=true:=ap (by rw[List.length_append,ci];omega);have hv:fo st 4 (.slice b 0 l.length ex c zz)=some (true,(l.length,tls l)):=by
  rcases hb with⟨t,sz,hb⟩|⟨o,hb⟩<;>simp only[fo,hb,hle,List.drop_zero,ht]
 unfold dy;rw[hv];simp only[fO,bf,Nat.beq_refl,Bool.and_self]
theorem jo:∀q:List TL,(ab q).length≤q.length
 |[]=>Nat.le_refl _
 |r::l=>by
  have:=jo l;rw[ab];cases usB r.u r.s r.m r.d with
  |true=>simpa using this
  |false=>rw[ai,List.length_cons];omega
theorem nil_zero{m:List MB}{x y:Value}{n:Nat}{cs:List V}(h:real m (.lst x n cs)=some y)(hn:nilX (ec x 0 (k4 n) 4)=true):n=0:=by
 obtain⟨xs,_,_,hk⟩:=c7 h;rcases hk with⟨a,cap,rfl,rfl,_⟩|⟨b,off,cap,arr,t,fz,rfl,h1,h2,_⟩
 ·rfl
 ·exfalso;unfold ec nilX at hn;simp only at hn;rw[if_neg (by omega)]at hn;cases hn
def RU0:Tab:=⟨addT noT 105 rusP,noL,bk 9⟩
theorem RU0_ok:TabOk3 Qq RU0:=⟨bg aW rus_ok,aX,aE 9⟩
def cY(cs:List V):=au (cs.getD 10 (V.bool false))
def cX(cs:List V):=au (cs.getD 9 (V.bool false))
def cp(cs:List V):=cs.getD 11 (V.bool false)
def cn(cs:List V):=cs.getD 8 (V.bool false)
def eb(cs:List V):=au (cs.getD 5 (V.bool false))
def d9(cs:List V):=au (cs.getD 6 (V.bool false))
def eW(cs:List V):=au (cs.getD 1 (V.bool false))
def eV(cs:List V):=au (cs.getD 2 (V.bool false))
def eU(cs:List V):=au (cs.getD 4 (V.bool false))
def eT(cs:List V):=al (cs.getD 7 (V.bool false))
def fD(cs:List V):=au (cs.getD 0 (V.bool false))
def fC(cs:List V):=al (cs.getD 3 (V.bool false))
def zba_0(cs:List V):=[Blk.dead,Blk.dead,Blk.dead,Blk.dead,Blk.dead,Blk.row [V.int u8 (fD cs),V.int u8 (eW cs),V.int u8 (eV cs),V.str (fC cs),V.int u8 (eU cs),V.int u8 (eb cs),V.int u8 (d9 cs),V.str (eT cs),V.int u8 (au (cn cs)),V.int u8 (cX cs),V.int u8 (cY cs),V.str (al (cp cs))] 72 4]
def zba_1(cs:List V):=[Blk.dead,Blk.dead,Blk.dead,Blk.row [V.int u8 (fD cs),V.int u8 (eW cs),V.int u8 (eV cs),V.str (fC cs),V.int u8 (eU cs),V.int u8 (eb cs),V.int u8 (d9 cs),V.str (eT cs)] 72 4]
def cQ(cs:List V):=cs.getD 13 (V.bool false)
def cG(cs:List V):=au (cQ cs)
def cP(cs:List V):=cs.getD 14 (V.bool false)
def cF(cs:List V):=au (cP cs)
def bn(cs:List V):=cs.getD 12 (V.bool false)
def bm(cs:List V):=cs.getD 15 (V.bool false)
def zba_2(cs:List V):=[Blk.dead,Blk.dead,Blk.dead,Blk.dead,Blk.dead,Blk.dead,Blk.dead,Blk.row [V.int u8 (fD cs),V.int u8 (eW cs),V.int u8 (eV cs),V.str (fC cs),V.int u8 (eU cs),V.int u8 (eb cs),V.int u8 (d9 cs),V.str (eT cs),V.int u8 (au (cn cs)),V.int u8 (cX cs),V.int u8 (cY cs),V.str (al (cp cs)),V.int u8 (au (bn cs)),V.int u8 (cG cs),V.int u8 (cF cs),V.str (al (bm cs))] 72 4]
def zba_3(cs:List V):=[Blk.dead,Blk.dead,Blk.dead,Blk.row [V.int u8 (fD cs),V.int u8 (eW cs),V.int u8 (eV cs),V.str (fC cs),V.int u8 (au (cn cs)),V.int u8 (cX cs),V.int u8 (cY cs),V.str (al (cp cs))] 72 4]
def zba_4(cs:List V):=[Blk.dead,Blk.dead,Blk.dead,Blk.row [V.int u8 (eU cs),V.int u8 (eb cs),V.int u8 (d9 cs),V.str (eT cs),V.int u8 (au (cn cs)),V.int u8 (cX cs),V.int u8 (cY cs),V.str (al (cp cs))] 72 4]
def mm(cs:List V):=[Blk.dead,Blk.row [V.int u8 (fD cs),V.int u8 (eW cs),V.int u8 (eV cs),V.str (fC cs)] 72 4]
def zba_8(cs:List V):=[Blk.dead,Blk.row [V.int u8 (eU cs),V.int u8 (eb cs),V.int u8 (d9 cs),V.str (eT cs)] 72 4]
def zba_9(cs:List V):=[Blk.dead,Blk.dead,Blk.dead,Blk.dead,Blk.dead,Blk.row [V.int u8 (fD cs),V.int u8 (eW cs),V.int u8 (eV cs),V.str (fC cs),V.int u8 (au (cn cs)),V.int u8 (cX cs),V.int u8 (cY cs),V.str (al (cp cs)),V.int u8 (au (bn cs)),V.int u8 (cG cs),V.int u8 (cF cs),V.str (al (bm cs))] 72 4]
def zba_10(cs:List V):=[Blk.dead,Blk.dead,Blk.dead,Blk.dead,Blk.dead,Blk.row [V.int u8 (eU cs),V.int u8 (eb cs),V.int u8 (d9 cs),V.str (eT cs),V.int u8 (au (cn cs)),V.int u8 (cX cs),V.int u8 (cY cs),V.str (al (cp cs)),V.int u8 (au (bn cs)),V.int u8 (cG cs),V.int u8 (cF cs),V.str (al (bm cs))] 72 4]
def zba_11(cs:List V):=[Blk.dead,Blk.dead,Blk.dead,Blk.dead,Blk.dead,Blk.row [V.int u8 (fD cs),V.int u8 (eW cs),V.int u8 (eV cs),V.str (fC cs),V.int u8 (eU cs),V.int u8 (eb cs),V.int u8 (d9 cs),V.str (eT cs),V.int u8 (au (bn cs)),V.int u8 (cG cs),V.int u8 (cF cs),V.str (al (bm cs))] 72 4]
def nD(cs:List V):=[Blk.dead,Blk.row [V.int u8 (au (cn cs)),V.int u8 (cX cs),V.int u8 (cY cs),V.str (al (cp cs))] 72 4]
def zba_17(cs:List V):=[Blk.dead,Blk.dead,Blk.dead,Blk.row [V.int u8 (fD cs),V.int u8 (eW cs),V.int u8 (eV cs),V.str (fC cs),V.int u8 (au (bn cs)),V.int u8 (cG cs),V.int u8 (cF cs),V.str (al (bm cs))] 72 4]
def zba_18(cs:List V):=[Blk.dead,Blk.dead,Blk.dead,Blk.row [V.int u8 (eU cs),V.int u8 (eb cs),V.int u8 (d9 cs),V.str (eT cs),V.int u8 (au (bn cs)),V.int u8 (cG cs),V.int u8 (cF cs),V.str (al (bm cs))] 72 4]
def zba_19(cs:List V):=[Blk.dead,Blk.dead,Blk.dead,Blk.row [V.int u8 (au (cn cs)),V.int u8 (cX cs),V.int u8 (cY cs),V.str (al (cp cs)),V.int u8 (au (bn cs)),V.int u8 (cG cs),V.int u8 (cF cs),V.str (al (bm cs))] 72 4]
def cW:=V.slice 3 0 2 false 0 0
def dw:=V.slice 1 0 1 false 0 0
theorem rusa_tree(x:Value)(n:Nat)(cs:List V)(R:V→St→Prop):runM Qq RU0 9 10 55 [.lst x n cs] (fun v st=>R v (vis v st))=
 (
 bif decide (0<(↑n:Int))then bif true&&decide (0<(↑n:Int))then bif Nat.ble 4 cs.length then bif aj u8 (cs.getD 0 (.bool false))then bif
 aj u8 (cs.getD 1 (.bool false))then bif aj u8 (cs.getD 2 (.bool false))then bif aw (cs.getD 3 (.bool false))then bif u8B
 (eW cs)&&u8B (eV cs)then bif usB (fD cs) (eW cs) (eV cs) (fC cs)then bif true&&decide (0<(↑n:Int))then bif Nat.ble 4 cs.length
 then bif aj u8 (cs.getD 0 (.bool false))then bif aj u8 (cs.getD 1 (.bool false))then bif aj u8 (cs.getD 2 (.bool false))
 then bif aw (cs.getD 3 (.bool false))then bif decide (1<(↑n:Int))then bif true&&decide (1<(↑n:Int))then bif Nat.ble 8 cs.length then bif aj
 u8 (cs.getD 4 (.bool false))then bif aj u8 (cs.getD 5 (.bool false))then bif aj u8 (cs.getD 6 (.bool false))then bif aw
 (cs.getD 7 (.bool false))then bif u8B (eb cs)&&u8B (d9 cs)then bif usB (eU cs) (eb cs) (d9 cs) (eT cs)then bif true&&decide (1<
 (↑n:Int))then bif Nat.ble 8 cs.length then bif aj u8 (cs.getD 4 (.bool false))then bif aj u8 (cs.getD 5 (.bool false))then bif
 aj u8 (cs.getD 6 (.bool false))then bif aw (cs.getD 7 (.bool false))then bif decide (2<(↑n:Int))then bif true&&decide (2<(↑n:Int))
 then bif Nat.ble 12 cs.length then bif aj u8 (cn cs)then bif aj u8 (cs.getD 9 (.bool false))then bif aj u8 (cs.getD 10
 (.bool false))then bif aw (cp cs)then bif u8B (cX cs)&&u8B (cY cs)then bif usB (au (cn cs)) (cX cs) (cY cs) (al (cp
 cs))then bif true&&decide (2<(↑n:Int))then bif Nat.ble 12 cs.length then bif aj u8 (cn cs)then bif aj u8 (cs.getD 9 (.bool
 false))then bif aj u8 (cs.getD 10 (.bool false))then bif aw (cp cs)then bif decide (3<(↑n:Int))then bif true&&decide (3<(↑n:
 Int))then bif Nat.ble 16 cs.length then bif aj u8 (bn cs)then bif aj u8 (cQ cs)then bif aj u8 (cP cs)then bif
 aw (bm cs)then bif u8B (cG cs)&&u8B (cF cs)then bif usB (au (bn cs)) (cG cs) (cF cs) (al (bm cs))then bif true&&decide
 (3<(↑n:Int))then bif Nat.ble 16 cs.length then bif aj u8 (bn cs)then bif aj u8 (cQ cs)then bif aj u8 (cP
 cs)then bif aw (bm cs)then bif decide (4<(↑n:Int))then R (.slice 7 0 4 false 0 0) (zba_2 cs)else R (.slice 7 0 4 false 0 0) (zba_2 cs)else
 False else False else False else False else False else False else bif decide (4<(↑n:Int))then R (.slice 5 0 3 false 0 0) (zba_0 cs)else R (.slice 5 0 3
 false 0 0) (zba_0 cs)else False else False else False else False else False else False else False else R (.slice 5 0 3 false 0 0) (zba_0 cs)else False else
 False else False else False else False else False else bif decide (3<(↑n:Int))then bif true&&decide (3<(↑n:Int))then bif Nat.ble 16 cs.length then
 bif aj u8 (bn cs)then bif aj u8 (cQ cs)then bif aj u8 (cP cs)then bif aw (bm cs)then bif u8B (cG
 cs)&&u8B (cF cs)then bif usB (au (bn cs)) (cG cs) (cF cs) (al (bm cs))then bif true&&decide (3<(↑n:Int))then bif Nat.ble 16
 cs.length then bif aj u8 (bn cs)then bif aj u8 (cQ cs)then bif aj u8 (cP cs)then bif aw (bm cs)then
 bif decide (4<(↑n:Int))then R (.slice 5 0 3 false 0 0) (zba_11 cs)else R (.slice 5 0 3 false 0 0) (zba_11 cs)else False else False else False else False
 else False else False else bif decide (4<(↑n:Int))then R cW (zba_1 cs)else R cW (zba_1 cs)else False else False else False else False else False
 else False else False else R cW (zba_1 cs)else False else False else False else False else False else False else False else R cW (zba_1 cs)else False
 else False else False else False else False else False else bif decide (2<(↑n:Int))then bif true&&decide (2<(↑n:Int))then bif Nat.ble 12 cs.length
 then bif aj u8 (cn cs)then bif aj u8 (cs.getD 9 (.bool false))then bif aj u8 (cs.getD 10 (.bool false))then bif
 aw (cp cs)then bif u8B (cX cs)&&u8B (cY cs)then bif usB (au (cn cs)) (cX cs) (cY cs) (al (cp cs))then bif true&&
 decide (2<(↑n:Int))then bif Nat.ble 12 cs.length then bif aj u8 (cn cs)then bif aj u8 (cs.getD 9 (.bool false))then bif
 aj u8 (cs.getD 10 (.bool false))then bif aw (cp cs)then bif decide (3<(↑n:Int))then bif true&&decide (3<(↑n:Int))then bif
 Nat.ble 16 cs.length then bif aj u8 (bn cs)then bif aj u8 (cQ cs)then bif aj u8 (cP cs)then bif aw (bm
 cs)then bif u8B (cG cs)&&u8B (cF cs)then bif usB (au (bn cs)) (cG cs) (cF cs) (al (bm cs))then bif true&&decide (3<(↑n:
 Int))then bif Nat.ble 16 cs.length then bif aj u8 (bn cs)then bif aj u8 (cQ cs)then bif aj u8 (cP cs)then bif
 aw (bm cs)then bif decide (4<(↑n:Int))then R (.slice 5 0 3 false 0 0) (zba_9 cs)else R (.slice 5 0 3 false 0 0) (zba_9 cs)else False else False
 else False else False else False else False else bif decide (4<(↑n:Int))then R cW (zba_3 cs)else R cW (zba_3 cs)else False else False else False
 else False else False else False else False else R cW (zba_3 cs)else False else False else False else False else False else False else bif decide (3<(↑n:
 Int))then bif true&&decide (3<(↑n:Int))then bif Nat.ble 16 cs.length then bif aj u8 (bn cs)then bif aj u8 (cQ cs)then
 bif aj u8 (cP cs)then bif aw (bm cs)then bif u8B (cG cs)&&u8B (cF cs)then bif usB (au (bn cs)) (cG cs) (cF cs)
 (al (bm cs))then bif true&&decide (3<(↑n:Int))then bif Nat.ble 16 cs.length then bif aj u8 (bn cs)then bif aj u8
 (cQ cs)then bif aj u8 (cP cs)then bif aw (bm cs)then bif decide (4<(↑n:Int))then R cW (zba_17 cs)else R cW (zba_17
 cs)else False else False else False else False else False else False else bif decide (4<(↑n:Int))then R dw (mm cs)else R dw (mm cs)else
 False else False else False else False else False else False else False else R dw (mm cs)else False else False else False else False else False else
 False else False else R dw (mm cs)else False else False else False else False else False else False else False else R dw (mm cs)else False else
 False else False else False else False else False else bif decide (1<(↑n:Int))then bif true&&decide (1<(↑n:Int))then bif Nat.ble 8 cs.length then bif
 aj u8 (cs.getD 4 (.bool false))then bif aj u8 (cs.getD 5 (.bool false))then bif aj u8 (cs.getD 6 (.bool false))then bif
 aw (cs.getD 7 (.bool false))then bif u8B (eb cs)&&u8B (d9 cs)then bif usB (eU cs) (eb cs) (d9 cs) (eT cs)then bif true&&
 decide (1<(↑n:Int))then bif Nat.ble 8 cs.length then bif aj u8 (cs.getD 4 (.bool false))then bif aj u8 (cs.getD 5 (.bool false))
 then bif aj u8 (cs.getD 6 (.bool false))then bif aw (cs.getD 7 (.bool false))then bif decide (2<(↑n:Int))then bif true&&decide (2<
 (↑n:Int))then bif Nat.ble 12 cs.length then bif aj u8 (cn cs)then bif aj u8 (cs.getD 9 (.bool false))then bif aj u8
 (cs.getD 10 (.bool false))then bif aw (cp cs)then bif u8B (cX cs)&&u8B (cY cs)then bif usB (au (cn cs)) (cX cs) (cY cs)
 (al (cp cs))then bif true&&decide (2<(↑n:Int))then bif Nat.ble 12 cs.length then bif aj u8 (cn cs)then bif aj u8
 (cs.getD 9 (.bool false))then bif aj u8 (cs.getD 10 (.bool false))then bif aw (cp cs)then bif decide (3<(↑n:Int))then bif true&&
 decide (3<(↑n:Int))then bif Nat.ble 16 cs.length then bif aj u8 (bn cs)then bif aj u8 (cQ cs)then bif aj u8
 (cP cs)then bif aw (bm cs)then bif u8B (cG cs)&&u8B (cF cs)then bif usB (au (bn cs)) (cG cs) (cF cs) (al (bm cs))
 then bif true&&decide (3<(↑n:Int))then bif Nat.ble 16 cs.length then bif aj u8 (bn cs)then bif aj u8 (cQ cs)then bif
 aj u8 (cP cs)then bif aw (bm cs)then bif decide (4<(↑n:Int))then R (.slice 5 0 3 false 0 0) (zba_10 cs)else R (.slice 5 0 3
 false 0 0) (zba_10 cs)else False else False else False else False else False else False else bif decide (4<(↑n:Int))then R cW (zba_4 cs)else R cW
 (zba_4 cs)else False else False else False else False else False else False else False else R cW (zba_4 cs)else False else False else False else False else
 False else False else bif decide (3<(↑n:Int))then bif true&&decide (3<(↑n:Int))then bif Nat.ble 16 cs.length then bif aj u8 (bn cs)
 then bif aj u8 (cQ cs)then bif aj u8 (cP cs)then bif aw (bm cs)then bif u8B (cG cs)&&u8B (cF cs)then bif usB
 (au (bn cs)) (cG cs) (cF cs) (al (bm cs))then bif true&&decide (3<(↑n:Int))then bif Nat.ble 16 cs.length then bif aj u8
 (bn cs)then bif aj u8 (cQ cs)then bif aj u8 (cP cs)then bif aw (bm cs)then bif decide (4<(↑n:Int))then R
 cW (zba_18 cs)else R cW (zba_18 cs)else False else False else False else False else False else False else bif decide (4<(↑n:Int))then R dw
 (zba_8 cs)else R dw (zba_8 cs)else False else False else False else False else False else False else False else R dw (zba_8 cs)else False else False
 else False else False else False else False else False else R dw (zba_8 cs)else False else False else False else False else False else False else bif decide
 (2<(↑n:Int))then bif true&&decide (2<(↑n:Int))then bif Nat.ble 12 cs.length then bif aj u8 (cn cs)then bif aj u8
 (cs.getD 9 (.bool false))then bif aj u8 (cs.getD 10 (.bool false))then bif aw (cp cs)then bif u8B (cX cs)&&u8B (cY cs)then
 bif usB (au (cn cs)) (cX cs) (cY cs) (al (cp cs))then bif true&&decide (2<(↑n:Int))then bif Nat.ble 12 cs.length then bif aj
 u8 (cn cs)then bif aj u8 (cs.getD 9 (.bool false))then bif aj u8 (cs.getD 10 (.bool false))then bif aw (cp cs)
 then bif decide (3<(↑n:Int))then bif true&&decide (3<(↑n:Int))then bif Nat.ble 16 cs.length then bif aj u8 (bn cs)then bif aj
 u8 (cQ cs)then bif aj u8 (cP cs)then bif aw (bm cs)then bif u8B (cG cs)&&u8B (cF cs)then bif usB (au (bn
 cs)) (cG cs) (cF cs) (al (bm cs))then bif true&&decide (3<(↑n:Int))then bif Nat.ble 16 cs.length then bif aj u8 (bn cs)
 then bif aj u8 (cQ cs)then bif aj u8 (cP cs)then bif aw (bm cs)then bif decide (4<(↑n:Int))then R cW (zba_19
 cs)else R cW (zba_19 cs)else False else False else False else False else False else False else bif decide (4<(↑n:Int))then R dw (nD cs)else R
 dw (nD cs)else False else False else False else False else False else False else False else R dw (nD cs)else False else False else False else
 False else False else False else bif decide (3<(↑n:Int))then bif true&&decide (3<(↑n:Int))then bif Nat.ble 16 cs.length then bif aj u8
 (bn cs)then bif aj u8 (cQ cs)then bif aj u8 (cP cs)then bif aw (bm cs)then bif u8B (cG cs)&&u8B (cF cs)
 then bif usB (au (bn cs)) (cG cs) (cF cs) (al (bm cs))then bif true&&decide (3<(↑n:Int))then bif Nat.ble 16 cs.length then bif
 aj u8 (bn cs)then bif aj u8 (cQ cs)then bif aj u8 (cP cs)then bif aw (bm cs)then bif decide (4<(↑n
 :Int))then R dw [.dead,.row [.int u8 (au (bn cs)),.int u8 (cG cs),.int u8 (cF cs),.str (al (bm
 cs))] 72 4]else R dw [.dead,.row [.int u8 (au (bn cs)),.int u8 (cG cs),.int u8 (cF cs),.str (al
 (bm cs))] 72 4]else False else False else False else False else False else False else bif decide (4<(↑n:Int))then R .nilSlice []else R .nilSlice []
 else False else False else False else False else False else False else False else R .nilSlice []else False else False else False else False else False else
 False else False else R .nilSlice []else False else False else False else False else False else False else False else R .nilSlice []else False else False
 else False else False else False else False else False else R .nilSlice []):=by kernel_rfl
def rusaT:List V→Option (Qx)
 |[.lst x n cs]=>some [((okT n cs&&(tlD cs).all inU)&&Nat.beq (ab (usaL cs)).length 0,(.nilSlice,[])),(okT n cs&&(tlD cs).all inU,(.slice 0 0 (ab (usaL cs)).length false 0 0,[.row (tls (ab (usaL cs))) 72 4]))]
 |_=>none
def rusO(q:List TL):V×St:=bif Nat.beq q.length 0 then(.nilSlice,[])else(.slice 0 0 q.length false 0 0,[.row (tls q) 72 4])
theorem eQ(st:St):Fits 0 [V.nilSlice] [] [some V.nilSlice] st:=⟨[],[.nilSlice],rfl,rfl,FitsM.of trivial,by decide,fun i hi=>by omega⟩
theorem rusa_fits(x:Value)(l:List TL)(hl:l.length≤9223372036854775807)(hu:l.all inU=true):runM Qq RU0 9 10 55 [.lst x l.length (tls l)] (fun v st=>Fits 0 [(rusO (ab (l.take 4))).1] (rusO (ab (l.take 4))).2 [some v] (vis v st)):=by
 refine cast (rusa_tree x l.length (tls l) (fun v st=>Fits 0 [(rusO (ab (l.take 4))).1] (rusO (ab (l.take 4))).2 [some v] st)).symm ?_;unfold dw cW zba_19 zba_18 zba_17 nD zba_11 zba_10 zba_9 zba_8 mm zba_4 zba_3 zba_2 bm bn cF cP cG cQ zba_1 zba_0 fC fD eT eU eV eW d9 eb cn cp cX cY
 match l,hl,hu with
 |[],hl,hu=>
  have d0:decide ((0:Int)<(([]:List TL).length:Int))=false:=rfl;simp only[d0,aj,au,aw,al,decide_true,Bool.and_self,ay,ac,ai];have tk:List.take 4 ([]:List TL)=[]:=rfl;rw[tk]
  (simp only[ab,ac,ai];first|exact eQ _|exact bW rfl rfl)
 |[a],hl,hu=>
  have d0:decide ((0:Int)<(([a]:List TL).length:Int))=true:=rfl;have b0:Nat.ble 4 (tls ([a]:List TL)).length=true:=rfl;have g00:(tls ([a]:List TL)).getD 0 (.bool false)=.int .u8 a.u:=rfl;have g01:(tls ([a]:List TL)).getD 1 (.bool false)=.int .u8 a.s:=rfl;have g02:(tls ([a]:List TL)).getD 2 (.bool false)=.int .u8 a.m:=rfl;have g03:(tls ([a]:List TL)).getD 3 (.bool false)=.str a.d:=rfl;have d1:decide ((1:Int)<(([a]:List TL).length:Int))=false:=rfl;simp only[List.all_cons,af]at hu;have u0:(u8B a.s&&u8B a.m)=true:=hu.1;simp only[g00,g01,g02,g03,d0,b0,d1,u0,aj,au,aw,al,decide_true,Bool.and_self,ay,ac,ai];have tk:List.take 4 ([a]:List TL)=[a]:=rfl;rw[tk];cases h0:usB a.u a.s a.m a.d<;>(simp only[ab,h0,ac,ai];first|exact eQ _|exact bW rfl rfl)
 |[a,b],hl,hu=>
  have d0:decide ((0:Int)<(([a,b]:List TL).length:Int))=true:=rfl;have b0:Nat.ble 4 (tls ([a,b]:List TL)).length=true:=rfl;have g00:(tls ([a,b]:List TL)).getD 0 (.bool false)=.int .u8 a.u:=rfl;have g01:(tls ([a,b]:List TL)).getD 1 (.bool false)=.int .u8 a.s:=rfl;have g02:(tls ([a,b]:List TL)).getD 2 (.bool false)=.int .u8 a.m:=rfl;have g03:(tls ([a,b]:List TL)).getD 3 (.bool false)=.str a.d:=rfl;have d1:decide ((1:Int)<(([a,b]:List TL).length:Int))=true:=rfl;have b1:Nat.ble 8 (tls ([a,b]:List TL)).length=true:=rfl;have g10:(tls ([a,b]:List TL)).getD 4 (.bool false)=.int .u8 b.u:=rfl;have g11:(tls ([a,b]:List TL)).getD 5 (.bool false)=.int .u8 b.s:=rfl;have g12:(tls ([a,b]:List TL)).getD 6 (.bool false)=.int .u8 b.m:=rfl;have g13:(tls ([a,b]:List TL)).getD 7 (.bool false)=.str b.d:=rfl;have d2:decide ((2:Int)<(([a,b]:List TL).length:Int))=false:=rfl;simp only[List.all_cons,af]at hu;have u0:(u8B a.s&&u8B a.m)=true:=hu.1;have u1:(u8B b.s&&u8B b.m)=true:=hu.2.1;simp only[g00,g01,g02,g03,d0,b0,g10,g11,g12,g13,d1,b1,d2,u0,u1,aj,au,aw,al,decide_true,Bool.and_self,ay,ac,ai];have tk:List.take 4 ([a,b]:List TL)=[a,b]:=rfl;rw[tk];cases h0:usB a.u a.s a.m a.d<;>cases h1:usB b.u b.s b.m b.d<;>(simp only[ab,h0,h1,ac,ai];first|exact eQ _|exact bW rfl rfl)
 |[a,b,c],hl,hu=>
  have d0:decide ((0:Int)<(([a,b,c]:List TL).length:Int))=true:=rfl;have b0:Nat.ble 4 (tls ([a,b,c]:List TL)).length=true:=rfl;have g00:(tls ([a,b,c]:List TL)).getD 0 (.bool false)=.int .u8 a.u:=rfl;have g01:(tls ([a,b,c]:List TL)).getD 1 (.bool false)=.int .u8 a.s:=rfl;have g02:(tls ([a,b,c]:List TL)).getD 2 (.bool false)=.int .u8 a.m:=rfl;have g03:(tls ([a,b,c]:List TL)).getD 3 (.bool false)=.str a.d:=rfl;have d1:decide ((1:Int)<(([a,b,c]:List TL).length:Int))=true:=rfl;have b1:Nat.ble 8 (tls ([a,b,c]:List TL)).length=true:=rfl;have g10:(tls ([a,b,c]:List TL)).getD 4 (.bool false)=.int .u8 b.u:=rfl;have g11:(tls ([a,b,c]:List TL)).getD 5 (.bool false)=.int .u8 b.s:=rfl;have g12:(tls ([a,b,c]:List TL)).getD 6 (.bool false)=.int .u8 b.m:=rfl;have g13:(tls ([a,b,c]:List TL)).getD 7 (.bool false)=.str b.d:=rfl;have d2:decide ((2:Int)<(([a,b,c]:List TL).length:Int))=true:=rfl;have b2:Nat.ble 12 (tls ([a,b,c]:List TL)).length=true:=rfl;have g20:(tls ([a,b,c]:List TL)).getD 8 (.bool false)=.int .u8 c.u:=rfl;have g21:(tls ([a,b,c]:List TL)).getD 9 (.bool false)=.int .u8 c.s:=rfl;have g22:(tls ([a,b,c]:List TL)).getD 10 (.bool false)=.int .u8 c.m:=rfl;have g23:(tls ([a,b,c]:List TL)).getD 11 (.bool false)=.str c.d:=rfl;have d3:decide ((3:Int)<(([a,b,c]:List TL).length:Int))=false:=rfl;simp only[List.all_cons,af]at hu;have u0:(u8B a.s&&u8B a.m)=true:=hu.1;have u1:(u8B b.s&&u8B b.m)=true:=hu.2.1;have u2:(u8B c.s&&u8B c.m)=true:=hu.2.2.1;simp only[g00,g01,g02,g03,d0,b0,g10,g11,g12,g13,d1,b1,g20,g21,g22,g23,d2,b2,d3,u0,u1,u2,aj,au,aw,al,decide_true,Bool.and_self,ay,ac,ai];have tk:List.take 4 ([a,b,c]:List TL)=[a,b,c]:=rfl;rw[tk];cases h0:usB a.u a.s a.m a.d<;>cases h1:usB b.u b.s b.m b.d<;>cases h2:usB c.u c.s c.m c.d<;>(simp only[ab,h0,h1,h2,ac,ai];first|exact eQ _|exact bW rfl rfl)
 |[a,b,c,d],hl,hu=>
  have d0:decide ((0:Int)<(([a,b,c,d]:List TL).length:Int))=true:=rfl;have b0:Nat.ble 4 (tls ([a,b,c,d]:List TL)).length=true:=rfl;have g00:(tls ([a,b,c,d]:List TL)).getD 0 (.bool false)=.int .u8 a.u:=rfl;have g01:(tls ([a,b,c,d]:List TL)).getD 1 (.bool false)=.int .u8 a.s:=rfl;have g02:(tls ([a,b,c,d]:List TL)).getD 2 (.bool false)=.int .u8 a.m:=rfl;have g03:(tls ([a,b,c,d]:List TL)).getD 3 (.bool false)=.str a.d:=rfl;have d1:decide ((1:Int)<(([a,b,c,d]:List TL).length:Int))=true:=rfl;have b1:Nat.ble 8 (tls ([a,b,c,d]:List TL)).length=true:=rfl;have g10:(tls ([a,b,c,d]:List TL)).getD 4 (.bool false)=.int .u8 b.u:=rfl;have g11:(tls ([a,b,c,d]:List TL)).getD 5 (.bool false)=.int .u8 b.s:=rfl;have g12:(tls ([a,b,c,d]:List TL)).getD 6 (.bool false)=.int .u8 b.m:=rfl;have g13:(tls ([a,b,c,d]:List TL)).getD 7 (.bool false)=.str b.d:=rfl;have d2:decide ((2:Int)<(([a,b,c,d]:List TL).length:Int))=true:=rfl;have b2:Nat.ble 12 (tls ([a,b,c,d]:List TL)).length=true:=rfl;have g20:(tls ([a,b,c,d]:List TL)).getD 8 (.bool false)=.int .u8 c.u:=rfl;have g21:(tls ([a,b,c,d]:List TL)).getD 9 (.bool false)=.int .u8 c.s:=rfl;have g22:(tls ([a,b,c,d]:List TL)).getD 10 (.bool false)=.int .u8 c.m:=rfl;have g23:(tls ([a,b,c,d]:List TL)).getD 11 (.bool false)=.str c.d:=rfl;have d3:decide ((3:Int)<(([a,b,c,d]:List TL).length:Int))=true:=rfl;have b3:Nat.ble 16 (tls ([a,b,c,d]:List TL)).length=true:=rfl;have g30:(tls ([a,b,c,d]:List TL)).getD 12 (.bool false)=.int .u8 d.u:=rfl;have g31:(tls ([a,b,c,d]:List TL)).getD 13 (.bool false)=.int .u8 d.s:=rfl;have g32:(tls ([a,b,c,d]:List TL)).getD 14 (.bool false)=.int .u8 d.m:=rfl;have g33:(tls ([a,b,c,d]:List TL)).getD 15 (.bool false)=.str d.d:=rfl;simp only[List.all_cons,af]at hu;have u0:(u8B a.s&&u8B a.m)=true:=hu.1;have u1:(u8B b.s&&u8B b.m)=true:=hu.2.1;have u2:(u8B c.s&&u8B c.m)=true:=hu.2.2.1;have u3:(u8B d.s&&u8B d.m)=true:=hu.2.2.2.1;simp only[g00,g01,g02,g03,d0,b0,g10,g11,g12,g13,d1,b1,g20,g21,g22,g23,d2,b2,g30,g31,g32,g33,d3,b3,u0,u1,u2,u3,aj,au,aw,al,decide_true,Bool.and_self,ay,ac,ai];have tk:List.take 4 [a,b,c,d]=[a,b,c,d]:=rfl;rw[tk];generalize decide ((4:Int)<(([a,b,c,d]:List TL).length:Int))=d4;cases d4<;>cases h0:usB a.u a.s a.m a.d<;>cases h1:usB b.u b.s b.m b.d<;>cases h2:usB c.u c.s c.m c.d<;>cases h3:usB d.u d.s d.m d.d<;>(simp only[ab,h0,h1,h2,h3,ac,ai];first|exact eQ _|exact bW rfl rfl)
 |a::b::c::d::e::r,hl,hu=>
  have d0:decide ((0:Int)<((a::b::c::d::e::r:List TL).length:Int))=true:=az (by simp only[List.length_cons];omega);have b0:Nat.ble 4 (tls (a::b::c::d::e::r:List TL)).length=true:=ap (by rw[ci];simp only[List.length_cons];omega);have g00:(tls (a::b::c::d::e::r:List TL)).getD 0 (.bool false)=.int .u8 a.u:=rfl;have g01:(tls (a::b::c::d::e::r:List TL)).getD 1 (.bool false)=.int .u8 a.s:=rfl;have g02:(tls (a::b::c::d::e::r:List TL)).getD 2 (.bool false)=.int .u8 a.m:=rfl;have g03:(tls (a::b::c::d::e::r:List TL)).getD 3 (.bool false)=.str a.d:=rfl;have d1:decide ((1:Int)<((a::b::c::d::e::r:List TL).length:Int))=true:=az (by simp only[List.length_cons];omega);have b1:Nat.ble 8 (tls (a::b::c::d::e::r:List TL)).length=true:=ap (by rw[ci];simp only[List.length_cons];omega);have g10:(tls (a::b::c::d::e::r:List TL)).getD 4 (.bool false)=.int .u8 b.u:=rfl;have g11:(tls (a::b::c::d::e::r:List TL)).getD 5 (.bool false)=.int .u8 b.s:=rfl;have g12:(tls (a::b::c::d::e::r:List TL)).getD 6 (.bool false)=.int .u8 b.m:=rfl;have g13:(tls (a::b::c::d::e::r:List TL)).getD 7 (.bool false)=.str b.d:=rfl;have d2:decide ((2:Int)<((a::b::c::d::e::r:List TL).length:Int))=true:=az (by simp only[List.length_cons];omega);have b2:Nat.ble 12 (tls (a::b::c::d::e::r:List TL)).length=true:=ap (by rw[ci];simp only[List.length_cons];omega);have g20:(tls (a::b::c::d::e::r:List TL)).getD 8 (.bool false)=.int .u8 c.u:=rfl;have g21:(tls (a::b::c::d::e::r:List TL)).getD 9 (.bool false)=.int .u8 c.s:=rfl;have g22:(tls (a::b::c::d::e::r:List TL)).getD 10 (.bool false)=.int .u8 c.m:=rfl;have g23:(tls (a::b::c::d::e::r:List TL)).getD 11 (.bool false)=.str c.d:=rfl;have d3:decide ((3:Int)<((a::b::c::d::e::r:List TL).length:Int))=true:=az (by simp only[List.length_cons];omega);have b3:Nat.ble 16 (tls (a::b::c::d::e::r:List TL)).length=true:=ap (by rw[ci];simp only[List.length_cons];omega);have g30:(tls (a::b::c::d::e::r:List TL)).getD 12 (.bool false)=.int .u8 d.u:=rfl;have g31:(tls (a::b::c::d::e::r:List TL)).getD 13 (.bool false)=.int .u8 d.s:=rfl;have g32:(tls (a::b::c::d::e::r:List TL)).getD 14 (.bool false)=.int .u8 d.m:=rfl;have g33:(tls (a::b::c::d::e::r:List TL)).getD 15 (.bool false)=.str d.d:=rfl;simp only[List.all_cons,af]at hu;have u0:(u8B a.s&&u8B a.m)=true:=hu.1;have u1:(u8B b.s&&u8B b.m)=true:=hu.2.1;have u2:(u8B c.s&&u8B c.m)=true:=hu.2.2.1;have u3:(u8B d.s&&u8B d.m)=true:=hu.2.2.2.1;simp only[g00,g01,g02,g03,d0,b0,g10,g11,g12,g13,d1,b1,g20,g21,g22,g23,d2,b2,g30,g31,g32,g33,d3,b3,u0,u1,u2,u3,aj,au,aw,al,decide_true,Bool.and_self,ay,ac,ai];have tk:List.take 4 (a::b::c::d::e::r)=[a,b,c,d]:=rfl;rw[tk];generalize decide ((4:Int)<((a::b::c::d::e::r:List TL).length:Int))=d4;cases d4<;>cases h0:usB a.u a.s a.m a.d<;>cases h1:usB b.u b.s b.m b.d<;>cases h2:usB c.u c.s c.m c.d<;>cases h3:usB d.u d.s d.m d.d<;>(simp only[ab,h0,h1,h2,h3,ac,ai];first|exact eQ _|exact bW rfl rfl)
theorem rusa_ok(args:List V)(L:Qx)(o:V×St)(h:rusaT args=some L)(ho:aO L=some o):FnSat Qq 55 args [] (Is o):=by
 unfold rusaT at h;split at h
 ·rename_i x n cs;cases h;cases hk:(okT n cs&&(tlD cs).all inU)with
  |false=>rw[hk]at ho;simp[aO]at ho
  |true=>
  rw[hk,ay]at ho;rw[af]at hk;obtain⟨l,rfl,rfl,h1,h2⟩:=bN hk.1;have hu:l.all inU=true:=by have:=hk.2;rw[bf]at this;exact this
  have hq:usaL (tls l)=l.take 4:=by unfold usaL;rw[bf]
  rw[hq]at ho;have e:o=rusO (ab (l.take 4)):=by
   unfold rusO;cases hb:Nat.beq (ab (l.take 4)).length 0 with
   |true=>rw[hb]at ho;exact(Option.some.inj ho).symm
   |false=>rw[hb]at ho;exact(Option.some.inj ho).symm
  rw[e];exact eD aI RU0_ok (rusa_fits x l h1 hu)
 ·cases h
def PC0:Tab:=⟨addP noT 73 matchP,noL,bk 9⟩
theorem PC0_ok:TabOk3 Qq PC0:=⟨bh aW match_ok,aX,aE 9⟩
theorem pc_tree(s h:List UInt8)(R:V→Prop):lookW PC0 72 [.str s,.ptr 0 0] [.ro false [.str h]] (fun v _=>R v)=
  (
 R (.bool (dX s h))):=by kernel_rfl
def pcL:List V→St→Option (Bool×V)
 |[.str s,.ptr 0 0],[.ro false [.str h]]=>some (true,.bool (dX s h))
 |_,_=>none
theorem pcL_ok(args:List V)(s:St)(v:V)(h:pcL args s=some (true,v)):v.flat=true∧(∀b∈s,ax b.cs=true)∧FnSat Qq 72 args s (fun u _=>u=v):=by
 unfold pcL at h;split at h
 ·rename_i s h;cases h;refine⟨rfl,by simp[Blk.cs,ax,V.flat],lookW_ok PC0_ok ?_⟩;rw[pc_tree]
 ·cases h
def PX0:Tab:=⟨noT,addL noL 72 pcL,bk 9⟩
theorem PX0_ok:TabOk3 Qq PX0:=⟨aW,addL_ok aX pcL_ok,aE 9⟩
theorem px_round(x:Value)(n:Nat)(cs:List V)(h:List UInt8)(i:Int)(R:Qz):aJ Qq PX0 9 10 (ar 9) 129 26 [0,1,4,7,8] [.lst x n cs,.func (.func 72) [] [.ptr 1 0],.int .i64 0,.int .i64 n,.int .i64 i] [.dead,.row [.str h] 9 1] R=
  (
 bif decide (i<(↑n:Int))then bif decide (0≤i)&&decide (i<(↑n:Int))then bif (i.toNat*1).blt cs.length then bif aw (cs.getD (i.toNat*1) (.bool false))
 then bif dX (al (cs.getD (i.toNat*1) (.bool false))) h then R .ret [some (.lst x n cs),some (V.func (Fn.func 72) [] [.ptr 1 0]),some (.int i64
 i),some (.int i64 (↑n:Int)),some (.int i64 i)] [.dead,.row [.str h] 9 1]else R .normal [some (.lst x n cs),some (V.func (Fn.func 72)
 [] [.ptr 1 0]),some (.int i64 0),some (.int i64 (↑n:Int)),some (.int i64 (i64.wrap (i+1)))] [.dead,.row [.str h] 9 1]
 else False else False else False else R (.exit 0) [some (.lst x n cs),some (V.func (Fn.func 72) [] [.ptr 1 0]),some (.int i64 0),some (.int i64
 (↑n:Int)),some (.int i64 i)] [.dead,.row [.str h] 9 1]):=by kernel_rfl
structure PX where
 x:Value
 n:Nat
 cs:List V
 h:List UInt8
 i:Nat
def pxV(y:PX):List V:=[.lst y.x y.n y.cs,.func (.func 72) [] [.ptr 1 0],.int .i64 0,.int .i64 y.n,.int .i64 y.i]
def pxJ(y:PX):St:=[.dead,.row [.str y.h] 9 1]
def le(y:PX):Bool:=okS y.n y.cs&&Nat.ble y.i y.n
def pxMu(y:PX):Nat:=y.n-y.i
def pxDec:List (Option V)→St→Option PX
 |[some (.lst x n cs),some (.func (.func 72) [] [.ptr 1 0]),some (.int .i64 0),some (.int .i64 _),some (.int .i64 0)],_::.row [.str h] _ _::_=>some ⟨x,n,cs,h,0⟩
 |_,_=>none
def anyM(cs:List V)(h:List UInt8):Bool:=(cs.map al).any fun s=>dX s h
def nX(x:Value)(n:Nat)(cs:List V)(h:List UInt8)(b:Bool)(K:Exit→List V→St→Prop):Prop:=
 bif b then ∀i:Nat,K .ret [.lst x n cs,.func (.func 72) [] [.ptr 1 0],.int .i64 i,.int .i64 n,.int .i64 i] [.dead,.row [.str h] 9 1]else K (.exit 0) [.lst x n cs,.func (.func 72) [] [.ptr 1 0],.int .i64 0,.int .i64 n,.int .i64 n] [.dead,.row [.str h] 9 1]
def pxOut:Asks PX:=fun y K=>nX y.x y.n y.cs y.h (anyM (y.cs.drop y.i) y.h) K
theorem kv(v:V)(hv:v.flat=true)(n i a:Int)(b:Blk)(h:List UInt8):Fits 2 [v,.func (.func 72) [] [.ptr 1 0],.int .i64 a,.int .i64 n,.int .i64 i] [.dead,.row [.str h] 9 1] [some v,some (.func (.func 72) [] [.ptr 1 0]),some (.int .i64 a),some (.int .i64 n),some (.int .i64 i)] [b,.row [.str h] 9 1]:=
 ⟨[0,1],[v,.func (.func 72) [] [.ptr 1 0],.int .i64 a,.int .i64 n,.int .i64 i],rfl,by simp[renL,renV,cJ v hv],FitsM.of ⟨.inl rfl,.inr ⟨_,.inl rfl,rfl⟩,trivial⟩,by decide,fun i hi=>by
   match i,hi with
   |0,_|1,_=>rfl⟩
theorem px_roundOk(y:PX)(px:le y=true):aJ Qq PX0 9 10 (ar 9) 129 26 [0,1,4,7,8] (pxV y) (pxJ y) (aQ 2 le pxV pxJ pxMu pxOut y):=by
 obtain⟨x,n,cs,h,i⟩:=y;unfold le at px;rw[af]at px;have p1:i≤n:=aD px.2;have px1:okS n cs=true:=px.1;obtain⟨l,rfl,rfl,p2,p3⟩:=gF px1;show aJ Qq PX0 9 10 (ar 9) 129 26 [0,1,4,7,8] [.lst x l.length (strs l),.func (.func 72) [] [.ptr 1 0],.int .i64 0,.int .i64 l.length,.int .i64 i] [.dead,.row [.str h] 9 1] _;rw[px_round];have ha:∀j,anyM ((strs l).drop j) h=(l.drop j).any fun s=>dX s h:=fun j=>by
  unfold anyM;rw[List.map_drop,bV]
 have out:∀K,pxOut ⟨x,l.length,strs l,h,i⟩ K→nX x l.length (strs l) h ((l.drop i).any fun s=>dX s h) K:=fun K hK=>by
  have hK:nX x l.length (strs l) h (anyM ((strs l).drop i) h) K:=hK;rw[ha]at hK;exact hK
 cases hd:l.drop i with
 |nil=>
  have hi:=fR hd p1;rw[decide_eq_false (show ¬((i:Int)<(l.length:Int)) by omega),ai];refine⟨_,_,fun K hK=>?_,kv _ rfl _ _ _ _ h⟩;have hK:=out K hK;rw[hd]at hK;rw[hi];exact hK
 |cons c r=>
  obtain⟨e1,e2,e3⟩:=ef hd;obtain⟨e4,e5⟩:=kp hd;have q1:decide ((i:Int)<(l.length:Int))=true:=az (by omega);have q2:decide ((0:Int)≤(i:Int))=true:=az (by omega);rw[q1,q2];simp only[bK,e4,e5,aw,al,ac,Bool.and_true,show i64.wrap ((i:Int)+1)=((i+1:Nat):Int) by rw[IntWalk.i64_in _ ⟨by omega,by omega⟩];omega];cases hc:dX c h with
  |true=>
   refine⟨_,_,fun K hK=>?_,kv _ rfl _ _ _ _ h⟩;have hK:=out K hK;rw[hd,List.any_cons,hc]at hK;exact hK i
  |false=>
   refine⟨⟨x,l.length,strs l,h,i+1⟩,?_,kv _ rfl _ _ _ _ h,by simp only[pxMu];omega,fun K hK=>?_⟩
   ·unfold le;rw[af];exact⟨px1,ap (show i+1≤l.length by omega)⟩
   ·have hK:=out K hK;show nX x l.length (strs l) h (anyM ((strs l).drop (i+1)) h) K;rw[ha,e2];rw[hd,List.any_cons,hc,Bool.false_or]at hK;exact hK
def lkPX:Nat→Trans→Trans:=bq 26 (dc 2 (szOf Qq 129) [0,1,4,7,8] pxDec le pxV pxJ pxOut) (ar 9)
theorem lkPX_ok:ba Qq 2 lkPX 129:=by
 unfold lkPX;exact cx (bJ 9 2 129) (by kernel_rfl) fun f st Q h=>bO (P:=Qq) (T:=PX0) (k:=2) (lim:=9) (n:=10) (g:=129) (p0:=26) (lk:=ar 9) aI PX0_ok (bt 9 _ _) pxMu px_roundOk h
def PX1:Tab:=⟨noT,noL,er (bk 9) 129 2 lkPX⟩
theorem PX1_ok:TabOk3 Qq PX1:=⟨aW,aX,cD (aE 9) lkPX_ok⟩
theorem pm_tree(mo:Int)(x:Value)(n:Nat)(cs:List V)(ag:Int)(h:List UInt8)(R:V→Prop):runW Qq PX1 9 10 36 [.agg [.int .u8 mo,.lst x n cs,.int .i64 ag],.str h] R=
  (
 Fits 2 [.lst x n cs,V.func (Fn.func 72) [] [.ptr 1 0],.int i64 0,.int i64 (↑n:Int),.int i64 0] [.dead,.row [.str h] 9 1] [some
 (.lst x n cs),some (V.func (Fn.func 72) [] [.ptr 1 0]),some (.int i64 0),some (.int i64 (↑n:Int)),some (.int i64 0)] [.row [.int
 u8 mo,.lst x n cs,.int i64 ag] 56 3,.row [.str h] 9 1]∧bif le {x:=x,n:=n,cs:=cs,h:=h,i:=0}then bif anyM cs h then ∀(i:
 Nat),R (.bool true)else R (.bool false)else False):=by kernel_rfl
def polM(l:List (List UInt8))(h:List UInt8):Bool:=l.any fun s=>dX s h
def polT:List V→Option (Qx)
 |[.agg [.int .u8 _,.lst _ n cs,.int .i64 _],.str h]=>some [(okS n cs,(.bool (polM (cs.map al) h),[]))]
 |_=>none
theorem polT_ok(args:List V)(L:Qx)(o:V×St)(h:polT args=some L)(ho:aO L=some o):FnSat Qq 36 args [] (Is o):=by
 unfold polT at h;split at h
 ·rename_i mo x n cs ag h;cases h;obtain⟨hk,rfl⟩:=a7 ho;refine aP (lim:=9) (n:=10) aI PX1_ok rfl rfl ?_;rw[pm_tree];have ha:anyM cs h=polM (cs.map al) h:=rfl;rw[ha];refine⟨kv _ rfl _ _ _ _ h,ah (by unfold le;rw[hk];exact ap (Nat.zero_le _)) ?_⟩;cases polM (cs.map al) h with
  |false=>rfl
  |true=>intro _;rfl
 ·cases h
def RPL0:Tab:=⟨addT noT 93 rmatT,noL,bk 9⟩
theorem RPL0_ok:TabOk3 Qq RPL0:=⟨bg aW rmat_ok,aX,aE 9⟩
theorem rpl_round(h:List UInt8)(mo:Int)(x:Value)(n:Nat)(cs:List V)(ag i:Int)(R:Qz):aJ Qq RPL0 9 10 (ar 9) 56 26 [1,2,4,5] [.str h,.ptr 0 0,.bool false,.int .i64 i] [.row [.int .u8 mo,.lst x n cs,.int .i64 ag] 62 3] R=
  (
 bif decide (i<(↑n:Int))then bif decide (0≤i)&&decide (i<(↑n:Int))then bif (i.toNat*1).blt cs.length then bif aw (cs.getD (i.toNat*1) (.bool false))
 then bif aF (al (cs.getD (i.toNat*1) (.bool false)))&&aF h then bif dX (al (cs.getD (i.toNat*1) (.bool false))) h then R .ret [some (.str
 h),some (.ptr 0 0),some (.bool true),some (.int i64 i)] [.row [.int u8 mo,.lst x n cs,.int i64 ag] 62 3]else R .normal [some
 (.str h),some (.ptr 0 0),some (.bool false),some (.int i64 (i64.wrap (i+1)))] [.row [.int u8 mo,.lst x n cs,.int i64 ag]
 62 3]else False else False else False else False else R (.exit 0) [some (.str h),some (.ptr 0 0),some (.bool false),some (.int i64 i)] [.row [.int
 u8 mo,.lst x n cs,.int i64 ag] 62 3]):=by kernel_rfl
structure RPX where
 h:List UInt8
 mo:Int
 x:Value
 n:Nat
 cs:List V
 ag:Int
 i:Nat
def rpxV(y:RPX):List V:=[.str y.h,.ptr 0 0,.bool false,.int .i64 y.i]
def rpxJ(y:RPX):St:=[.row [.int .u8 y.mo,.lst y.x y.n y.cs,.int .i64 y.ag] 62 3]
def lenA(cs:List V):Bool:=(cs.map al).all aF
def iH(y:RPX):Bool:=okS y.n y.cs&&(Nat.ble y.i y.n&&(lenA y.cs&&aF y.h))
def rpxMu(y:RPX):Nat:=y.n-y.i
def rpxDec:List (Option V)→St→Option RPX
 |[some (.str h),some (.ptr c 0),some (.bool false),some (.int .i64 0)],st=>match st[c]? with
  |some (.row [.int .u8 mo,.lst x n cs,.int .i64 ag] _ _)=>some ⟨h,mo,x,n,cs,ag,0⟩
  |_=>none
 |_,_=>none
def kq(h:List UInt8)(b:Bool)(K:Exit→List V→St→Prop):Prop:=
 bif b then ∀i:Int,K .ret [.str h,.ptr 0 0,.bool true,.int .i64 i] [.dead]else ∀i:Int,K (.exit 0) [.str h,.ptr 0 0,.bool false,.int .i64 i] [.dead]
def rpxA(cs:List V)(i:Nat)(h:List UInt8):Bool:=polM ((cs.map al).drop i) h
def rpxOut:Asks RPX:=fun y K=>kq y.h (rpxA y.cs y.i y.h) K
theorem rpx_fits(h:List UInt8)(mo:Int)(x:Value)(n:Nat)(cs:List V)(ag i:Int)(t:TypeId):Fits 0 [.str h,.ptr 0 0,.bool false,.int .i64 i] [.row [.int .u8 mo,.lst x n cs,.int .i64 ag] t 3] [some (.str h),some (.ptr 0 0),some (.bool false),some (.int .i64 i)] [.row [.int .u8 mo,.lst x n cs,.int .i64 ag] t 3]:=
 ⟨[0],[.str h,.ptr 0 0,.bool false,.int .i64 i],rfl,rfl,FitsM.of ⟨.inr ⟨_,.inl rfl,rfl⟩,trivial⟩,by simp,fun i hi=>by omega⟩
theorem rpx_out(h:List UInt8)(b:Bool)(i:Int)(st:St):Fits 0 [.str h,.ptr 0 0,.bool b,.int .i64 i] [.dead] [some (.str h),some (.ptr 0 0),some (.bool b),some (.int .i64 i)] st:=
 ⟨[0],[.str h,.ptr 0 0,.bool b,.int .i64 i],rfl,rfl,FitsM.of ⟨.inl rfl,trivial⟩,by decide,fun i hi=>by omega⟩
theorem rpx_roundOk(y:RPX)(hy:iH y=true):aJ Qq RPL0 9 10 (ar 9) 56 26 [1,2,4,5] (rpxV y) (rpxJ y) (aQ 0 iH rpxV rpxJ rpxMu rpxOut y):=by
 obtain⟨h,mo,x,n,cs,ag,i⟩:=y;unfold iH at hy;simp only[af]at hy;have hx1:okS n cs=true:=hy.1;have p1:i≤n:=aD hy.2.1;have hla:lenA cs=true:=hy.2.2.1;have hlh:aF h=true:=hy.2.2.2;obtain⟨l,rfl,rfl,p2,p3⟩:=gF hx1;have hall:l.all aF=true:=by unfold lenA at hla;rw[bV]at hla;exact hla
 show aJ Qq RPL0 9 10 (ar 9) 56 26 [1,2,4,5] [.str h,.ptr 0 0,.bool false,.int .i64 i] [.row [.int .u8 mo,.lst x l.length (strs l),.int .i64 ag] 62 3] _;rw[rpl_round];have out:∀K,rpxOut ⟨h,mo,x,l.length,strs l,ag,i⟩ K→kq h (polM (l.drop i) h) K:=fun K hK=>by
  have hK:kq h (rpxA (strs l) i h) K:=hK;unfold rpxA at hK;rw[bV]at hK;exact hK
 cases hd:l.drop i with
 |nil=>
  rw[decide_eq_false (show ¬((i:Int)<(l.length:Int)) by have:=fR hd p1;omega),ai];refine⟨_,_,fun K hK=>?_,rpx_out h false i _⟩;have hK:=out K hK;rw[hd]at hK;exact hK i
 |cons c r=>
  obtain⟨e1,e2,e3⟩:=ef hd;obtain⟨e4,e5⟩:=kp hd;have hc:aF c=true:=List.all_eq_true.1 hall c (List.mem_of_mem_drop (by rw[hd];simp));have q1:decide ((i:Int)<(l.length:Int))=true:=az (by omega);have q2:decide ((0:Int)≤(i:Int))=true:=az (by omega);simp only[q1,q2,bK,e4,e5,aw,al,hc,hlh,ac,Bool.and_true,Bool.and_self,show i64.wrap ((i:Int)+1)=((i+1:Nat):Int) by rw[IntWalk.i64_in _ ⟨by omega,by omega⟩];omega];have next:polM (c::r) h=(dX c h||polM r h):=rfl
  refine ao (fun e=>?_) (fun e=>?_)
  ·refine⟨_,_,fun K hK=>?_,rpx_out h true i _⟩;have hK:=out K hK;rw[hd,next,e]at hK;exact hK i
  ·refine⟨⟨h,mo,x,l.length,strs l,ag,i+1⟩,?_,rpx_fits h mo x l.length (strs l) ag _ _,by simp only[rpxMu];omega,fun K hK=>?_⟩
   ·unfold iH;simp only[af];exact⟨hx1,ap (show i+1≤l.length by omega),hla,hlh⟩
   ·have hK:=out K hK;rw[hd,next,e,Bool.false_or]at hK;show kq h (rpxA (strs l) (i+1) h) K;unfold rpxA;rw[bV,e2];exact hK
def lkRPX:Nat→Trans→Trans:=bq 26 (dc 0 (szOf Qq 56) [1,2,4,5] rpxDec iH rpxV rpxJ rpxOut) (ar 9)
theorem lkRPX_ok:ba Qq 0 lkRPX 56:=by
 unfold lkRPX;exact cx (bJ 9 0 56) (by kernel_rfl) fun f st Q h=>bO (P:=Qq) (T:=RPL0) (k:=0) (lim:=9) (n:=10) (g:=56) (p0:=26) (lk:=ar 9) aI RPL0_ok (bt 9 _ _) rpxMu rpx_roundOk h
def RPL1:Tab:=⟨noT,noL,er (bk 9) 56 0 lkRPX⟩
theorem RPL1_ok:TabOk3 Qq RPL1:=⟨aW,aX,cD (aE 9) lkRPX_ok⟩
theorem rpl_tree(mo:Int)(x:Value)(n:Nat)(cs:List V)(ag:Int)(h:List UInt8)(R:V→Prop):runW Qq RPL1 9 10 56 [.agg [.int .u8 mo,.lst x n cs,.int .i64 ag],.str h] R=
  (
 Fits 0 [.str h,.ptr 0 0,.bool false,.int i64 0] [.row [.int u8 mo,.lst x n cs,.int i64 ag] 62 3] [some (.str h),some (.ptr 0 0),
 some (.bool false),some (.int i64 0)] [.row [.int u8 mo,.lst x n cs,.int i64 ag] 62 3]∧bif iH {h:=h,mo:=mo,x:=x,n:=n,cs:=cs,ag:=ag,i:=0}
 then bif rpxA cs 0 h then ∀(i:Int),R (.bool true)else ∀(i:Int),R (.bool false)else False):=by kernel_rfl
def rpolT:List V→Option (Qx)
 |[.agg [.int .u8 _,.lst _ n cs,.int .i64 _],.str h]=>some [(okS n cs&&(lenA cs&&aF h),(.bool (polM (cs.map al) h),[]))]
 |_=>none
theorem rpolT_ok(args:List V)(L:Qx)(o:V×St)(h:rpolT args=some L)(ho:aO L=some o):FnSat Qq 56 args [] (Is o):=by
 unfold rpolT at h;split at h
 ·rename_i mo x n cs ag h;cases h;obtain⟨hk,rfl⟩:=a7 ho;simp only[af]at hk;refine aP (lim:=9) (n:=10) aI RPL1_ok rfl rfl ?_;rw[rpl_tree];have ha:rpxA cs 0 h=polM (cs.map al) h:=rfl;rw[ha];refine⟨rpx_fits h mo x n cs ag 0 _,ah ?_ ?_⟩
  ·unfold iH;simp only[af];exact⟨hk.1,ap (Nat.zero_le _),hk.2.1,hk.2.2⟩
  ·cases polM (cs.map al) h with
   |false=>intro _;rfl
   |true=>intro _;rfl
 ·cases h
structure IN where
 x:Value
 n:Nat
 cs:List V
 s:List UInt8
 i:Nat
structure AN where
 x:Value
 n:Nat
 cs:List V
 now:Int
 y:Value
 m:Nat
 ds:List V
 i:Nat
end Go.Proofs.YtebkeppoicllmaaGreatDoor
namespace Go.Proofs.YtebkeppoicllmaaGreatDoor
open Go Go.Vm Go.RowKit
variable [Φ:Frz]
section
variable {h:List UInt8} {now:Int} {an:List (List UInt8)} {c:CR} {r:List CR}
end
end Go.Proofs.YtebkeppoicllmaaGreatDoor
namespace Go.Proofs.YtebkeppoicllmaaGreatDoor
open Go Go.Vm Go.RowKit
variable [Φ:Frz]
theorem mK{Φ Ψ:Frz}{m m':List MB}{p:V}{b:List V}{f:Value→V}(hf:∀y,@real _ Φ m p=some y→@real _ Ψ m' (f y)=some y)(hb:cu b=true):∀(a:List V) (xs:List Value),cu a=true→@ak _ Φ m (a++p::b)=some xs→∃y,@ak _ Ψ m' (a++f y::b)=some xs
 |[],xs,_,h=>by
  obtain⟨y,r,q1,q2,rfl⟩:=@aq _ Φ m _ _ _ h;exact⟨y,@aL _ Ψ m' _ _ _ _ (hf y q1) (bU _ _ hb q2)⟩
 |v::a,xs,ha,h=>by
  obtain⟨z,r,q1,q2,rfl⟩:=@aq _ Φ m _ _ _ h;simp only[cu,af]at ha;obtain⟨y,hy⟩:=mK hf hb a r ha.2 q2;exact⟨y,@aL _ Ψ m' _ _ _ _ (fY _ _ ha.1 q1) hy⟩
theorem kD{Φ Ψ:Frz}{m m':List MB}{p:V}{b:List V}{f:Value→V}(hf:∀y,@real _ Φ m p=some y→@real _ Ψ m' (f y)=some y)(a:List V)(ha:cu a=true)(hb:cu b=true){x:Value}(h:@real _ Φ m (.agg (a++p::b))=some x):∃y,@real _ Ψ m' (.agg (a++f y::b))=some x:=by
 obtain⟨xs,h0,rfl⟩:=@c8 _ Φ m _ _ h;obtain⟨y,hy⟩:=mK hf hb a xs ha h0;exact⟨y,by simp only[real,hy]⟩
end Go.Proofs.YtebkeppoicllmaaGreatDoor
namespace Go.Proofs.YtebkeppoicllmaaGreatDoor
open Go.IntKind (u8 u16 u32 u64 i8 i16 i32 i64)
open Go Go.Vm Go.RowKit
theorem nP{Φ:Frz}{B:Nat}{W0 w:World}{m:List MB}{st:St}(hr:Rel B W0 m st w){b:Nat}{cs:List V}{t:TypeId}{sz:Nat}(hb:st[b]?=some (.row cs t sz))(hv:cs.all gI=true){x:Value}(hx:real m (.ptr b 0)=some x):∃y,@real _ (Frz.of w) [] (.lptr y 1 cs 0)=some x:=by
 obtain⟨e,he,hk⟩:=hr.at hb;obtain⟨g1,g0,arr,xs,⟨fz,_,g2⟩,g3,g4,_⟩:=hk;have h0:@aH (Frz.of w) cs=some xs:=dD hr.more _ _ (gJ hv g3);have hx2:x=.pointer (some ⟨e.blk,e.off+0,none⟩):=by
  simp only[real]at hx;cases h1:at? m b with
  |none=>rw[h1]at hx;cases hx
  |some e'=>
   rw[h1]at hx;have:=bz h1;rw[he]at this;cases this;simpa using hx.symm
 subst hx2;refine⟨.slice (some ⟨e.blk,e.off,none⟩) 1 1,@dR _ (Frz.of w) [] e.blk e.off 1 1 0 cs xs arr t fz h0 (by omega) (by omega) g2 (fun i y hy=>?_)⟩;have h1:(arr.toList.take xs.length)[i]?=some y:=by rw[g4];exact hy
 have hi:i<xs.length:=(List.getElem?_eq_some_iff.1 hy).1;rw[List.getElem?_take_of_lt hi]at h1;rw[g0,Nat.zero_add];simpa using h1
variable [Φ:Frz]
theorem pl_tree(pl rq:Bool)(h:List UInt8)(mx:Bool)(co:Int)(se:Bool)(x1:Value)(n1:Nat)(c1:List V)(x2:Value)(n2:Nat)(c2:List V)(x3:Value)(n3:Nat)(c3:List V)(ha:Bool)(mo:Int)(x4:Value)(n4:Nat)(c4:List V)(ag:Int)(R:V→Prop):runW Qq T3 9 10 57 [.agg [.bool pl,.bool rq,.str h,.bool mx,.int .u8 co,.bool se,.lst x1 n1 c1,.lst x2 n2 c2,.lst x3 n3 c3,.bool ha,.int .u8 mo,.lst x4 n4 c4,.int .i64 ag]] R=
  (
 bif pl then R (.bool !rq)else R (.bool false)):=by kernel_rfl
theorem sy_tree(pl rq:Bool)(h:List UInt8)(mx:Bool)(co:Int)(se:Bool)(x1:Value)(n1:Nat)(c1:List V)(x2:Value)(n2:Nat)(c2:List V)(x3:Value)(n3:Nat)(c3:List V)(ha:Bool)(mo:Int)(x4:Value)(n4:Nat)(c4:List V)(ag:Int)(R:V→Prop):runW Qq T3 9 10 61 [.agg [.bool pl,.bool rq,.str h,.bool mx,.int .u8 co,.bool se,.lst x1 n1 c1,.lst x2 n2 c2,.lst x3 n3 c3,.bool ha,.int .u8 mo,.lst x4 n4 c4,.int .i64 ag]] R=
  (
 bif ha then bif mo==3 then R (.bool true)else R (.bool (mo==2))else R (.bool false)):=by kernel_rfl
def plT:List V→Option V
 |[.agg [.bool pl,.bool rq,.str _,.bool _,.int .u8 _,.bool _,.lst _ _ _,.lst _ _ _,.lst _ _ _,.bool _,.int .u8 _,.lst _ _ _,.int .i64 _]]=>some (.bool (pl&&!rq))
 |_=>none
def syB(ha:Bool)(mo:Int):Bool:=ha&&(mo==3||mo==2)
def syT:List V→Option V
 |[.agg [.bool _,.bool _,.str _,.bool _,.int .u8 _,.bool _,.lst _ _ _,.lst _ _ _,.lst _ _ _,.bool ha,.int .u8 mo,.lst _ _ _,.int .i64 _]]=>some (.bool (syB ha mo))
 |_=>none
theorem pl_ok(args:List V)(v:V)(h:plT args=some v):FnSat Qq 57 args [] (Is (v,[])):=by
 unfold plT at h;split at h
 ·cases h;refine aP (lim:=9) (n:=10) aI kg rfl rfl ?_;rename_i pl rq h mx co se x1 n1 c1 x2 n2 c2 x3 n3 c3 ha mo x4 n4 c4 ag;rw[pl_tree];cases pl<;>cases rq<;>rfl
 ·cases h
theorem sy_ok(args:List V)(v:V)(h:syT args=some v):FnSat Qq 61 args [] (Is (v,[])):=by
 unfold syT at h;split at h
 ·cases h;refine aP (lim:=9) (n:=10) aI kg rfl rfl ?_;rename_i pl rq h mx co se x1 n1 c1 x2 n2 c2 x3 n3 c3 ha mo x4 n4 c4 ag;rw[sy_tree];unfold syB;cases ha<;>cases mo==3<;>rfl
 ·cases h
def EF:Tab:=⟨addP noT 57 plT,noL,bk 9⟩
theorem nB:TabOk3 Qq EF:=⟨bh aW pl_ok,aX,aE 9⟩
theorem ef_tree(pl rq:Bool)(h:List UInt8)(mx:Bool)(co:Int)(se:Bool)(x1:Value)(n1:Nat)(c1:List V)(x2:Value)(n2:Nat)(c2:List V)(x3:Value)(n3:Nat)(c3:List V)(ha:Bool)(mo:Int)(x4:Value)(n4:Nat)(c4:List V)(ag:Int)(R:V→Prop):runW Qq EF 9 10 63 [.agg [.bool pl,.bool rq,.str h,.bool mx,.int .u8 co,.bool se,.lst x1 n1 c1,.lst x2 n2 c2,.lst x3 n3 c3,.bool ha,.int .u8 mo,.lst x4 n4 c4,.int .i64 ag]] R=
  (
 bif !(pl&&!rq)then bif ha then R (.bool (mo==3))else R (.bool false)else R (.bool false)):=by kernel_rfl
def efB(pl rq ha:Bool)(mo:Int):Bool:=!(pl&&!rq)&&(ha&&mo==3)
def efT:List V→Option V
 |[.agg [.bool pl,.bool rq,.str _,.bool _,.int .u8 _,.bool _,.lst _ _ _,.lst _ _ _,.lst _ _ _,.bool ha,.int .u8 mo,.lst _ _ _,.int .i64 _]]=>some (.bool (efB pl rq ha mo))
 |_=>none
theorem ef_ok(args:List V)(v:V)(h:efT args=some v):FnSat Qq 63 args [] (Is (v,[])):=by
 unfold efT at h;split at h
 ·cases h;refine aP (lim:=9) (n:=10) aI nB rfl rfl ?_;rename_i pl rq h mx co se x1 n1 c1 x2 n2 c2 x3 n3 c3 ha mo x4 n4 c4 ag;rw[ef_tree];unfold efB;cases pl<;>cases rq<;>cases ha<;>rfl
 ·cases h
def KN:Tab:=⟨addT (addP (addP noT 57 plT) 61 syT) 36 polT,noL,bk 9⟩
theorem KN_ok:TabOk3 Qq KN:=⟨bg (bh (bh aW pl_ok) sy_ok) polT_ok,aX,aE 9⟩
theorem kn_tree(pl rq:Bool)(h:List UInt8)(mx:Bool)(co:Int)(se:Bool)(x1:Value)(n1:Nat)(c1:List V)(x2:Value)(n2:Nat)(c2:List V)(x3:Value)(n3:Nat)(c3:List V)(ha:Bool)(mo:Int)(x4:Value)(n4:Nat)(c4:List V)(ag:Int)(z:Value)(R:V→Prop):runW Qq KN 9 10 60 [.lptr z 1 [.bool pl,.bool rq,.str h,.bool mx,.int .u8 co,.bool se,.lst x1 n1 c1,.lst x2 n2 c2,.lst x3 n3 c3,.bool ha,.int .u8 mo,.lst x4 n4 c4,.int .i64 ag] 0] R=
  (
 bif mx then R (.bool true)else bif syB ha mo then bif okS n4 c4 then R (.bool (polM (List.map al c4) h))else False else R (.bool false)):=by kernel_rfl
theorem kd_tree(pl rq:Bool)(h:List UInt8)(mx:Bool)(co:Int)(se:Bool)(x1:Value)(n1:Nat)(c1:List V)(x2:Value)(n2:Nat)(c2:List V)(x3:Value)(n3:Nat)(c3:List V)(ha:Bool)(mo:Int)(x4:Value)(n4:Nat)(c4:List V)(ag:Int)(z:Value)(sec:Bool)(z2:Value)(R:V→Prop):runW Qq KN 9 10 62 [.lptr z 1 [.bool pl,.bool rq,.str h,.bool mx,.int .u8 co,.bool se,.lst x1 n1 c1,.lst x2 n2 c2,.lst x3 n3 c3,.bool ha,.int .u8 mo,.lst x4 n4 c4,.int .i64 ag] 0,.lptr z2 1 [.bool sec] 0] R=
  (
 bif pl&&!rq then R (.int u8 0)else bif sec then R (.int u8 1)else bif syB ha mo then R (.int u8 2)else R (.int u8 3)):=by kernel_rfl
def knB(mx ha:Bool)(mo:Int)(c4:List V)(h:List UInt8):Bool:=mx||(syB ha mo&&polM (c4.map al) h)
def kdI(pl rq sec ha:Bool)(mo:Int):Int:=bif pl&&!rq then 0 else bif sec then 1 else bif syB ha mo then 2 else 3
def knG:List V→St→Option (Qx)
 |[.ptr b 0],st=>match st[b]? with
  |some (.row [.bool pl,.bool rq,.str h,.bool mx,.int .u8 co,.bool se,.lst x1 n1 c1,.lst x2 n2 c2,.lst x3 n3 c3,.bool ha,.int .u8 mo,.lst x4 n4 c4,.int .i64 ag] _ _)=>some [(okS n4 c4,(.bool (knB mx ha mo c4 h),st))]
  |_=>none
 |_,_=>none
theorem knG_ok(args:List V)(s:St)(L:Qx)(o:V×St)(h:knG args s=some L)(ho:aO L=some o):FnSat Qq 60 args s (Is o):=by
 unfold knG at h;split at h
 ·rename_i b;split at h
  ·rename_i pl rq hh mx co se x1 n1 c1 x2 n2 c2 x3 n3 c3 ha mo x4 n4 c4 ag t sz hb;cases h;obtain⟨hk,rfl⟩:=a7 ho;refine jp rfl fun B W0 w m rargs hr hargs=>?_;obtain⟨a,r,q1,q2,rfl⟩:=aq hargs;simp only[ak,ad]at q2;subst q2;obtain⟨z,hz⟩:=nP hr hb rfl q1;refine⟨[.lptr z 1 [.bool pl,.bool rq,.str hh,.bool mx,.int .u8 co,.bool se,.lst x1 n1 c1,.lst x2 n2 c2,.lst x3 n3 c3,.bool ha,.int .u8 mo,.lst x4 n4 c4,.int .i64 ag] 0],@aL _ (Frz.of w) [] _ _ _ _ hz rfl,?_⟩;refine aP (Φ:=Frz.of w) (lim:=9) (n:=10) aI (@KN_ok (Frz.of w)) rfl rfl ?_;rw[@kn_tree (Frz.of w),hk];unfold knB;cases mx<;>cases syB ha mo<;>rfl
  ·cases h
 ·cases h
def kdG:List V→St→Option (Qx)
 |[.ptr b 0,.ptr b2 0],st=>match st[b]?,st[b2]? with
  |some (.row [.bool pl,.bool rq,.str h,.bool mx,.int .u8 co,.bool se,.lst x1 n1 c1,.lst x2 n2 c2,.lst x3 n3 c3,.bool ha,.int .u8 mo,.lst x4 n4 c4,.int .i64 ag] _ _),some (.row [.bool sec] _ _)=>some [(true,(.int .u8 (kdI pl rq sec ha mo),st))]
  |_,_=>none
 |_,_=>none
theorem kdG_ok(args:List V)(s:St)(L:Qx)(o:V×St)(h:kdG args s=some L)(ho:aO L=some o):FnSat Qq 62 args s (Is o):=by
 unfold kdG at h;split at h
 ·rename_i b b2;split at h
  ·rename_i pl rq hh mx co se x1 n1 c1 x2 n2 c2 x3 n3 c3 ha mo x4 n4 c4 ag t sz sec t2 sz2 hb hb2;cases h;obtain⟨hk,rfl⟩:=a7 ho;refine jp rfl fun B W0 w m rargs hr hargs=>?_;obtain⟨a,r,q1,q2,rfl⟩:=aq hargs;obtain⟨a2,r2,q3,q4,rfl⟩:=aq q2;simp only[ak,ad]at q4;subst q4;obtain⟨z,hz⟩:=nP hr hb rfl q1;obtain⟨z2,hz2⟩:=nP hr hb2 rfl q3;refine⟨[.lptr z 1 [.bool pl,.bool rq,.str hh,.bool mx,.int .u8 co,.bool se,.lst x1 n1 c1,.lst x2 n2 c2,.lst x3 n3 c3,.bool ha,.int .u8 mo,.lst x4 n4 c4,.int .i64 ag] 0,.lptr z2 1 [.bool sec] 0],@aL _ (Frz.of w) [] _ _ _ _ hz (@aL _ (Frz.of w) [] _ _ _ _ hz2 rfl),?_⟩;refine aP (Φ:=Frz.of w) (lim:=9) (n:=10) aI (@KN_ok (Frz.of w)) rfl rfl ?_;rw[@kd_tree (Frz.of w)];unfold kdI;cases(pl&&!rq)<;>cases sec<;>cases syB ha mo<;>rfl
  ·cases h
 ·cases h
def clOK(p:V)(st:St):Bool:=match dy st p with
 |some (b,l)=>b&&Nat.ble l.length 4
 |none=>false
def clL(p:V)(st:St):List TL:=match dy st p with
 |some (_,l)=>l
 |none=>[]
def clN(p:V)(st:St):Nat:=(clL p st).length
def clC(p:V)(st:St):List V:=tls (clL p st)
def oE(OK:V→St→Bool)(NV:V→St→Nat)(CV:V→St→List V):List V→St→Option (Qx)
 |[.slice b off n ex c z],st=>some [(OK (.slice b off n ex c z) st,(.slice st.length 0 (NV (.slice b off n ex c z) st) false 0 0,st++[.row (CV (.slice b off n ex c z) st) 72 4]))]
 |_,_=>none
theorem mr:∀l:List TL,cu (tls l)=true
 |[]=>rfl
 |r::l=>by simp only[tls,cu,V.plain,mr l,Bool.and_self]
theorem clone_sat(a:Value)(l:List TL)(hn:nilX a=false)(h1:l.length≤4):FnSat Qq 58 [lstT a l] [] (Is (.slice 0 0 l.length false 0 0,[.row (tls l) 72 4])):=by
 refine FnSat.fits (eE aI kg ?_ (lim:=9) (n:=10));unfold lstT;rw[gk,hn,ai];refine ao (fun e=>?_) (fun _=>?_)
 ·have:=List.eq_nil_of_length_eq_zero (aC e);subst this;exact bW rfl rfl
 ·refine ah (by rw[ci,Nat.mul_comm,Nat.beq_refl,oneT];rfl) (ah (by rw[af];exact⟨ap (by omega),ap (by omega)⟩) ?_);rw[Nat.zero_add];exact bW (bR l) rfl
theorem lW(args:List V)(s:St)(L:Qx)(o:V×St)(h:oE clOK clN clC args s=some L)(ho:aO L=some o):FnSat Qq 58 args s (Is o):=by
 unfold oE at h;split at h
 ·rename_i b off n ex c z;cases h;obtain⟨hk,rfl⟩:=a7 ho;unfold clOK at hk;unfold clN clC clL;cases hv:dy s (.slice b off n ex c z)with
  |none=>rw[hv]at hk;cases hk
  |some a=>
  obtain⟨k,l⟩:=a;rw[hv]at hk;simp only[af]at hk;obtain⟨rfl,h1⟩:=hk;have h1:l.length≤4:=aD h1;show FnSat _ _ _ _ (Is (.slice s.length 0 l.length false 0 0,s++[.row (tls l) 72 4]));refine frz_row (mr l) fun B W0 w m rargs hr ha=>?_;obtain⟨a,r,q1,q2,rfl⟩:=aq ha;have e1:=fG hr hv q1;have hn:nilX a=false:=by
   obtain⟨e,cap,_,_,_,rfl⟩:=bp q1;rfl
  refine⟨[lstT a l],@aL _ (Frz.of w) [] _ _ _ _ e1 (bU _ _ rfl q2),@clone_sat (Frz.of w) a l hn h1⟩
 ·cases h
def TLT(OK:V→St→Bool)(NV:V→St→Nat)(CV:V→St→List V):Tab:=⟨addT (addP (addP (addP noT 57 plT) 61 syT) 63 efT) 59 usaT,addS (addS (addS noL 60 knG) 62 kdG) 58 (oE OK NV CV),bk 9⟩
theorem TLT_ok:TabOk3 Qq (TLT clOK clN clC):=⟨bg (bh (bh (bh aW pl_ok) sy_ok) ef_ok) usa_ok,fx (fx (fx aX knG_ok) kdG_ok) lW,aE 9⟩
def blkOf(v:V)(st:St):Option Blk:=match v with
 |.tuple [.agg [_,.slice b _ _ _ _ _,_,_,_],_]=>st[b]?
 |_=>none
def ae(pl rq:Bool)(h:List UInt8)(mx:Bool)(co:Int)(se:Bool)(x1:Value)(n1:Nat)(c1:List V)(x2:Value)(n2:Nat)(c2:List V)(x3:Value)(n3:Nat)(c3:List V)(ha:Bool)(mo:Int)(x4:Value)(n4:Nat)(c4:List V)(ag:Int):Blk:=.row [.bool pl,.bool rq,.str h,.bool mx,.int .u8 co,.bool se,.lst x1 n1 c1,.lst x2 n2 c2,.lst x3 n3 c3,.bool ha,.int .u8 mo,.lst x4 n4 c4,.int .i64 ag] 58 13
theorem tell_tree(OK:V→St→Bool)(NV:V→St→Nat)(CV:V→St→List V)(pl rq:Bool)(h:List UInt8)(mx:Bool)(co:Int)(se:Bool)(x1:Value)(n1:Nat)(c1:List V)(x2:Value)(n2:Nat)(c2:List V)(x3:Value)(n3:Nat)(c3:List V)(ha:Bool)(mo:Int)(x4:Value)(n4:Nat)(c4:List V)(ag:Int)(R:V→Option Blk→Prop):runM Qq (TLT OK NV CV) 9 10 27 [.agg [.bool pl,.bool rq,.str h,.bool mx,.int .u8 co,.bool se,.lst x1 n1 c1,.lst x2 n2 c2,.lst x3 n3 c3,.bool ha,.int .u8 mo,.lst x4 n4 c4,.int .i64 ag]] (fun v st=>R v (blkOf v st))=
  (
 bif !(pl&&!rq)then bif co==1 then bif se then bif decide ((↑n3:Int)>0)then bif okT n3 c3&&nilX (ec x3 0 (k4 n3) 4)then bif rq then bif okS n4 c4 then bif
 !knB mx ha mo c4 h then R (.tuple [.agg [.str [],.nilSlice,.bool false,.bool false,.int u8 0],.bool false]) none else bif rq then bif decide ((↑n3:
 Int)>0)then R (.tuple [.agg [.str h,.nilSlice,.bool true,.bool true,.int u8 (kdI pl rq (decide ((↑n3:Int)>0)) ha mo)],.bool true]) none else R
 (.tuple [.agg [.str h,.nilSlice,.bool true,.bool true,.int u8 (kdI pl rq (decide ((↑n3:Int)>0)) ha mo)],.bool true]) none else bif decide ((↑n3:
 Int)>0)then R (.tuple [.agg [.str h,.nilSlice,.bool (efB pl rq ha mo),.bool true,.int u8 (kdI pl rq (decide ((↑n3:Int)>0)) ha mo)],.bool
 true]) none else R (.tuple [.agg [.str h,.nilSlice,.bool (efB pl rq ha mo),.bool (efB pl rq ha mo),.int u8 (kdI pl rq (decide ((↑n3:Int)>0)) ha
 mo)],.bool true]) none else False else bif rq then bif decide ((↑n3:Int)>0)then R (.tuple [.agg [.str h,.nilSlice,.bool true,.bool true,.int u8
 (kdI pl rq (decide ((↑n3:Int)>0)) ha mo)],.bool true]) none else R (.tuple [.agg [.str h,.nilSlice,.bool true,.bool true,.int u8 (kdI pl rq
 (decide ((↑n3:Int)>0)) ha mo)],.bool true]) none else bif decide ((↑n3:Int)>0)then R (.tuple [.agg [.str h,.nilSlice,.bool (efB pl rq ha mo),.bool
 true,.int u8 (kdI pl rq (decide ((↑n3:Int)>0)) ha mo)],.bool true]) none else R (.tuple [.agg [.str h,.nilSlice,.bool (efB pl rq ha mo),.bool
 (efB pl rq ha mo),.int u8 (kdI pl rq (decide ((↑n3:Int)>0)) ha mo)],.bool true]) none else bif okT n3 c3 then bif OK (.slice 4 0 (ab (usaL c3)).length
 false 0 0) [ae pl rq h mx co se x1 n1 c1 x2 n2 c2 x3 n3 c3 ha mo x4 n4 c4 ag,.row [.str [],.nilSlice,.bool false,.bool false,.int u8 0] 38 5,
 .row [.bool (decide ((↑n3:Int)>0))] 4 1,.row [.str h,.nilSlice,.bool false,.bool false,.int u8 0] 38 5,.row (aa 4 (tls (ab (usaL
 c3))++aK (usaL c3))) 72 4]then bif rq then bif !decide ((↑(NV (.slice 4 0 (ab (usaL c3)).length false 0 0) [ae pl rq h mx co se x1 n1 c1 x2 n2 c2 x3 n3 c3
 ha mo x4 n4 c4 ag,.row [.str [],.nilSlice,.bool false,.bool false,.int u8 0] 38 5,.row [.bool (decide ((↑n3:Int)>0))] 4 1,.row [.str h,
 .nilSlice,.bool false,.bool false,.int u8 0] 38 5,.row (aa 4 (tls (ab (usaL c3))++aK (usaL c3))) 72 4]):Int)>0)then bif okS n4 c4
 then bif !knB mx ha mo c4 h then R (.tuple [.agg [.str [],.nilSlice,.bool false,.bool false,.int u8 0],.bool false]) none else bif !decide ((↑(NV
 (.slice 4 0 (ab (usaL c3)).length false 0 0) [ae pl rq h mx co se x1 n1 c1 x2 n2 c2 x3 n3 c3 ha mo x4 n4 c4 ag,.row [.str [],.nilSlice,.bool false,
 .bool false,.int u8 0] 38 5,.row [.bool (decide ((↑n3:Int)>0))] 4 1,.row [.str h,.nilSlice,.bool false,.bool false,.int u8 0] 38
 5,.row (aa 4 (tls (ab (usaL c3))++aK (usaL c3))) 72 4]):Int)>0)then bif rq then bif decide ((↑n3:Int)>0)then R (.tuple [.agg [.str h,
 .slice 5 0 (NV (.slice 4 0 (ab (usaL c3)).length false 0 0) [ae pl rq h mx co se x1 n1 c1 x2 n2 c2 x3 n3 c3 ha mo x4 n4 c4 ag,.row [.str [],.nilSlice,
 .bool false,.bool false,.int u8 0] 38 5,.row [.bool (decide ((↑n3:Int)>0))] 4 1,.row [.str h,.nilSlice,.bool false,.bool false,.int
 u8 0] 38 5,.row (aa 4 (tls (ab (usaL c3))++aK (usaL c3))) 72 4]) false 0 0,.bool true,.bool true,.int u8 (kdI pl rq (decide ((↑n3:
 Int)>0)) ha mo)],.bool true]) (some (.row (CV (.slice 4 0 (ab (usaL c3)).length false 0 0) [ae pl rq h mx co se x1 n1 c1 x2 n2 c2 x3 n3 c3 ha mo x4 n4 c4
 ag,.row [.str [],.nilSlice,.bool false,.bool false,.int u8 0] 38 5,.row [.bool (decide ((↑n3:Int)>0))] 4 1,.row [.str h,.nilSlice,
 .bool false,.bool false,.int u8 0] 38 5,.row (aa 4 (tls (ab (usaL c3))++aK (usaL c3))) 72 4]) 72 4))else R (.tuple [.agg [.str h,
 .slice 5 0 (NV (.slice 4 0 (ab (usaL c3)).length false 0 0) [ae pl rq h mx co se x1 n1 c1 x2 n2 c2 x3 n3 c3 ha mo x4 n4 c4 ag,.row [.str [],.nilSlice,
 .bool false,.bool false,.int u8 0] 38 5,.row [.bool (decide ((↑n3:Int)>0))] 4 1,.row [.str h,.nilSlice,.bool false,.bool false,.int
 u8 0] 38 5,.row (aa 4 (tls (ab (usaL c3))++aK (usaL c3))) 72 4]) false 0 0,.bool true,.bool true,.int u8 (kdI pl rq (decide ((↑n3:
 Int)>0)) ha mo)],.bool true]) (some (.row (CV (.slice 4 0 (ab (usaL c3)).length false 0 0) [ae pl rq h mx co se x1 n1 c1 x2 n2 c2 x3 n3 c3 ha mo x4 n4 c4
 ag,.row [.str [],.nilSlice,.bool false,.bool false,.int u8 0] 38 5,.row [.bool (decide ((↑n3:Int)>0))] 4 1,.row [.str h,.nilSlice,
 .bool false,.bool false,.int u8 0] 38 5,.row (aa 4 (tls (ab (usaL c3))++aK (usaL c3))) 72 4]) 72 4))else bif decide ((↑n3:Int)>0)then
 R (.tuple [.agg [.str h,.slice 5 0 (NV (.slice 4 0 (ab (usaL c3)).length false 0 0) [ae pl rq h mx co se x1 n1 c1 x2 n2 c2 x3 n3 c3 ha mo x4 n4 c4 ag,
 .row [.str [],.nilSlice,.bool false,.bool false,.int u8 0] 38 5,.row [.bool (decide ((↑n3:Int)>0))] 4 1,.row [.str h,.nilSlice,.bool
 false,.bool false,.int u8 0] 38 5,.row (aa 4 (tls (ab (usaL c3))++aK (usaL c3))) 72 4]) false 0 0,.bool (efB pl rq ha mo),.bool true,
 .int u8 (kdI pl rq (decide ((↑n3:Int)>0)) ha mo)],.bool true]) (some (.row (CV (.slice 4 0 (ab (usaL c3)).length false 0 0) [ae pl rq h mx co se
 x1 n1 c1 x2 n2 c2 x3 n3 c3 ha mo x4 n4 c4 ag,.row [.str [],.nilSlice,.bool false,.bool false,.int u8 0] 38 5,.row [.bool (decide ((↑n3:Int)>
 0))] 4 1,.row [.str h,.nilSlice,.bool false,.bool false,.int u8 0] 38 5,.row (aa 4 (tls (ab (usaL c3))++aK (usaL c3))) 72 4]) 72 4))
 else R (.tuple [.agg [.str h,.slice 5 0 (NV (.slice 4 0 (ab (usaL c3)).length false 0 0) [ae pl rq h mx co se x1 n1 c1 x2 n2 c2 x3 n3 c3 ha mo x4 n4 c4 ag,
 .row [.str [],.nilSlice,.bool false,.bool false,.int u8 0] 38 5,.row [.bool (decide ((↑n3:Int)>0))] 4 1,.row [.str h,.nilSlice,.bool
 false,.bool false,.int u8 0] 38 5,.row (aa 4 (tls (ab (usaL c3))++aK (usaL c3))) 72 4]) false 0 0,.bool (efB pl rq ha mo),.bool (efB pl
 rq ha mo),.int u8 (kdI pl rq (decide ((↑n3:Int)>0)) ha mo)],.bool true]) (some (.row (CV (.slice 4 0 (ab (usaL c3)).length false 0 0) [ae pl rq
 h mx co se x1 n1 c1 x2 n2 c2 x3 n3 c3 ha mo x4 n4 c4 ag,.row [.str [],.nilSlice,.bool false,.bool false,.int u8 0] 38 5,.row [.bool (decide
 ((↑n3:Int)>0))] 4 1,.row [.str h,.nilSlice,.bool false,.bool false,.int u8 0] 38 5,.row (aa 4 (tls (ab (usaL c3))++aK (usaL
 c3))) 72 4]) 72 4))else bif decide ((↑n3:Int)>0)then R (.tuple [.agg [.str h,.slice 5 0 (NV (.slice 4 0 (ab (usaL c3)).length false 0 0) [ae pl rq h mx
 co se x1 n1 c1 x2 n2 c2 x3 n3 c3 ha mo x4 n4 c4 ag,.row [.str [],.nilSlice,.bool false,.bool false,.int u8 0] 38 5,.row [.bool (decide ((↑n3:
 Int)>0))] 4 1,.row [.str h,.nilSlice,.bool false,.bool false,.int u8 0] 38 5,.row (aa 4 (tls (ab (usaL c3))++aK (usaL c3))) 72 4])
 false 0 0,.bool false,.bool true,.int u8 (kdI pl rq (decide ((↑n3:Int)>0)) ha mo)],.bool true]) (some (.row (CV (.slice 4 0 (ab (usaL
 c3)).length false 0 0) [ae pl rq h mx co se x1 n1 c1 x2 n2 c2 x3 n3 c3 ha mo x4 n4 c4 ag,.row [.str [],.nilSlice,.bool false,.bool false,.int u8
 0] 38 5,.row [.bool (decide ((↑n3:Int)>0))] 4 1,.row [.str h,.nilSlice,.bool false,.bool false,.int u8 0] 38 5,.row (aa 4 (tls
 (ab (usaL c3))++aK (usaL c3))) 72 4]) 72 4))else R (.tuple [.agg [.str h,.slice 5 0 (NV (.slice 4 0 (ab (usaL c3)).length false 0 0) [ae pl rq h mx
 co se x1 n1 c1 x2 n2 c2 x3 n3 c3 ha mo x4 n4 c4 ag,.row [.str [],.nilSlice,.bool false,.bool false,.int u8 0] 38 5,.row [.bool (decide ((↑n3:
 Int)>0))] 4 1,.row [.str h,.nilSlice,.bool false,.bool false,.int u8 0] 38 5,.row (aa 4 (tls (ab (usaL c3))++aK (usaL c3))) 72 4])
 false 0 0,.bool false,.bool false,.int u8 (kdI pl rq (decide ((↑n3:Int)>0)) ha mo)],.bool true]) (some (.row (CV (.slice 4 0 (ab (usaL
 c3)).length false 0 0) [ae pl rq h mx co se x1 n1 c1 x2 n2 c2 x3 n3 c3 ha mo x4 n4 c4 ag,.row [.str [],.nilSlice,.bool false,.bool false,.int u8
 0] 38 5,.row [.bool (decide ((↑n3:Int)>0))] 4 1,.row [.str h,.nilSlice,.bool false,.bool false,.int u8 0] 38 5,.row (aa 4 (tls
 (ab (usaL c3))++aK (usaL c3))) 72 4]) 72 4))else False else bif !decide ((↑(NV (.slice 4 0 (ab (usaL c3)).length false 0 0) [ae pl rq h mx co se x1 n1
 c1 x2 n2 c2 x3 n3 c3 ha mo x4 n4 c4 ag,.row [.str [],.nilSlice,.bool false,.bool false,.int u8 0] 38 5,.row [.bool (decide ((↑n3:Int)>0))] 4
 1,.row [.str h,.nilSlice,.bool false,.bool false,.int u8 0] 38 5,.row (aa 4 (tls (ab (usaL c3))++aK (usaL c3))) 72 4]):Int)>0)
 then bif rq then bif decide ((↑n3:Int)>0)then R (.tuple [.agg [.str h,.slice 5 0 (NV (.slice 4 0 (ab (usaL c3)).length false 0 0) [ae pl rq h mx co se
 x1 n1 c1 x2 n2 c2 x3 n3 c3 ha mo x4 n4 c4 ag,.row [.str [],.nilSlice,.bool false,.bool false,.int u8 0] 38 5,.row [.bool (decide ((↑n3:Int)>
 0))] 4 1,.row [.str h,.nilSlice,.bool false,.bool false,.int u8 0] 38 5,.row (aa 4 (tls (ab (usaL c3))++aK (usaL c3))) 72 4]) false
 0 0,.bool true,.bool true,.int u8 (kdI pl rq (decide ((↑n3:Int)>0)) ha mo)],.bool true]) (some (.row (CV (.slice 4 0 (ab (usaL c3)).length
 false 0 0) [ae pl rq h mx co se x1 n1 c1 x2 n2 c2 x3 n3 c3 ha mo x4 n4 c4 ag,.row [.str [],.nilSlice,.bool false,.bool false,.int u8 0] 38 5,
 .row [.bool (decide ((↑n3:Int)>0))] 4 1,.row [.str h,.nilSlice,.bool false,.bool false,.int u8 0] 38 5,.row (aa 4 (tls (ab (usaL
 c3))++aK (usaL c3))) 72 4]) 72 4))else R (.tuple [.agg [.str h,.slice 5 0 (NV (.slice 4 0 (ab (usaL c3)).length false 0 0) [ae pl rq h mx co se x1 n1
 c1 x2 n2 c2 x3 n3 c3 ha mo x4 n4 c4 ag,.row [.str [],.nilSlice,.bool false,.bool false,.int u8 0] 38 5,.row [.bool (decide ((↑n3:Int)>0))] 4
 1,.row [.str h,.nilSlice,.bool false,.bool false,.int u8 0] 38 5,.row (aa 4 (tls (ab (usaL c3))++aK (usaL c3))) 72 4]) false 0 0,
 .bool true,.bool true,.int u8 (kdI pl rq (decide ((↑n3:Int)>0)) ha mo)],.bool true]) (some (.row (CV (.slice 4 0 (ab (usaL c3)).length false 0
 0) [ae pl rq h mx co se x1 n1 c1 x2 n2 c2 x3 n3 c3 ha mo x4 n4 c4 ag,.row [.str [],.nilSlice,.bool false,.bool false,.int u8 0] 38 5,.row
 [.bool (decide ((↑n3:Int)>0))] 4 1,.row [.str h,.nilSlice,.bool false,.bool false,.int u8 0] 38 5,.row (aa 4 (tls (ab (usaL c3))++
 aK (usaL c3))) 72 4]) 72 4))else bif decide ((↑n3:Int)>0)then R (.tuple [.agg [.str h,.slice 5 0 (NV (.slice 4 0 (ab (usaL c3)).length false 0 0)
 [ae pl rq h mx co se x1 n1 c1 x2 n2 c2 x3 n3 c3 ha mo x4 n4 c4 ag,.row [.str [],.nilSlice,.bool false,.bool false,.int u8 0] 38 5,.row
 [.bool (decide ((↑n3:Int)>0))] 4 1,.row [.str h,.nilSlice,.bool false,.bool false,.int u8 0] 38 5,.row (aa 4 (tls (ab (usaL c3))++
 aK (usaL c3))) 72 4]) false 0 0,.bool (efB pl rq ha mo),.bool true,.int u8 (kdI pl rq (decide ((↑n3:Int)>0)) ha mo)],.bool true]) (some (.row
 (CV (.slice 4 0 (ab (usaL c3)).length false 0 0) [ae pl rq h mx co se x1 n1 c1 x2 n2 c2 x3 n3 c3 ha mo x4 n4 c4 ag,.row [.str [],.nilSlice,.bool false,
 .bool false,.int u8 0] 38 5,.row [.bool (decide ((↑n3:Int)>0))] 4 1,.row [.str h,.nilSlice,.bool false,.bool false,.int u8 0] 38
 5,.row (aa 4 (tls (ab (usaL c3))++aK (usaL c3))) 72 4]) 72 4))else R (.tuple [.agg [.str h,.slice 5 0 (NV (.slice 4 0 (ab (usaL c3)).length
 false 0 0) [ae pl rq h mx co se x1 n1 c1 x2 n2 c2 x3 n3 c3 ha mo x4 n4 c4 ag,.row [.str [],.nilSlice,.bool false,.bool false,.int u8 0] 38 5,
 .row [.bool (decide ((↑n3:Int)>0))] 4 1,.row [.str h,.nilSlice,.bool false,.bool false,.int u8 0] 38 5,.row (aa 4 (tls (ab (usaL
 c3))++aK (usaL c3))) 72 4]) false 0 0,.bool (efB pl rq ha mo),.bool (efB pl rq ha mo),.int u8 (kdI pl rq (decide ((↑n3:Int)>0)) ha mo)],.bool
 true]) (some (.row (CV (.slice 4 0 (ab (usaL c3)).length false 0 0) [ae pl rq h mx co se x1 n1 c1 x2 n2 c2 x3 n3 c3 ha mo x4 n4 c4 ag,.row [.str [],
 .nilSlice,.bool false,.bool false,.int u8 0] 38 5,.row [.bool (decide ((↑n3:Int)>0))] 4 1,.row [.str h,.nilSlice,.bool false,.bool
 false,.int u8 0] 38 5,.row (aa 4 (tls (ab (usaL c3))++aK (usaL c3))) 72 4]) 72 4))else bif decide ((↑n3:Int)>0)then R (.tuple [.agg
 [.str h,.slice 5 0 (NV (.slice 4 0 (ab (usaL c3)).length false 0 0) [ae pl rq h mx co se x1 n1 c1 x2 n2 c2 x3 n3 c3 ha mo x4 n4 c4 ag,.row [.str [],
 .nilSlice,.bool false,.bool false,.int u8 0] 38 5,.row [.bool (decide ((↑n3:Int)>0))] 4 1,.row [.str h,.nilSlice,.bool false,.bool
 false,.int u8 0] 38 5,.row (aa 4 (tls (ab (usaL c3))++aK (usaL c3))) 72 4]) false 0 0,.bool false,.bool true,.int u8 (kdI pl rq
 (decide ((↑n3:Int)>0)) ha mo)],.bool true]) (some (.row (CV (.slice 4 0 (ab (usaL c3)).length false 0 0) [ae pl rq h mx co se x1 n1 c1 x2 n2 c2 x3 n3 c3
 ha mo x4 n4 c4 ag,.row [.str [],.nilSlice,.bool false,.bool false,.int u8 0] 38 5,.row [.bool (decide ((↑n3:Int)>0))] 4 1,.row [.str h,
 .nilSlice,.bool false,.bool false,.int u8 0] 38 5,.row (aa 4 (tls (ab (usaL c3))++aK (usaL c3))) 72 4]) 72 4))else R (.tuple [.agg
 [.str h,.slice 5 0 (NV (.slice 4 0 (ab (usaL c3)).length false 0 0) [ae pl rq h mx co se x1 n1 c1 x2 n2 c2 x3 n3 c3 ha mo x4 n4 c4 ag,.row [.str [],
 .nilSlice,.bool false,.bool false,.int u8 0] 38 5,.row [.bool (decide ((↑n3:Int)>0))] 4 1,.row [.str h,.nilSlice,.bool false,.bool
 false,.int u8 0] 38 5,.row (aa 4 (tls (ab (usaL c3))++aK (usaL c3))) 72 4]) false 0 0,.bool false,.bool false,.int u8 (kdI pl rq
 (decide ((↑n3:Int)>0)) ha mo)],.bool true]) (some (.row (CV (.slice 4 0 (ab (usaL c3)).length false 0 0) [ae pl rq h mx co se x1 n1 c1 x2 n2 c2 x3 n3 c3
 ha mo x4 n4 c4 ag,.row [.str [],.nilSlice,.bool false,.bool false,.int u8 0] 38 5,.row [.bool (decide ((↑n3:Int)>0))] 4 1,.row [.str h,
 .nilSlice,.bool false,.bool false,.int u8 0] 38 5,.row (aa 4 (tls (ab (usaL c3))++aK (usaL c3))) 72 4]) 72 4))else bif !decide ((↑(NV
 (.slice 4 0 (ab (usaL c3)).length false 0 0) [ae pl rq h mx co se x1 n1 c1 x2 n2 c2 x3 n3 c3 ha mo x4 n4 c4 ag,.row [.str [],.nilSlice,.bool false,
 .bool false,.int u8 0] 38 5,.row [.bool (decide ((↑n3:Int)>0))] 4 1,.row [.str h,.nilSlice,.bool false,.bool false,.int u8 0] 38
 5,.row (aa 4 (tls (ab (usaL c3))++aK (usaL c3))) 72 4]):Int)>0)then bif rq then bif decide ((↑n3:Int)>0)then R (.tuple [.agg [.str h,
 .slice 5 0 (NV (.slice 4 0 (ab (usaL c3)).length false 0 0) [ae pl rq h mx co se x1 n1 c1 x2 n2 c2 x3 n3 c3 ha mo x4 n4 c4 ag,.row [.str [],.nilSlice,
 .bool false,.bool false,.int u8 0] 38 5,.row [.bool (decide ((↑n3:Int)>0))] 4 1,.row [.str h,.nilSlice,.bool false,.bool false,.int
 u8 0] 38 5,.row (aa 4 (tls (ab (usaL c3))++aK (usaL c3))) 72 4]) false 0 0,.bool true,.bool true,.int u8 (kdI pl rq (decide ((↑n3:
 Int)>0)) ha mo)],.bool true]) (some (.row (CV (.slice 4 0 (ab (usaL c3)).length false 0 0) [ae pl rq h mx co se x1 n1 c1 x2 n2 c2 x3 n3 c3 ha mo x4 n4 c4
 ag,.row [.str [],.nilSlice,.bool false,.bool false,.int u8 0] 38 5,.row [.bool (decide ((↑n3:Int)>0))] 4 1,.row [.str h,.nilSlice,
 .bool false,.bool false,.int u8 0] 38 5,.row (aa 4 (tls (ab (usaL c3))++aK (usaL c3))) 72 4]) 72 4))else R (.tuple [.agg [.str h,
 .slice 5 0 (NV (.slice 4 0 (ab (usaL c3)).length false 0 0) [ae pl rq h mx co se x1 n1 c1 x2 n2 c2 x3 n3 c3 ha mo x4 n4 c4 ag,.row [.str [],.nilSlice,
 .bool false,.bool false,.int u8 0] 38 5,.row [.bool (decide ((↑n3:Int)>0))] 4 1,.row [.str h,.nilSlice,.bool false,.bool false,.int
 u8 0] 38 5,.row (aa 4 (tls (ab (usaL c3))++aK (usaL c3))) 72 4]) false 0 0,.bool true,.bool true,.int u8 (kdI pl rq (decide ((↑n3:
 Int)>0)) ha mo)],.bool true]) (some (.row (CV (.slice 4 0 (ab (usaL c3)).length false 0 0) [ae pl rq h mx co se x1 n1 c1 x2 n2 c2 x3 n3 c3 ha mo x4 n4 c4
 ag,.row [.str [],.nilSlice,.bool false,.bool false,.int u8 0] 38 5,.row [.bool (decide ((↑n3:Int)>0))] 4 1,.row [.str h,.nilSlice,
 .bool false,.bool false,.int u8 0] 38 5,.row (aa 4 (tls (ab (usaL c3))++aK (usaL c3))) 72 4]) 72 4))else bif decide ((↑n3:Int)>0)then
 R (.tuple [.agg [.str h,.slice 5 0 (NV (.slice 4 0 (ab (usaL c3)).length false 0 0) [ae pl rq h mx co se x1 n1 c1 x2 n2 c2 x3 n3 c3 ha mo x4 n4 c4 ag,
 .row [.str [],.nilSlice,.bool false,.bool false,.int u8 0] 38 5,.row [.bool (decide ((↑n3:Int)>0))] 4 1,.row [.str h,.nilSlice,.bool
 false,.bool false,.int u8 0] 38 5,.row (aa 4 (tls (ab (usaL c3))++aK (usaL c3))) 72 4]) false 0 0,.bool (efB pl rq ha mo),.bool true,
 .int u8 (kdI pl rq (decide ((↑n3:Int)>0)) ha mo)],.bool true]) (some (.row (CV (.slice 4 0 (ab (usaL c3)).length false 0 0) [ae pl rq h mx co se
 x1 n1 c1 x2 n2 c2 x3 n3 c3 ha mo x4 n4 c4 ag,.row [.str [],.nilSlice,.bool false,.bool false,.int u8 0] 38 5,.row [.bool (decide ((↑n3:Int)>
 0))] 4 1,.row [.str h,.nilSlice,.bool false,.bool false,.int u8 0] 38 5,.row (aa 4 (tls (ab (usaL c3))++aK (usaL c3))) 72 4]) 72 4))
 else R (.tuple [.agg [.str h,.slice 5 0 (NV (.slice 4 0 (ab (usaL c3)).length false 0 0) [ae pl rq h mx co se x1 n1 c1 x2 n2 c2 x3 n3 c3 ha mo x4 n4 c4 ag,
 .row [.str [],.nilSlice,.bool false,.bool false,.int u8 0] 38 5,.row [.bool (decide ((↑n3:Int)>0))] 4 1,.row [.str h,.nilSlice,.bool
 false,.bool false,.int u8 0] 38 5,.row (aa 4 (tls (ab (usaL c3))++aK (usaL c3))) 72 4]) false 0 0,.bool (efB pl rq ha mo),.bool (efB pl
 rq ha mo),.int u8 (kdI pl rq (decide ((↑n3:Int)>0)) ha mo)],.bool true]) (some (.row (CV (.slice 4 0 (ab (usaL c3)).length false 0 0) [ae pl rq
 h mx co se x1 n1 c1 x2 n2 c2 x3 n3 c3 ha mo x4 n4 c4 ag,.row [.str [],.nilSlice,.bool false,.bool false,.int u8 0] 38 5,.row [.bool (decide
 ((↑n3:Int)>0))] 4 1,.row [.str h,.nilSlice,.bool false,.bool false,.int u8 0] 38 5,.row (aa 4 (tls (ab (usaL c3))++aK (usaL
 c3))) 72 4]) 72 4))else bif decide ((↑n3:Int)>0)then R (.tuple [.agg [.str h,.slice 5 0 (NV (.slice 4 0 (ab (usaL c3)).length false 0 0) [ae pl rq h mx
 co se x1 n1 c1 x2 n2 c2 x3 n3 c3 ha mo x4 n4 c4 ag,.row [.str [],.nilSlice,.bool false,.bool false,.int u8 0] 38 5,.row [.bool (decide ((↑n3:
 Int)>0))] 4 1,.row [.str h,.nilSlice,.bool false,.bool false,.int u8 0] 38 5,.row (aa 4 (tls (ab (usaL c3))++aK (usaL c3))) 72 4])
 false 0 0,.bool false,.bool true,.int u8 (kdI pl rq (decide ((↑n3:Int)>0)) ha mo)],.bool true]) (some (.row (CV (.slice 4 0 (ab (usaL
 c3)).length false 0 0) [ae pl rq h mx co se x1 n1 c1 x2 n2 c2 x3 n3 c3 ha mo x4 n4 c4 ag,.row [.str [],.nilSlice,.bool false,.bool false,.int u8
 0] 38 5,.row [.bool (decide ((↑n3:Int)>0))] 4 1,.row [.str h,.nilSlice,.bool false,.bool false,.int u8 0] 38 5,.row (aa 4 (tls
 (ab (usaL c3))++aK (usaL c3))) 72 4]) 72 4))else R (.tuple [.agg [.str h,.slice 5 0 (NV (.slice 4 0 (ab (usaL c3)).length false 0 0) [ae pl rq h mx
 co se x1 n1 c1 x2 n2 c2 x3 n3 c3 ha mo x4 n4 c4 ag,.row [.str [],.nilSlice,.bool false,.bool false,.int u8 0] 38 5,.row [.bool (decide ((↑n3:
 Int)>0))] 4 1,.row [.str h,.nilSlice,.bool false,.bool false,.int u8 0] 38 5,.row (aa 4 (tls (ab (usaL c3))++aK (usaL c3))) 72 4])
 false 0 0,.bool false,.bool false,.int u8 (kdI pl rq (decide ((↑n3:Int)>0)) ha mo)],.bool true]) (some (.row (CV (.slice 4 0 (ab (usaL
 c3)).length false 0 0) [ae pl rq h mx co se x1 n1 c1 x2 n2 c2 x3 n3 c3 ha mo x4 n4 c4 ag,.row [.str [],.nilSlice,.bool false,.bool false,.int u8
 0] 38 5,.row [.bool (decide ((↑n3:Int)>0))] 4 1,.row [.str h,.nilSlice,.bool false,.bool false,.int u8 0] 38 5,.row (aa 4 (tls
 (ab (usaL c3))++aK (usaL c3))) 72 4]) 72 4))else False else False else bif rq then bif okS n4 c4 then bif !knB mx ha mo c4 h then R (.tuple [.agg [.str [],
 .nilSlice,.bool false,.bool false,.int u8 0],.bool false]) none else bif rq then bif decide ((↑n3:Int)>0)then R (.tuple [.agg [.str h,
 .nilSlice,.bool true,.bool true,.int u8 (kdI pl rq (decide ((↑n3:Int)>0)) ha mo)],.bool true]) none else R (.tuple [.agg [.str h,.nilSlice,
 .bool true,.bool true,.int u8 (kdI pl rq (decide ((↑n3:Int)>0)) ha mo)],.bool true]) none else bif decide ((↑n3:Int)>0)then R (.tuple [.agg
 [.str h,.nilSlice,.bool (efB pl rq ha mo),.bool true,.int u8 (kdI pl rq (decide ((↑n3:Int)>0)) ha mo)],.bool true]) none else R (.tuple [.agg
 [.str h,.nilSlice,.bool (efB pl rq ha mo),.bool (efB pl rq ha mo),.int u8 (kdI pl rq (decide ((↑n3:Int)>0)) ha mo)],.bool true]) none else False
 else bif rq then bif decide ((↑n3:Int)>0)then R (.tuple [.agg [.str h,.nilSlice,.bool true,.bool true,.int u8 (kdI pl rq (decide ((↑n3:Int)>
 0)) ha mo)],.bool true]) none else R (.tuple [.agg [.str h,.nilSlice,.bool true,.bool true,.int u8 (kdI pl rq (decide ((↑n3:Int)>0)) ha mo)],
 .bool true]) none else bif decide ((↑n3:Int)>0)then R (.tuple [.agg [.str h,.nilSlice,.bool (efB pl rq ha mo),.bool true,.int u8 (kdI pl rq
 (decide ((↑n3:Int)>0)) ha mo)],.bool true]) none else R (.tuple [.agg [.str h,.nilSlice,.bool (efB pl rq ha mo),.bool (efB pl rq ha mo),.int u8
 (kdI pl rq (decide ((↑n3:Int)>0)) ha mo)],.bool true]) none else bif rq then bif okS n4 c4 then bif !knB mx ha mo c4 h then R (.tuple [.agg [.str [],.nilSlice,
 .bool false,.bool false,.int u8 0],.bool false]) none else bif rq then R (.tuple [.agg [.str h,.nilSlice,.bool true,.bool true,.int u8
 (kdI pl rq false ha mo)],.bool true]) none else R (.tuple [.agg [.str h,.nilSlice,.bool (efB pl rq ha mo),.bool (efB pl rq ha mo),.int u8 (kdI pl rq
 false ha mo)],.bool true]) none else False else bif rq then R (.tuple [.agg [.str h,.nilSlice,.bool true,.bool true,.int u8 (kdI pl rq false ha mo)],
 .bool true]) none else R (.tuple [.agg [.str h,.nilSlice,.bool (efB pl rq ha mo),.bool (efB pl rq ha mo),.int u8 (kdI pl rq false ha mo)],.bool
 true]) none else bif rq then bif okS n4 c4 then bif !knB mx ha mo c4 h then R (.tuple [.agg [.str [],.nilSlice,.bool false,.bool false,.int u8 0],
 .bool false]) none else bif rq then R (.tuple [.agg [.str h,.nilSlice,.bool true,.bool true,.int u8 (kdI pl rq false ha mo)],.bool true]) none else
 R (.tuple [.agg [.str h,.nilSlice,.bool (efB pl rq ha mo),.bool (efB pl rq ha mo),.int u8 (kdI pl rq false ha mo)],.bool true]) none else False else
 bif rq then R (.tuple [.agg [.str h,.nilSlice,.bool true,.bool true,.int u8 (kdI pl rq false ha mo)],.bool true]) none else R (.tuple [.agg [.str
 h,.nilSlice,.bool (efB pl rq ha mo),.bool (efB pl rq ha mo),.int u8 (kdI pl rq false ha mo)],.bool true]) none else bif rq then bif okS n4 c4 then bif
 !knB mx ha mo c4 h then R (.tuple [.agg [.str [],.nilSlice,.bool false,.bool false,.int u8 0],.bool false]) none else bif rq then R (.tuple [.agg
 [.str h,.nilSlice,.bool true,.bool true,.int u8 (kdI pl rq false ha mo)],.bool true]) none else R (.tuple [.agg [.str h,.nilSlice,.bool (efB pl
 rq ha mo),.bool (efB pl rq ha mo),.int u8 (kdI pl rq false ha mo)],.bool true]) none else False else bif rq then R (.tuple [.agg [.str h,.nilSlice,
 .bool true,.bool true,.int u8 (kdI pl rq false ha mo)],.bool true]) none else R (.tuple [.agg [.str h,.nilSlice,.bool (efB pl rq ha mo),.bool (efB
 pl rq ha mo),.int u8 (kdI pl rq false ha mo)],.bool true]) none):=by kernel_rfl
end Go.Proofs.YtebkeppoicllmaaGreatDoor
namespace Go.Proofs.YtebkeppoicllmaaGreatDoor
open Go.IntKind (u8 u16 u32 u64 i8 i16 i32 i64)
open Go Go.Vm Go.RowKit
variable [Φ:Frz]
def secB(pl rq:Bool)(co:Int)(se:Bool)(n3:Nat):Bool:=!(pl&&!rq)&&(co==1&&(se&&decide ((n3:Int)>0)))
def dZ(pl rq:Bool)(co:Int)(se:Bool)(n3:Nat)(c3:List V):List TL:=bif secB pl rq co se n3 then ab (usaL c3)else[]
def chB(pl rq:Bool)(co:Int)(se:Bool)(n3:Nat)(c3:List V)(ha:Bool)(mo:Int):Bool:=(dZ pl rq co se n3 c3).isEmpty&&(rq||efB pl rq ha mo)
def notB(pl rq mx:Bool)(co:Int)(se:Bool)(n3:Nat)(c3:List V)(ha:Bool)(mo:Int)(c4:List V)(h:List UInt8):Bool:=rq&&((dZ pl rq co se n3 c3).isEmpty&&!knB mx ha mo c4 h)
def kR(k:Nat)(pl rq:Bool)(h:List UInt8)(co:Int)(se:Bool)(n3:Nat)(c3:List V)(ha:Bool)(mo:Int):V×St:=match k with
 |0=>(.tuple [.agg [.str [],.nilSlice,.bool false,.bool false,.int .u8 0],.bool false],[])
 |1=>(.tuple [.agg [.str h,.slice 0 0 (dZ pl rq co se n3 c3).length false 0 0,.bool (chB pl rq co se n3 c3 ha mo),.bool true,.int .u8 (kdI pl rq true ha mo)],.bool true],[.row (tls (dZ pl rq co se n3 c3)) 72 4])
 |_=>(.tuple [.agg [.str h,.nilSlice,.bool (rq||efB pl rq ha mo),.bool (rq||efB pl rq ha mo),.int .u8 (kdI pl rq false ha mo)],.bool true],[])
def gw:List V→Option (Qx)
 |[.agg [.bool pl,.bool rq,.str h,.bool mx,.int .u8 co,.bool se,.lst _ _ _,.lst _ _ _,.lst _ n3 c3,.bool ha,.int .u8 mo,.lst _ n4 c4,.int .i64 _]]=>
  some [((okT n3 c3&&okS n4 c4)&&notB pl rq mx co se n3 c3 ha mo c4 h,kR 0 pl rq h co se n3 c3 ha mo),((okT n3 c3&&okS n4 c4)&&secB pl rq co se n3,kR 1 pl rq h co se n3 c3 ha mo),(okT n3 c3&&okS n4 c4,kR 2 pl rq h co se n3 c3 ha mo)]
 |_=>none
def Rt(o:V×St)(v:V)(ob:Option Blk):Prop:=∀st:St,blkOf v st=ob→Fits 0 [o.1] o.2 [some v] st
theorem rt_nil{v:V}(hv:ax [v]=true)(ob:Option Blk):Rt (v,[]) v ob:=fun st _=>bZ [v] hv _ rfl st
theorem rt_row{b n:Nat}{h:List UInt8}{x y z:V}{w:V}{cells:List V}{t:TypeId}(hx:x.flat=true)(hy:y.flat=true)(hz:z.flat=true)(hw:w.flat=true)(hc:ax cells=true):Rt (.tuple [.agg [.str h,.slice 0 0 n false 0 0,x,y,z],w],[.row cells t 4]) (.tuple [.agg [.str h,.slice b 0 n false 0 0,x,y,z],w]) (some (.row cells t 4)):=fun st hst=>by
 have hst:st[b]?=some (.row cells t 4):=hst;have r2:=cJ (σ:=[b]) w hw;refine⟨[b],[.tuple [.agg [.str h,.slice b 0 n false 0 0,x,y,z],w]],rfl,?_,FitsM.of ⟨.inr ⟨.row cells t 4,.inl (by simp only[renB,bu _ hc]),hst⟩,trivial⟩,by simp,fun i hi=>by omega⟩;have a1:=cJ (σ:=[b]) x hx;have a2:=cJ (σ:=[b]) y hy;have a3:=cJ (σ:=[b]) z hz;simp only[renL,renV,bQ,a1,a2,a3,r2]
theorem tell_main(pl rq:Bool)(h:List UInt8)(mx:Bool)(co:Int)(se:Bool)(x1:Value)(n1:Nat)(c1:List V)(x2:Value)(n2:Nat)(c2:List V)(x3:Value)(n3:Nat)(c3:List V)(ha:Bool)(mo:Int)(x4:Value)(n4:Nat)(c4:List V)(ag:Int)(hk1:okT n3 c3=true)(hk2:okS n4 c4=true)(hnil:nilX (ec x3 0 (k4 n3) 4)=true→n3=0)(o:V×St)
  (ho:aO [(notB pl rq mx co se n3 c3 ha mo c4 h,kR 0 pl rq h co se n3 c3 ha mo),(secB pl rq co se n3,kR 1 pl rq h co se n3 c3 ha mo),(true,kR 2 pl rq h co se n3 c3 ha mo)]=some o):
  FnSat Qq 27 [.agg [.bool pl,.bool rq,.str h,.bool mx,.int .u8 co,.bool se,.lst x1 n1 c1,.lst x2 n2 c2,.lst x3 n3 c3,.bool ha,.int .u8 mo,.lst x4 n4 c4,.int .i64 ag]] [] (Is o):=by
 refine FnSat.fits ((eE aI TLT_ok (lim:=9) (n:=10) (cast (tell_tree clOK clN clC pl rq h mx co se x1 n1 c1 x2 n2 c2 x3 n3 c3 ha mo x4 n4 c4 ag (Rt o)).symm ?_)).mono fun u st hq=>hq st rfl);have hlen:(ab (usaL c3)).length≤4:=by
  have:=jo (usaL c3);have h4:(usaL c3).length≤4:=by unfold usaL;rw[List.length_take];omega
  omega
 have hv:dy [ae pl rq h mx co se x1 n1 c1 x2 n2 c2 x3 n3 c3 ha mo x4 n4 c4 ag,Blk.row [V.str [],V.nilSlice,V.bool false,V.bool false,V.int u8 0] 38 5,Blk.row [V.bool (decide ((↑n3:Int)>0))] 4 1,Blk.row [V.str h,V.nilSlice,V.bool false,V.bool false,V.int u8 0] 38 5,Blk.row (aa 4 (tls (ab (usaL c3))++aK (usaL c3))) 72 4] (V.slice 4 0 (ab (usaL c3)).length false 0 0)=some (true,ab (usaL c3)):=by
  refine kP (z:=aK (usaL c3)) (.inl ⟨72,4,?_⟩) false 0 0;rw[shA,shT,shZ];rfl
 have k1:clOK (V.slice 4 0 (ab (usaL c3)).length false 0 0) [ae pl rq h mx co se x1 n1 c1 x2 n2 c2 x3 n3 c3 ha mo x4 n4 c4 ag,Blk.row [V.str [],V.nilSlice,V.bool false,V.bool false,V.int u8 0] 38 5,Blk.row [V.bool (decide ((↑n3:Int)>0))] 4 1,Blk.row [V.str h,V.nilSlice,V.bool false,V.bool false,V.int u8 0] 38 5,Blk.row (aa 4 (tls (ab (usaL c3))++aK (usaL c3))) 72 4]=true:=by
  unfold clOK;rw[hv];show(true&&Nat.ble (ab (usaL c3)).length 4)=true;rw[ap hlen];rfl
 have k0:clL (V.slice 4 0 (ab (usaL c3)).length false 0 0) [ae pl rq h mx co se x1 n1 c1 x2 n2 c2 x3 n3 c3 ha mo x4 n4 c4 ag,Blk.row [V.str [],V.nilSlice,V.bool false,V.bool false,V.int u8 0] 38 5,Blk.row [V.bool (decide ((↑n3:Int)>0))] 4 1,Blk.row [V.str h,V.nilSlice,V.bool false,V.bool false,V.int u8 0] 38 5,Blk.row (aa 4 (tls (ab (usaL c3))++aK (usaL c3))) 72 4]=ab (usaL c3):=by
  unfold clL;rw[hv]
 simp only[clN,clC,k1,k0,hk1,hk2,ac,ay];clear k1 k0 hv;have hI:(ab (usaL c3)).isEmpty=!decide (((ab (usaL c3)).length:Int)>0):=by
  cases ab (usaL c3)<;>simp
 have hN:decide ((n3:Int)>0)=true→nilX (ec x3 0 (k4 n3) 4)=false:=fun hd=>by
  cases hx:nilX (ec x3 0 (k4 n3) 4)with
  |false=>rfl
  |true=>have:=hnil hx;subst this;simp at hd
 unfold notB kR chB dZ secB at ho;have hI2:∀S:Bool,(bif S then ab (usaL c3)else([]:List TL)).isEmpty=(bif S then !decide (((ab (usaL c3)).length:Int)>0)else true):=fun S=>by
  cases S with
  |true=>exact hI
  |false=>rfl
 simp only[hI2]at ho;generalize knB mx ha mo c4 h=KN at*
 generalize hef:efB pl rq ha mo=EF at*
 have hkt:∀b,kdI pl rq b ha mo=kdI pl rq b ha mo:=fun _=>rfl;generalize decide (((ab (usaL c3)).length:Int)>0)=E at*
 generalize (co==1)=B at*
 cases hD:decide ((n3:Int)>0)with
 |true=>
  rw[hN hD];rw[hD]at ho;cases pl<;>cases rq<;>cases B<;>cases se<;>cases E<;>cases KN<;>cases ho<;>first|exact rt_nil rfl _|exact rt_row rfl rfl rfl rfl (bR _)
 |false=>
  rw[hD]at ho;cases pl<;>cases rq<;>cases B<;>cases se<;>cases E<;>cases KN<;>cases ho<;>first|exact rt_nil rfl _|exact rt_row rfl rfl rfl rfl (bR _)
theorem tellT_ok(args:List V)(L:Qx)(o:V×St)(h:gw args=some L)(ho:aO L=some o):FnSat Qq 27 args [] (Is o):=by
 unfold gw at h;split at h
 ·rename_i pl rq hh mx co se x1 n1 c1 x2 n2 c2 x3 n3 c3 ha mo x4 n4 c4 ag;cases h;cases hk:(okT n3 c3&&okS n4 c4)with
  |false=>rw[hk]at ho;simp[aO]at ho
  |true=>
  rw[hk,ay,ay]at ho;rw[af]at hk;intro B W0 m w rargs hargs hr;obtain⟨a,r,q1,q2,e⟩:=aq hargs;obtain⟨xs,z0,_⟩:=c8 q1;obtain⟨_,_,_,z1,_⟩:=aq z0;obtain⟨_,_,_,z2,_⟩:=aq z1;obtain⟨_,_,_,z3,_⟩:=aq z2;obtain⟨_,_,_,z4,_⟩:=aq z3;obtain⟨_,_,_,z5,_⟩:=aq z4;obtain⟨_,_,_,z6,_⟩:=aq z5;obtain⟨_,_,_,z7,_⟩:=aq z6;obtain⟨_,_,_,z8,_⟩:=aq z7;obtain⟨_,_,q3,_,_⟩:=aq z8;exact tell_main pl rq hh mx co se x1 n1 c1 x2 n2 c2 x3 n3 c3 ha mo x4 n4 c4 ag hk.1 hk.2 (nil_zero q3) o ho B W0 m w rargs hargs hr
 ·cases h
end Go.Proofs.YtebkeppoicllmaaGreatDoor
end
